import PyProof.Rows.All
import Wide.All
import OpenK.AllK
import Wide.FinOn
import HandS.ForMost
import HandS.Style
import HandS.TupAny
import HandS.IsInst
import HandS.Defaults
import HandS.Property
import HandS.Exc
import HandS.ExcOwn
import HandS.WordsExc
import HandS.Wide
import HandS.WideBits
import HandS.More
import HandS.HeadHook4
import HandS.HeadWalk
import HandS.Lambda
import HandS.EndTab
import HandS.TryMany
import HandS.HotCalls
import HandS.ExcIs
import HandS.ExcField
import HandS.Deep
import HandS.Conv
import HandS.NoneIn
import HandS.Zip
import HandS.SetFor
import HandS.RaiseMore
import HandS.Head2
import KE.KOpsOwn
import KE.GoesEnum
import KE.KExcInit
import HandS.Walk
import HandS.Star
import PyProof.ReprReads
import PySem.Challenge.RW_wordshuffles_k61_whole_books_through_dee
set_option Elab.async false
set_option linter.all false
set_option maxRecDepth 100000
set_option maxHeartbeats 4000000
namespace WH
open PySem PySem.Spec PyProof.Rows L2
abbrev PP : Program := PySem.Challenge.pw_wordshuffles_k61_whole_books_through_dee
def top (i : Nat) : Stmt := PP.main.body.getD i (.Pass ⟨0, 0, 0, 0⟩)
abbrev s_InvalidIndex_init : Stmt := inClass (top 7) 0
abbrev ps_InvalidIndex_init : List Str := ["self", "given"]
abbrev ns_InvalidIndex_init : List Str := ["self", "given"]
abbrev s_UnknownName_init : Stmt := inClass (top 16) 0
abbrev ps_UnknownName_init : List Str := ["self", "given"]
abbrev ns_UnknownName_init : List Str := ["self", "given"]
abbrev s_Broken_init : Stmt := inClass (top 20) 0
abbrev ps_Broken_init : List Str := ["self", "index"]
abbrev ns_Broken_init : List Str := ["self", "index"]
abbrev s_InUse_init : Stmt := inClass (top 21) 0
abbrev ps_InUse_init : List Str := ["self", "index"]
abbrev ns_InUse_init : List Str := ["self", "index"]
abbrev s_is_integer : Stmt := top 27
abbrev ps_is_integer : List Str := ["value"]
abbrev ns_is_integer : List Str := ["value"]
abbrev s_is_between : Stmt := top 28
abbrev ps_is_between : List Str := ["value", "low", "high"]
abbrev ns_is_between : List Str := ["value", "low", "high"]
abbrev s_is_name : Stmt := top 29
abbrev ps_is_name : List Str := ["value"]
abbrev ns_is_name : List Str := ["value", "sign"]
abbrev s_power_of : Stmt := top 32
abbrev ps_power_of : List Str := ["base", "many"]
abbrev ns_power_of : List Str := ["base", "many", "found", "turn"]
abbrev s_is_number : Stmt := top 38
abbrev ps_is_number : List Str := ["value"]
abbrev ns_is_number : List Str := ["value"]
abbrev s_check_numbers : Stmt := top 39
abbrev ps_check_numbers : List Str := ["values"]
abbrev ns_check_numbers : List Str := ["values", "index", "value"]
abbrev s_value_of : Stmt := top 40
abbrev ps_value_of : List Str := ["numbers", "x"]
abbrev ns_value_of : List Str := ["numbers", "x", "found", "number"]
abbrev s_size_of : Stmt := top 41
abbrev ps_size_of : List Str := ["bits"]
abbrev ns_size_of : List Str := ["bits"]
abbrev s_check_bits : Stmt := top 42
abbrev ps_check_bits : List Str := ["value", "most"]
abbrev ns_check_bits : List Str := ["value", "most"]
abbrev s_check_word : Stmt := top 43
abbrev ps_check_word : List Str := ["value", "bits"]
abbrev ns_check_word : List Str := ["value", "bits"]
abbrev s_Rule_init : Stmt := inClass (top 44) 0
abbrev ps_Rule_init : List Str := ["self", "numbers"]
abbrev ns_Rule_init : List Str := ["self", "numbers"]
abbrev s_Rule_numbers : Stmt := inClass (top 44) 2
abbrev ps_Rule_numbers : List Str := ["self"]
abbrev ns_Rule_numbers : List Str := ["self"]
abbrev s_Rule_next_of : Stmt := inClass (top 44) 5
abbrev ps_Rule_next_of : List Str := ["self", "bits", "word"]
abbrev ns_Rule_next_of : List Str := ["self", "bits", "word"]
abbrev s_check_rule : Stmt := top 45
abbrev ps_check_rule : List Str := ["value"]
abbrev ns_check_rule : List Str := ["value"]
abbrev s_round_by : Stmt := top 48
abbrev ps_round_by : List Str := ["row", "size", "word"]
abbrev ns_round_by : List Str := ["row", "size", "word", "numbers"]
abbrev s_product : Stmt := top 49
abbrev ps_product : List Str := ["one", "other", "size"]
abbrev ns_product : List Str := ["one", "other", "size", "found", "number", "i", "j"]
abbrev s_put_into : Stmt := top 50
abbrev ps_put_into : List Str := ["numbers", "inner", "size"]
abbrev ns_put_into : List Str := ["numbers", "inner", "size", "found", "number", "lifted"]
abbrev s_part_of : Stmt := top 51
abbrev ps_part_of : List Str := ["bits"]
abbrev ns_part_of : List Str := ["bits"]
abbrev s_hop_of : Stmt := top 52
abbrev ps_hop_of : List Str := ["row", "bits", "low", "rounds"]
abbrev ns_hop_of : List Str := ["row", "bits", "low", "rounds", "size", "part", "many", "found", "power", "turn", "numbers", "number"]
abbrev s_cycle_from : Stmt := top 53
abbrev ps_cycle_from : List Str := ["row", "bits", "word"]
abbrev ns_cycle_from : List Str := ["row", "bits", "word", "size", "part", "found", "known", "here"]
abbrev s_hopped : Stmt := top 54
abbrev ps_hopped : List Str := ["hop", "size", "place", "times"]
abbrev ns_hopped : List Str := ["hop", "size", "place", "times"]
abbrev s_word_after : Stmt := top 55
abbrev ps_word_after : List Str := ["row", "bits", "word", "rounds"]
abbrev ns_word_after : List Str := ["row", "bits", "word", "rounds", "words", "first", "size", "part", "length", "times", "left", "low", "hop", "here", "turn"]
abbrev s_ring_size : Stmt := top 56
abbrev ps_ring_size : List Str := ["row", "bits", "word"]
abbrev ns_ring_size : List Str := ["row", "bits", "word", "words", "first", "part", "length", "place", "hop", "size", "step"]
abbrev s_rounds_between : Stmt := top 57
abbrev ps_rounds_between : List Str := ["row", "bits", "word", "aim"]
abbrev ns_rounds_between : List Str := ["row", "bits", "word", "aim", "words", "first", "part", "length", "spots", "at", "found", "place", "goal", "hop", "size", "step", "moved"]
abbrev s_is_shuffle_for : Stmt := top 59
abbrev ps_is_shuffle_for : List Str := ["numbers", "bits"]
abbrev ns_is_shuffle_for : List Str := ["numbers", "bits", "first"]
abbrev s_check_shuffle : Stmt := top 62
abbrev ps_check_shuffle : List Str := ["rule", "bits"]
abbrev ns_check_shuffle : List Str := ["rule", "bits"]
abbrev s_check_asked : Stmt := top 63
abbrev ps_check_asked : List Str := ["rule", "bits", "word"]
abbrev ns_check_asked : List Str := ["rule", "bits", "word"]
abbrev s_walked : Stmt := top 64
abbrev ps_walked : List Str := ["rule", "bits", "word"]
abbrev ns_walked : List Str := ["rule", "bits", "word", "found", "here"]
abbrev s_is_ring_for : Stmt := top 65
abbrev ps_is_ring_for : List Str := ["rule", "bits"]
abbrev ns_is_ring_for : List Str := ["rule", "bits", "few"]
abbrev s_check_turns : Stmt := top 67
abbrev ps_check_turns : List Str := ["value"]
abbrev ns_check_turns : List Str := ["value"]
abbrev s_check_back : Stmt := top 68
abbrev ps_check_back : List Str := ["rule", "bits", "turns"]
abbrev ns_check_back : List Str := ["rule", "bits", "turns"]
abbrev s_reached : Stmt := top 69
abbrev ps_reached : List Str := ["rule", "bits", "word", "turns"]
abbrev ns_reached : List Str := ["rule", "bits", "word", "turns", "row"]
abbrev s_after : Stmt := top 70
abbrev ps_after : List Str := ["rule", "bits", "word", "turns"]
abbrev ns_after : List Str := ["rule", "bits", "word", "turns"]
abbrev s_turns_to : Stmt := top 71
abbrev ps_turns_to : List Str := ["rule", "bits", "word", "aim"]
abbrev ns_turns_to : List Str := ["rule", "bits", "word", "aim"]
abbrev s_is_word : Stmt := top 76
abbrev ps_is_word : List Str := ["value", "bits"]
abbrev ns_is_word : List Str := ["value", "bits"]
abbrev s_are_bits_and_words : Stmt := top 77
abbrev ps_are_bits_and_words : List Str := ["bits", "words"]
abbrev ns_are_bits_and_words : List Str := ["bits", "words", "word"]
abbrev s_is_many : Stmt := top 78
abbrev ps_is_many : List Str := ["value"]
abbrev ns_is_many : List Str := ["value"]
abbrev s_is_wish : Stmt := top 79
abbrev ps_is_wish : List Str := ["value"]
abbrev ns_is_wish : List Str := ["value"]
abbrev s_is_always_ring_rule : Stmt := top 80
abbrev ps_is_always_ring_rule : List Str := ["rule"]
abbrev ns_is_always_ring_rule : List Str := ["rule"]
abbrev s_is_always_shuffle_rule : Stmt := top 81
abbrev ps_is_always_shuffle_rule : List Str := ["rule"]
abbrev ns_is_always_shuffle_rule : List Str := ["rule"]
abbrev s_has_length : Stmt := top 82
abbrev ps_has_length : List Str := ["rule", "bits", "word", "many"]
abbrev ns_has_length : List Str := ["rule", "bits", "word", "many"]
abbrev s_coming : Stmt := top 83
abbrev ps_coming : List Str := ["rule", "bits", "word", "aim"]
abbrev ns_coming : List Str := ["rule", "bits", "word", "aim"]
abbrev s_holds_for : Stmt := top 84
abbrev ps_holds_for : List Str := ["rule", "wish"]
abbrev ns_holds_for : List Str := ["rule", "wish", "word"]
abbrev s_place_of : Stmt := top 86
abbrev ps_place_of : List Str := ["rows", "name"]
abbrev ns_place_of : List Str := ["rows", "name", "at", "row"]
abbrev s_is_about : Stmt := top 87
abbrev ps_is_about : List Str := ["wish", "name"]
abbrev ns_is_about : List Str := ["wish", "name"]
abbrev s_Book_init : Stmt := inClass (top 88) 0
abbrev ps_Book_init : List Str := ["self"]
abbrev ns_Book_init : List Str := ["self"]
abbrev s_Book_go_on : Stmt := inClass (top 88) 1
abbrev ps_Book_go_on : List Str := ["self", "rows", "wishes"]
abbrev ns_Book_go_on : List Str := ["self", "rows", "wishes"]
abbrev s_Book_setitem : Stmt := inClass (top 88) 2
abbrev ps_Book_setitem : List Str := ["self", "name", "rule"]
abbrev ns_Book_setitem : List Str := ["self", "name", "rule", "index", "wish", "rows", "row"]
abbrev s_Book_getitem : Stmt := inClass (top 88) 3
abbrev ps_Book_getitem : List Str := ["self", "name"]
abbrev ns_Book_getitem : List Str := ["self", "name", "place"]
abbrev s_Book_len : Stmt := inClass (top 88) 6
abbrev ps_Book_len : List Str := ["self"]
abbrev ns_Book_len : List Str := ["self"]
abbrev s_Book_names : Stmt := inClass (top 88) 7
abbrev ps_Book_names : List Str := ["self"]
abbrev ns_Book_names : List Str := ["self", "row"]
abbrev s_Book_wishes : Stmt := inClass (top 88) 8
abbrev ps_Book_wishes : List Str := ["self"]
abbrev ns_Book_wishes : List Str := ["self"]
abbrev s_Book_changes : Stmt := inClass (top 88) 9
abbrev ps_Book_changes : List Str := ["self"]
abbrev ns_Book_changes : List Str := ["self"]
abbrev s_Book_drop : Stmt := inClass (top 88) 10
abbrev ps_Book_drop : List Str := ["self", "name"]
abbrev ns_Book_drop : List Str := ["self", "name", "index", "wish", "row"]
abbrev s_Book_wish : Stmt := inClass (top 88) 11
abbrev ps_Book_wish : List Str := ["self", "wish"]
abbrev ns_Book_wish : List Str := ["self", "wish", "rows", "wishes", "place"]
abbrev s_Book_lift : Stmt := inClass (top 88) 12
abbrev ps_Book_lift : List Str := ["self", "index"]
abbrev ns_Book_lift : List Str := ["self", "index", "rows", "wishes"]
abbrev s_Book_undo : Stmt := inClass (top 88) 13
abbrev ps_Book_undo : List Str := ["self"]
abbrev ns_Book_undo : List Str := ["self"]
abbrev s_law_jar : Stmt := top 90
abbrev ps_law_jar : List Str := ["_law_cells", "_law_turn"]
abbrev ns_law_jar : List Str := ["_law_cells", "_law_turn", "_law_cell", "_law_mixed", "_law_each"]
abbrev s_law_dip : Stmt := top 91
abbrev ps_law_dip : List Str := ["_law_jar_here", "_law_top"]
abbrev ns_law_dip : List Str := ["_law_jar_here", "_law_top", "_law_digit"]
abbrev s_law_one_of : Stmt := top 92
abbrev ps_law_one_of : List Str := ["_law_jar_here", "_law_some"]
abbrev ns_law_one_of : List Str := ["_law_jar_here", "_law_some"]
abbrev s_law_size : Stmt := top 93
abbrev ps_law_size : List Str := ["_law_width"]
abbrev ns_law_size : List Str := ["_law_width", "_law_found", "_law_turn"]
abbrev s_law_cut : Stmt := top 94
abbrev ps_law_cut : List Str := ["_law_numbers_here"]
abbrev ns_law_cut : List Str := ["_law_numbers_here", "_law_found"]
abbrev s_law_any_numbers : Stmt := top 95
abbrev ps_law_any_numbers : List Str := ["_law_jar_here", "_law_most"]
abbrev ns_law_any_numbers : List Str := ["_law_jar_here", "_law_most", "_law_top", "_law_found", "_law_k"]
abbrev s_law_shuffle_numbers : Stmt := top 96
abbrev ps_law_shuffle_numbers : List Str := ["_law_jar_here", "_law_most"]
abbrev ns_law_shuffle_numbers : List Str := ["_law_jar_here", "_law_most", "_law_found", "_law_k"]
abbrev s_law_ring_numbers : Stmt := top 97
abbrev ps_law_ring_numbers : List Str := ["_law_jar_here", "_law_most"]
abbrev ns_law_ring_numbers : List Str := ["_law_jar_here", "_law_most", "_law_found", "_law_gap"]
abbrev s_law_numbers : Stmt := top 98
abbrev ps_law_numbers : List Str := ["_law_jar_here", "_law_most"]
abbrev ns_law_numbers : List Str := ["_law_jar_here", "_law_most", "_law_way"]
abbrev s_law_error : Stmt := top 99
abbrev ps_law_error : List Str := ["_law_e"]
abbrev ns_law_error : List Str := ["_law_e", "_law_fits_here", "_law_names_here", "_law_bases", "_law_plain_ones", "_law_at"]
abbrev s_law_field : Stmt := top 100
abbrev ps_law_field : List Str := ["_law_e", "_law_said"]
abbrev ns_law_field : List Str := ["_law_e", "_law_said"]
abbrev s_law_told : Stmt := top 101
abbrev ps_law_told : List Str := ["_law_act"]
abbrev ns_law_told : List Str := ["_law_act", "_law_back", "_law_e", "_law_said"]
abbrev s_law_value : Stmt := top 102
abbrev ps_law_value : List Str := ["_law_numbers_here", "_law_x"]
abbrev ns_law_value : List Str := ["_law_numbers_here", "_law_x", "_law_found", "_law_power", "_law_each"]
abbrev s_law_next : Stmt := top 103
abbrev ps_law_next : List Str := ["_law_numbers_here", "_law_width", "_law_spot"]
abbrev ns_law_next : List Str := ["_law_numbers_here", "_law_width", "_law_spot"]
abbrev s_law_followers : Stmt := top 104
abbrev ps_law_followers : List Str := ["_law_numbers_here", "_law_width"]
abbrev ns_law_followers : List Str := ["_law_numbers_here", "_law_width", "_law_spot"]
abbrev s_law_path : Stmt := top 105
abbrev ps_law_path : List Str := ["_law_numbers_here", "_law_width", "_law_spot"]
abbrev ns_law_path : List Str := ["_law_numbers_here", "_law_width", "_law_spot", "_law_found", "_law_known", "_law_k", "_law_later"]
abbrev s_law_after : Stmt := top 106
abbrev ps_law_after : List Str := ["_law_numbers_here", "_law_width", "_law_spot", "_law_n"]
abbrev ns_law_after : List Str := ["_law_numbers_here", "_law_width", "_law_spot", "_law_n", "_law_path_here", "_law_begin"]
abbrev s_law_is_shuffle : Stmt := top 107
abbrev ps_law_is_shuffle : List Str := ["_law_numbers_here", "_law_width"]
abbrev ns_law_is_shuffle : List Str := ["_law_numbers_here", "_law_width", "_law_few"]
abbrev s_law_is_ring : Stmt := top 108
abbrev ps_law_is_ring : List Str := ["_law_numbers_here", "_law_width"]
abbrev ns_law_is_ring : List Str := ["_law_numbers_here", "_law_width", "_law_few", "_law_path_here", "_law_begin"]
abbrev s_law_length : Stmt := top 109
abbrev ps_law_length : List Str := ["_law_numbers_here", "_law_width", "_law_spot"]
abbrev ns_law_length : List Str := ["_law_numbers_here", "_law_width", "_law_spot"]
abbrev s_law_coming : Stmt := top 110
abbrev ps_law_coming : List Str := ["_law_numbers_here", "_law_width", "_law_spot", "_law_goal"]
abbrev ns_law_coming : List Str := ["_law_numbers_here", "_law_width", "_law_spot", "_law_goal", "_law_path_here"]
abbrev s_law_wish : Stmt := top 111
abbrev ps_law_wish : List Str := ["_law_jar_here", "_law_called", "_law_numbers_here"]
abbrev ns_law_wish : List Str := ["_law_jar_here", "_law_called", "_law_numbers_here", "_law_way", "_law_width", "_law_spot", "_law_goal", "_law_due", "_law_n", "_law_fresh"]
abbrev s_law_holds : Stmt := top 112
abbrev ps_law_holds : List Str := ["_law_hope", "_law_numbers_here"]
abbrev ns_law_holds : List Str := ["_law_hope", "_law_numbers_here"]
abbrev s_law_book_deed : Stmt := top 113
abbrev ps_law_book_deed : List Str := ["_law_jar_here", "_law_kept_here", "_law_made"]
abbrev ns_law_book_deed : List Str := ["_law_jar_here", "_law_kept_here", "_law_made", "_law_way", "_law_called", "_law_each"]
abbrev s_law_kept : Stmt := top 114
abbrev ps_law_kept : List Str := ["_law_kept_here", "_law_called", "_law_fresh"]
abbrev ns_law_kept : List Str := ["_law_kept_here", "_law_called", "_law_fresh", "_law_found", "_law_each"]
abbrev s_law_book_due : Stmt := top 115
abbrev ps_law_book_due : List Str := ["_law_past", "_law_deed_here"]
abbrev ns_law_book_due : List Str := ["_law_past", "_law_deed_here", "_law_kept_here", "_law_made", "_law_said", "_law_hope", "_law_called", "_law_named", "_law_k", "_law_wrong"]
abbrev s_law_put_in : Stmt := top 116
abbrev ps_law_put_in : List Str := ["_law_book", "_law_called", "_law_thing"]
abbrev ns_law_put_in : List Str := ["_law_book", "_law_called", "_law_thing"]
abbrev s_law_book_do : Stmt := top 117
abbrev ps_law_book_do : List Str := ["_law_book", "_law_deed_here"]
abbrev ns_law_book_do : List Str := ["_law_book", "_law_deed_here"]
abbrev s_law_book_shows : Stmt := top 118
abbrev ps_law_book_shows : List Str := ["_law_book", "_law_past"]
abbrev ns_law_book_shows : List Str := ["_law_book", "_law_past", "_law_kept_here", "_law_made", "_law_due", "_law_each"]
abbrev s_law_right : Stmt := top 119
abbrev ps_law_right : List Str := ["_law_jar_here"]
abbrev ns_law_right : List Str := ["_law_jar_here", "_law_book", "_law_past", "_law_k", "_law_deed_here", "_law_due", "_law_told_here"]
abbrev s_law : Stmt := top 120
abbrev ps_law : List Str := ["_law_script"]
abbrev ns_law : List Str := ["_law_script", "_law_k"]
def d_InvalidIndex_init : He.DefD := ⟨("InvalidIndex", some "__init__"), "__init__", "InvalidIndex.__init__", defArgs s_InvalidIndex_init, defBody s_InvalidIndex_init, defScope s_InvalidIndex_init, [], []⟩
def d_UnknownName_init : He.DefD := ⟨("UnknownName", some "__init__"), "__init__", "UnknownName.__init__", defArgs s_UnknownName_init, defBody s_UnknownName_init, defScope s_UnknownName_init, [], []⟩
def d_Broken_init : He.DefD := ⟨("Broken", some "__init__"), "__init__", "Broken.__init__", defArgs s_Broken_init, defBody s_Broken_init, defScope s_Broken_init, [], []⟩
def d_InUse_init : He.DefD := ⟨("InUse", some "__init__"), "__init__", "InUse.__init__", defArgs s_InUse_init, defBody s_InUse_init, defScope s_InUse_init, [], []⟩
def d_is_integer : He.DefD := ⟨("is_integer", none), "is_integer", "is_integer", defArgs s_is_integer, defBody s_is_integer, defScope s_is_integer, [], []⟩
def d_is_between : He.DefD := ⟨("is_between", none), "is_between", "is_between", defArgs s_is_between, defBody s_is_between, defScope s_is_between, [], []⟩
def d_is_name : He.DefD := ⟨("is_name", none), "is_name", "is_name", defArgs s_is_name, defBody s_is_name, defScope s_is_name, [], []⟩
def d_power_of : He.DefD := ⟨("power_of", none), "power_of", "power_of", defArgs s_power_of, defBody s_power_of, defScope s_power_of, [], []⟩
def d_is_number : He.DefD := ⟨("is_number", none), "is_number", "is_number", defArgs s_is_number, defBody s_is_number, defScope s_is_number, [], []⟩
def d_check_numbers : He.DefD := ⟨("check_numbers", none), "check_numbers", "check_numbers", defArgs s_check_numbers, defBody s_check_numbers, defScope s_check_numbers, [], []⟩
def d_value_of : He.DefD := ⟨("value_of", none), "value_of", "value_of", defArgs s_value_of, defBody s_value_of, defScope s_value_of, [], []⟩
def d_size_of : He.DefD := ⟨("size_of", none), "size_of", "size_of", defArgs s_size_of, defBody s_size_of, defScope s_size_of, [], []⟩
def d_check_bits : He.DefD := ⟨("check_bits", none), "check_bits", "check_bits", defArgs s_check_bits, defBody s_check_bits, defScope s_check_bits, [.int 64], []⟩
def d_check_word : He.DefD := ⟨("check_word", none), "check_word", "check_word", defArgs s_check_word, defBody s_check_word, defScope s_check_word, [], []⟩
def d_Rule_init : He.DefD := ⟨("Rule", some "__init__"), "__init__", "Rule.__init__", defArgs s_Rule_init, defBody s_Rule_init, defScope s_Rule_init, [], []⟩
def d_Rule_numbers : He.DefD := ⟨("Rule", some "numbers"), "numbers", "Rule.numbers", defArgs s_Rule_numbers, defBody s_Rule_numbers, defScope s_Rule_numbers, [], []⟩
def d_Rule_next_of : He.DefD := ⟨("Rule", some "next_of"), "next_of", "Rule.next_of", defArgs s_Rule_next_of, defBody s_Rule_next_of, defScope s_Rule_next_of, [], []⟩
def d_check_rule : He.DefD := ⟨("check_rule", none), "check_rule", "check_rule", defArgs s_check_rule, defBody s_check_rule, defScope s_check_rule, [], []⟩
def d_round_by : He.DefD := ⟨("round_by", none), "round_by", "round_by", defArgs s_round_by, defBody s_round_by, defScope s_round_by, [], []⟩
def d_product : He.DefD := ⟨("product", none), "product", "product", defArgs s_product, defBody s_product, defScope s_product, [], []⟩
def d_put_into : He.DefD := ⟨("put_into", none), "put_into", "put_into", defArgs s_put_into, defBody s_put_into, defScope s_put_into, [], []⟩
def d_part_of : He.DefD := ⟨("part_of", none), "part_of", "part_of", defArgs s_part_of, defBody s_part_of, defScope s_part_of, [], []⟩
def d_hop_of : He.DefD := ⟨("hop_of", none), "hop_of", "hop_of", defArgs s_hop_of, defBody s_hop_of, defScope s_hop_of, [], []⟩
def d_cycle_from : He.DefD := ⟨("cycle_from", none), "cycle_from", "cycle_from", defArgs s_cycle_from, defBody s_cycle_from, defScope s_cycle_from, [], []⟩
def d_hopped : He.DefD := ⟨("hopped", none), "hopped", "hopped", defArgs s_hopped, defBody s_hopped, defScope s_hopped, [], []⟩
def d_word_after : He.DefD := ⟨("word_after", none), "word_after", "word_after", defArgs s_word_after, defBody s_word_after, defScope s_word_after, [], []⟩
def d_ring_size : He.DefD := ⟨("ring_size", none), "ring_size", "ring_size", defArgs s_ring_size, defBody s_ring_size, defScope s_ring_size, [], []⟩
def d_rounds_between : He.DefD := ⟨("rounds_between", none), "rounds_between", "rounds_between", defArgs s_rounds_between, defBody s_rounds_between, defScope s_rounds_between, [], []⟩
def d_is_shuffle_for : He.DefD := ⟨("is_shuffle_for", none), "is_shuffle_for", "is_shuffle_for", defArgs s_is_shuffle_for, defBody s_is_shuffle_for, defScope s_is_shuffle_for, [], []⟩
def d_check_shuffle : He.DefD := ⟨("check_shuffle", none), "check_shuffle", "check_shuffle", defArgs s_check_shuffle, defBody s_check_shuffle, defScope s_check_shuffle, [], []⟩
def d_check_asked : He.DefD := ⟨("check_asked", none), "check_asked", "check_asked", defArgs s_check_asked, defBody s_check_asked, defScope s_check_asked, [], []⟩
def d_walked : He.DefD := ⟨("walked", none), "walked", "walked", defArgs s_walked, defBody s_walked, defScope s_walked, [], []⟩
def d_is_ring_for : He.DefD := ⟨("is_ring_for", none), "is_ring_for", "is_ring_for", defArgs s_is_ring_for, defBody s_is_ring_for, defScope s_is_ring_for, [], []⟩
def d_check_turns : He.DefD := ⟨("check_turns", none), "check_turns", "check_turns", defArgs s_check_turns, defBody s_check_turns, defScope s_check_turns, [], []⟩
def d_check_back : He.DefD := ⟨("check_back", none), "check_back", "check_back", defArgs s_check_back, defBody s_check_back, defScope s_check_back, [], []⟩
def d_reached : He.DefD := ⟨("reached", none), "reached", "reached", defArgs s_reached, defBody s_reached, defScope s_reached, [], []⟩
def d_after : He.DefD := ⟨("after", none), "after", "after", defArgs s_after, defBody s_after, defScope s_after, [], []⟩
def d_turns_to : He.DefD := ⟨("turns_to", none), "turns_to", "turns_to", defArgs s_turns_to, defBody s_turns_to, defScope s_turns_to, [], []⟩
def d_is_word : He.DefD := ⟨("is_word", none), "is_word", "is_word", defArgs s_is_word, defBody s_is_word, defScope s_is_word, [], []⟩
def d_are_bits_and_words : He.DefD := ⟨("are_bits_and_words", none), "are_bits_and_words", "are_bits_and_words", defArgs s_are_bits_and_words, defBody s_are_bits_and_words, defScope s_are_bits_and_words, [], []⟩
def d_is_many : He.DefD := ⟨("is_many", none), "is_many", "is_many", defArgs s_is_many, defBody s_is_many, defScope s_is_many, [], []⟩
def d_is_wish : He.DefD := ⟨("is_wish", none), "is_wish", "is_wish", defArgs s_is_wish, defBody s_is_wish, defScope s_is_wish, [], []⟩
def d_is_always_ring_rule : He.DefD := ⟨("is_always_ring_rule", none), "is_always_ring_rule", "is_always_ring_rule", defArgs s_is_always_ring_rule, defBody s_is_always_ring_rule, defScope s_is_always_ring_rule, [], []⟩
def d_is_always_shuffle_rule : He.DefD := ⟨("is_always_shuffle_rule", none), "is_always_shuffle_rule", "is_always_shuffle_rule", defArgs s_is_always_shuffle_rule, defBody s_is_always_shuffle_rule, defScope s_is_always_shuffle_rule, [], []⟩
def d_has_length : He.DefD := ⟨("has_length", none), "has_length", "has_length", defArgs s_has_length, defBody s_has_length, defScope s_has_length, [], []⟩
def d_coming : He.DefD := ⟨("coming", none), "coming", "coming", defArgs s_coming, defBody s_coming, defScope s_coming, [], []⟩
def d_holds_for : He.DefD := ⟨("holds_for", none), "holds_for", "holds_for", defArgs s_holds_for, defBody s_holds_for, defScope s_holds_for, [], []⟩
def d_place_of : He.DefD := ⟨("place_of", none), "place_of", "place_of", defArgs s_place_of, defBody s_place_of, defScope s_place_of, [], []⟩
def d_is_about : He.DefD := ⟨("is_about", none), "is_about", "is_about", defArgs s_is_about, defBody s_is_about, defScope s_is_about, [], []⟩
def d_Book_init : He.DefD := ⟨("Book", some "__init__"), "__init__", "Book.__init__", defArgs s_Book_init, defBody s_Book_init, defScope s_Book_init, [], []⟩
def d_Book_go_on : He.DefD := ⟨("Book", some "go_on"), "go_on", "Book.go_on", defArgs s_Book_go_on, defBody s_Book_go_on, defScope s_Book_go_on, [], []⟩
def d_Book_setitem : He.DefD := ⟨("Book", some "__setitem__"), "__setitem__", "Book.__setitem__", defArgs s_Book_setitem, defBody s_Book_setitem, defScope s_Book_setitem, [], []⟩
def d_Book_getitem : He.DefD := ⟨("Book", some "__getitem__"), "__getitem__", "Book.__getitem__", defArgs s_Book_getitem, defBody s_Book_getitem, defScope s_Book_getitem, [], []⟩
def d_Book_len : He.DefD := ⟨("Book", some "__len__"), "__len__", "Book.__len__", defArgs s_Book_len, defBody s_Book_len, defScope s_Book_len, [], []⟩
def d_Book_names : He.DefD := ⟨("Book", some "names"), "names", "Book.names", defArgs s_Book_names, defBody s_Book_names, defScope s_Book_names, [], []⟩
def d_Book_wishes : He.DefD := ⟨("Book", some "wishes"), "wishes", "Book.wishes", defArgs s_Book_wishes, defBody s_Book_wishes, defScope s_Book_wishes, [], []⟩
def d_Book_changes : He.DefD := ⟨("Book", some "changes"), "changes", "Book.changes", defArgs s_Book_changes, defBody s_Book_changes, defScope s_Book_changes, [], []⟩
def d_Book_drop : He.DefD := ⟨("Book", some "drop"), "drop", "Book.drop", defArgs s_Book_drop, defBody s_Book_drop, defScope s_Book_drop, [], []⟩
def d_Book_wish : He.DefD := ⟨("Book", some "wish"), "wish", "Book.wish", defArgs s_Book_wish, defBody s_Book_wish, defScope s_Book_wish, [], []⟩
def d_Book_lift : He.DefD := ⟨("Book", some "lift"), "lift", "Book.lift", defArgs s_Book_lift, defBody s_Book_lift, defScope s_Book_lift, [], []⟩
def d_Book_undo : He.DefD := ⟨("Book", some "undo"), "undo", "Book.undo", defArgs s_Book_undo, defBody s_Book_undo, defScope s_Book_undo, [], []⟩
def d_law_jar : He.DefD := ⟨("_law_jar", none), "_law_jar", "_law_jar", defArgs s_law_jar, defBody s_law_jar, defScope s_law_jar, [], []⟩
def d_law_dip : He.DefD := ⟨("_law_dip", none), "_law_dip", "_law_dip", defArgs s_law_dip, defBody s_law_dip, defScope s_law_dip, [], []⟩
def d_law_one_of : He.DefD := ⟨("_law_one_of", none), "_law_one_of", "_law_one_of", defArgs s_law_one_of, defBody s_law_one_of, defScope s_law_one_of, [], []⟩
def d_law_size : He.DefD := ⟨("_law_size", none), "_law_size", "_law_size", defArgs s_law_size, defBody s_law_size, defScope s_law_size, [], []⟩
def d_law_cut : He.DefD := ⟨("_law_cut", none), "_law_cut", "_law_cut", defArgs s_law_cut, defBody s_law_cut, defScope s_law_cut, [], []⟩
def d_law_any_numbers : He.DefD := ⟨("_law_any_numbers", none), "_law_any_numbers", "_law_any_numbers", defArgs s_law_any_numbers, defBody s_law_any_numbers, defScope s_law_any_numbers, [], []⟩
def d_law_shuffle_numbers : He.DefD := ⟨("_law_shuffle_numbers", none), "_law_shuffle_numbers", "_law_shuffle_numbers", defArgs s_law_shuffle_numbers, defBody s_law_shuffle_numbers, defScope s_law_shuffle_numbers, [], []⟩
def d_law_ring_numbers : He.DefD := ⟨("_law_ring_numbers", none), "_law_ring_numbers", "_law_ring_numbers", defArgs s_law_ring_numbers, defBody s_law_ring_numbers, defScope s_law_ring_numbers, [], []⟩
def d_law_numbers : He.DefD := ⟨("_law_numbers", none), "_law_numbers", "_law_numbers", defArgs s_law_numbers, defBody s_law_numbers, defScope s_law_numbers, [], []⟩
def d_law_error : He.DefD := ⟨("_law_error", none), "_law_error", "_law_error", defArgs s_law_error, defBody s_law_error, defScope s_law_error, [], []⟩
def d_law_field : He.DefD := ⟨("_law_field", none), "_law_field", "_law_field", defArgs s_law_field, defBody s_law_field, defScope s_law_field, [], []⟩
def d_law_told : He.DefD := ⟨("_law_told", none), "_law_told", "_law_told", defArgs s_law_told, defBody s_law_told, defScope s_law_told, [], []⟩
def d_law_value : He.DefD := ⟨("_law_value", none), "_law_value", "_law_value", defArgs s_law_value, defBody s_law_value, defScope s_law_value, [], []⟩
def d_law_next : He.DefD := ⟨("_law_next", none), "_law_next", "_law_next", defArgs s_law_next, defBody s_law_next, defScope s_law_next, [], []⟩
def d_law_followers : He.DefD := ⟨("_law_followers", none), "_law_followers", "_law_followers", defArgs s_law_followers, defBody s_law_followers, defScope s_law_followers, [], []⟩
def d_law_path : He.DefD := ⟨("_law_path", none), "_law_path", "_law_path", defArgs s_law_path, defBody s_law_path, defScope s_law_path, [], []⟩
def d_law_after : He.DefD := ⟨("_law_after", none), "_law_after", "_law_after", defArgs s_law_after, defBody s_law_after, defScope s_law_after, [], []⟩
def d_law_is_shuffle : He.DefD := ⟨("_law_is_shuffle", none), "_law_is_shuffle", "_law_is_shuffle", defArgs s_law_is_shuffle, defBody s_law_is_shuffle, defScope s_law_is_shuffle, [], []⟩
def d_law_is_ring : He.DefD := ⟨("_law_is_ring", none), "_law_is_ring", "_law_is_ring", defArgs s_law_is_ring, defBody s_law_is_ring, defScope s_law_is_ring, [], []⟩
def d_law_length : He.DefD := ⟨("_law_length", none), "_law_length", "_law_length", defArgs s_law_length, defBody s_law_length, defScope s_law_length, [], []⟩
def d_law_coming : He.DefD := ⟨("_law_coming", none), "_law_coming", "_law_coming", defArgs s_law_coming, defBody s_law_coming, defScope s_law_coming, [], []⟩
def d_law_wish : He.DefD := ⟨("_law_wish", none), "_law_wish", "_law_wish", defArgs s_law_wish, defBody s_law_wish, defScope s_law_wish, [], []⟩
def d_law_holds : He.DefD := ⟨("_law_holds", none), "_law_holds", "_law_holds", defArgs s_law_holds, defBody s_law_holds, defScope s_law_holds, [], []⟩
def d_law_book_deed : He.DefD := ⟨("_law_book_deed", none), "_law_book_deed", "_law_book_deed", defArgs s_law_book_deed, defBody s_law_book_deed, defScope s_law_book_deed, [], []⟩
def d_law_kept : He.DefD := ⟨("_law_kept", none), "_law_kept", "_law_kept", defArgs s_law_kept, defBody s_law_kept, defScope s_law_kept, [], []⟩
def d_law_book_due : He.DefD := ⟨("_law_book_due", none), "_law_book_due", "_law_book_due", defArgs s_law_book_due, defBody s_law_book_due, defScope s_law_book_due, [], []⟩
def d_law_put_in : He.DefD := ⟨("_law_put_in", none), "_law_put_in", "_law_put_in", defArgs s_law_put_in, defBody s_law_put_in, defScope s_law_put_in, [], []⟩
def d_law_book_do : He.DefD := ⟨("_law_book_do", none), "_law_book_do", "_law_book_do", defArgs s_law_book_do, defBody s_law_book_do, defScope s_law_book_do, [], []⟩
def d_law_book_shows : He.DefD := ⟨("_law_book_shows", none), "_law_book_shows", "_law_book_shows", defArgs s_law_book_shows, defBody s_law_book_shows, defScope s_law_book_shows, [], []⟩
def d_law_right : He.DefD := ⟨("_law_right", none), "_law_right", "_law_right", defArgs s_law_right, defBody s_law_right, defScope s_law_right, [], []⟩
def d_law : He.DefD := ⟨("law", none), "law", "law", defArgs s_law, defBody s_law, defScope s_law, [], []⟩
def fnL : List He.DefD := [d_InvalidIndex_init, d_UnknownName_init, d_Broken_init, d_InUse_init, d_is_integer, d_is_between, d_is_name, d_power_of, d_is_number, d_check_numbers, d_value_of, d_size_of, d_check_bits, d_check_word, d_Rule_init, d_Rule_next_of, d_check_rule, d_round_by, d_product, d_put_into, d_part_of, d_hop_of, d_cycle_from, d_hopped, d_word_after, d_ring_size, d_rounds_between, d_is_shuffle_for, d_check_shuffle, d_check_asked, d_walked, d_is_ring_for, d_check_turns, d_check_back, d_reached, d_after, d_turns_to, d_is_word, d_are_bits_and_words, d_is_many, d_is_wish, d_is_always_ring_rule, d_is_always_shuffle_rule, d_has_length, d_coming, d_holds_for, d_place_of, d_is_about, d_Book_init, d_Book_go_on, d_Book_setitem, d_Book_getitem, d_Book_len, d_Book_drop, d_Book_wish, d_Book_lift, d_Book_undo, d_law_jar, d_law_dip, d_law_one_of, d_law_size, d_law_cut, d_law_any_numbers, d_law_shuffle_numbers, d_law_ring_numbers, d_law_numbers, d_law_error, d_law_field, d_law_told, d_law_value, d_law_next, d_law_followers, d_law_path, d_law_after, d_law_is_shuffle, d_law_is_ring, d_law_length, d_law_coming, d_law_wish, d_law_holds, d_law_book_deed, d_law_kept, d_law_book_due, d_law_put_in, d_law_book_do, d_law_book_shows, d_law_right, d_law]
def prL : List He.DefD := [d_Rule_numbers, d_Book_names, d_Book_wishes, d_Book_changes]
def fa0 : List He.Fa := [.free "isinstance", .free "int", .free "bool", .free "str", .free "tuple", .free "len", .free "all", .free "range", .free "enumerate", .free "sum", .free "min", .free "max", .free "abs", .free "divmod", .free "list", .free "set", .free "sorted", .free "repr", .free "ValueError", .free "LookupError", .free "ArithmeticError", .int "MOST_NUMBERS" 13, .int "MOST_NUMBER" 1000000000000000000000000000000, .int "MOST_BITS" 64, .int "MOST_VALUED" 1000, .int "MOST_LETTERS" 8, .int "LOW" 6, .int "MOST_ASKED" 3, .int "FEW" 2, .int "MANY" 3]
def fa1 : List He.Fa := [.str "LETTERS" "abcdefghijklmnopqrstuvwxyz", .glo "is_integer", .glo "is_between", .glo "is_name", .glo "power_of", .glo "is_number", .glo "check_numbers", .glo "value_of", .glo "size_of", .glo "check_bits", .glo "check_word", .glo "check_rule", .glo "round_by", .glo "product", .glo "put_into", .glo "part_of", .glo "hop_of", .glo "cycle_from", .glo "hopped", .glo "word_after", .glo "ring_size", .glo "rounds_between", .glo "is_shuffle_for", .glo "check_shuffle", .glo "check_asked", .glo "walked", .glo "is_ring_for", .glo "check_turns", .glo "check_back", .glo "reached"]
def fa2 : List He.Fa := [.glo "after", .glo "turns_to", .glo "is_word", .glo "are_bits_and_words", .glo "is_many", .glo "is_wish", .glo "is_always_ring_rule", .glo "is_always_shuffle_rule", .glo "has_length", .glo "coming", .glo "holds_for", .glo "place_of", .glo "is_about", .glo "_law_jar", .glo "_law_dip", .glo "_law_one_of", .glo "_law_size", .glo "_law_cut", .glo "_law_any_numbers", .glo "_law_shuffle_numbers", .glo "_law_ring_numbers", .glo "_law_numbers", .glo "_law_error", .glo "_law_field", .glo "_law_told", .glo "_law_value", .glo "_law_next", .glo "_law_followers", .glo "_law_path", .glo "_law_after"]
def fa3 : List He.Fa := [.glo "_law_is_shuffle", .glo "_law_is_ring", .glo "_law_length", .glo "_law_coming", .glo "_law_wish", .glo "_law_holds", .glo "_law_book_deed", .glo "_law_kept", .glo "_law_book_due", .glo "_law_put_in", .glo "_law_book_do", .glo "_law_book_shows", .glo "_law_right", .glo "law", .glo "WrongValue", .glo "InvalidText", .glo "InvalidName", .glo "InvalidNumber", .glo "InvalidWish", .glo "InvalidIndex", .glo "InvalidLine", .glo "InvalidWord", .glo "NotARule", .glo "InvalidNumbers", .glo "InvalidRules", .glo "InvalidWords", .glo "InvalidDeeds", .glo "WrongName", .glo "UnknownName", .glo "NoAnswer"]
def fa4 : List He.Fa := [.glo "NoShuffle", .glo "TooGreat", .glo "Broken", .glo "InUse", .glo "NothingToUndo", .glo "Rule", .glo "Book", .glo "LENGTHS", .cls "Rule", .noat "Rule" "row", .meth "Rule" "next_of", .mkr "Rule", .cls "Book", .noat "Book" "held", .meth "Book" "go_on", .meth "Book" "drop", .meth "Book" "wish", .meth "Book" "lift", .meth "Book" "undo", .meth "Book" "__len__", .meth "Book" "__getitem__", .meth "Book" "__setitem__", .mkr "Book"]
def faL : List He.Fa := fa0 ++ fa1 ++ fa2 ++ fa3 ++ fa4
def tabL : List He.Tab := [(fun K => He.ga K "LENGTHS", ["ring", "no ring", "shuffle", "length", "after", "comes"])]
/-- more facts, by one Bool -/
def lenKV : List (Str × He.Dv) := [("ring", .int 2), ("no ring", .int 2), ("shuffle", .int 2), ("length", .int 5), ("after", .int 6), ("comes", .int 5)]
def clsB (K : PySem.W.Frag) (C : Addr) : Bool := He.eqO (PySem.W.findIn K (.ref C) "__class__") (some (some (.builtin "object.__class__"))) && (He.eqO (PySem.W.specialIn K (.builtin "object.__class__") "__get__") (some (some (.builtin "getset_descriptor.__get__"))) &&
  (decide (PySem.W.takesIn K (.builtin "object.__class__") = some true) && decide (PySem.W.mroIn K C (.type "object") = some true)))
def bmVE : List Value := [.type "ValueError", .type "Exception", .type "BaseException", .type "object"]
def bmLE : List Value := [.type "LookupError", .type "Exception", .type "BaseException", .type "object"]
def bmAE : List Value := [.type "ArithmeticError", .type "Exception", .type "BaseException", .type "object"]
def oxB (K : PySem.W.Frag) (x arg : Str) (bm : List Value) (newId : String) : Bool := let C := He.ga K x; let fI := He.ma K C "__init__"
  PySem.W.excInitIn K C bm newId && (PySem.W.excOver K C bm && (He.eqO (PySem.W.nsIn K mainGlobals x) (some (some (.ref C))) && (He.eqO (PySem.W.findIn K (.ref C) "__setattr__") (some (some (.builtin "object.__setattr__"))) &&
  (He.eqO (PySem.W.findIn K (.ref C) "__getattribute__") (some (some (.builtin "BaseException.__getattribute__"))) && (He.eqO (PySem.W.findIn K (.ref C) "__getattr__") (some none) && (He.eqO (PySem.W.findIn K (.ref C) arg) (some none) &&
  (He.eqO (PySem.W.findIn K (.ref C) "__init__") (some (some (.ref fI))) && (decide (PySem.W.typeIn K (.ref fI) = some (.type "function")) && (PySem.W.keepIn K (.ref C) && (decide (PySem.W.subIn K (.ref C) (.type "BaseException") = some true) &&
  (decide (PySem.W.typeIn K (.ref C) = some (.type "type")) && PySem.W.hasDictIn K C)))))))))))
def ntuB (K : PySem.W.Frag) : Bool := let C := He.ga K "NothingToUndo"
  PySem.W.excIn K C bmAE "ArithmeticError.__new__" && (He.eqO (PySem.W.nsIn K mainGlobals "NothingToUndo") (some (some (.ref C))) && (PySem.W.keepIn K (.ref C) && (decide (PySem.W.subIn K (.ref C) (.type "BaseException") = some true) && decide (PySem.W.typeIn K (.ref C) = some (.type "type")))))
def exsB (K : PySem.W.Frag) : Bool := oxB K "Broken" "index" bmAE "ArithmeticError.__new__" && (oxB K "InUse" "index" bmAE "ArithmeticError.__new__" && (oxB K "UnknownName" "given" bmLE "LookupError.__new__" && (oxB K "InvalidIndex" "given" bmVE "ValueError.__new__" && ntuB K)))
def bookB (K : PySem.W.Frag) : Bool := PySem.W.noSeq K (He.ga K "Book") && PySem.W.fnIn K (He.fAd K ("Book", some "__getitem__"))
/-- what isinstance and the except clause say of the five classes: the own classes and the built-in ones by their places -/
def CLo : List Str := ["InvalidText", "InvalidName", "InvalidNumber", "InvalidWish", "InvalidIndex", "InvalidLine", "InvalidWord", "NotARule", "InvalidNumbers", "InvalidRules", "InvalidWords", "InvalidDeeds", "UnknownName", "NoShuffle", "TooGreat", "Broken", "InUse", "NothingToUndo", "WrongValue", "WrongName", "NoAnswer"]
def BLo : List String := ["ValueError", "LookupError", "ArithmeticError"]
def exc3 (K : PySem.W.Frag) : List Value := [.ref (He.ga K "WrongValue"), .ref (He.ga K "WrongName"), .ref (He.ga K "NoAnswer")]
def kinX (K : PySem.W.Frag) (x : Str) (k b : Nat) : Bool := let C := He.ga K x
  L2.xfB K C && (He.eqO (PySem.W.findIn K (.ref C) "__class__") (some (some (.builtin "object.__class__"))) && (decide (PySem.W.mroIn K C (.type "object") = some true) &&
  (CLo.zipIdx.all (fun q => decide (PySem.W.kitOne K (.ref C) (.ref (He.ga K q.1)) = some (q.2 == k || q.2 == b))) && (BLo.zipIdx.all (fun q => decide (PySem.W.kitOne K (.ref C) (.type q.1) = some (q.2 + 18 == b))) && decide (PySem.W.exmAny K (.ref C) (exc3 K) = some true)))))
def kinsB (K : PySem.W.Frag) : Bool := kinX K "Broken" 15 20 && (kinX K "InUse" 16 20 && (kinX K "UnknownName" 12 19 && (kinX K "InvalidIndex" 4 18 && kinX K "NothingToUndo" 17 20)))
def moreB (K : PySem.W.Frag) : Bool := He.valsB K (He.ga K "LENGTHS") lenKV && (clsB K (He.ga K "Rule") && (exsB K && bookB K))
/-! ### properties: where the getter stands -/
def pAd (K : PySem.W.Frag) (d : He.DefD) : Addr := match PySem.W.findIn K (.ref (He.ga K d.at_.1)) (d.at_.2.getD "") with
  | some (some (.ref p)) => p
  | _ => 0
def gAd (K : PySem.W.Frag) (d : He.DefD) : Addr := match PySem.W.recIn K (pAd K d) "property" with
  | some (.ref g :: _) => g
  | _ => 0
def prW (K : PySem.W.Frag) (d : He.DefD) : He.FnW := match K.lookup (gAd K d) with
  | some ⟨_, _, .func fd, _⟩ => some (fd.name, fd.qualname, fd.params, fd.body, fd.scope, fd.globals, fd.closure, fd.builtins)
  | _ => none
def prOk (K : PySem.W.Frag) (d : He.DefD) : Bool := He.eqO (PySem.W.findIn K (.ref (He.ga K d.at_.1)) (d.at_.2.getD "")) (some (some (.ref (pAd K d)))) &&
  (He.eqO (PySem.W.specialIn K (.ref (pAd K d)) "__get__") (some (some (.builtin "property.__get__"))) && (decide (PySem.W.takesIn K (.ref (pAd K d)) = some true) &&
  ((match PySem.W.recIn K (pAd K d) "property" with
    | some (.ref _ :: _) => true
    | _ => false) && (PySem.W.keepIn K (.ref (gAd K d)) && (match K.lookup (gAd K d) with
  | some ⟨_, _, .func fd, _⟩ => PySem.W.codeIn K fd.code d.qual && (He.dflB K fd.defaults [] && He.kwdB K fd.kwdefaults [])
  | _ => false)))))
theorem prop_ok {K : PySem.W.Frag} {d : He.DefD} (e : prW K d = d.val) (c : prOk K d = true) : PropOf K (He.ga K d.at_.1) (d.at_.2.getD "") (pAd K d) (gAd K d) ∧ ∃ fd, FunD K d.name d.qual d.params d.body d.scope [] [] (gAd K d) fd := by
  obtain ⟨h1, c⟩ := He.ba c
  obtain ⟨h2, c⟩ := He.ba c
  obtain ⟨h3, c⟩ := He.ba c
  obtain ⟨h4, c⟩ := He.ba c
  obtain ⟨kp, c2⟩ := He.ba c
  refine ⟨⟨He.eqO_ok h1, He.eqO_ok h2, of_decide_eq_true h3, ?_⟩, ?_⟩
  · unfold gAd
    cases q : PySem.W.recIn K (pAd K d) "property" with
    | none =>
      rw [q] at h4
      cases h4
    | some l =>
      rw [q] at h4
      cases l with
      | nil => cases h4
      | cons a l =>
        cases a with
        | ref g => exact ⟨l, rfl⟩
        | _ => cases h4
  · unfold prW at e
    cases q : K.lookup (gAd K d) with
    | none =>
      rw [q] at c2
      cases c2
    | some o =>
      obtain ⟨oc, od, dt, osl⟩ := o
      rw [q] at c2 e
      cases dt with
      | func fd =>
        obtain ⟨n1, n2, n3, n4, n5, n6, n7, n8, n9, n10, n11, n12, n13, n14, n15⟩ := fd
        have e2 : (some (n1, n2, n3, n4, n5, n6, n7, n15) : He.FnW) = some (d.name, d.qual, d.params, .stmts d.body, d.scope, mainGlobals, [], builtinsNs) := e
        simp only [Option.some.injEq, Prod.mk.injEq] at e2
        obtain ⟨h1, h2, h3, h4, h5, h6, h7, h8⟩ := e2
        subst h1 h2 h3 h4 h5 h6 h7 h8
        have c3 : (PySem.W.codeIn K n13 d.qual && (He.dflB K n8 [] && He.kwdB K n9 [])) = true := c2
        obtain ⟨k1, k2⟩ := He.ba c3
        obtain ⟨k3, k4⟩ := He.ba k2
        exact ⟨_, ⟨oc, od, n8, n9, n10, n11, n12, n13, n14, osl, rfl, q, k1, He.dflB_ok k3, He.kwdB_ok k4⟩, kp⟩
      | _ => cases c2
abbrev AlP : Type := Bool × List He.FnW
def obsP (K : PySem.W.Frag) : AlP := (prL.all (prOk K), prL.map (prW K))
def valP : AlP := (true, prL.map He.DefD.val)
theorem obsP_def {K : PySem.W.Frag} (c : obsP K = valP) (i : Nat) {d : He.DefD} (h : prL[i]? = some d) : PropOf K (He.ga K d.at_.1) (d.at_.2.getD "") (pAd K d) (gAd K d) ∧ ∃ fd, FunD K d.name d.qual d.params d.body d.scope [] [] (gAd K d) fd := by
  have c1 : prL.all (prOk K) = true := congrArg (fun z : AlP => z.1) c
  have c2 : prL.map (prW K) = prL.map He.DefD.val := congrArg (fun z : AlP => z.2) c
  have m : d ∈ prL := List.mem_of_getElem? h
  refine prop_ok ?_ (List.all_eq_true.mp c1 d m)
  have e := congrArg (fun l : List He.FnW => l[i]?) c2
  simp only [List.getElem?_map, h, Option.map_some] at e
  exact Option.some.inj e
/-- what the head tells -/
structure Txt (w : World) (K : PySem.W.Frag) (mg : Str → Option Value) : Prop where
  t : He.SaysT faL fnL tabL w K
  more : moreB K = true
  kin : kinsB K = true
  pr : obsP K = valP
  ns : ∃ h : Heap, K.In h ∧ h.Ns mainGlobals mg
section
variable {w : World} {K : PySem.W.Frag} {mg : Str → Option Value}
theorem Txt.fact (T : Txt w K mg) (i : Nat) {f : He.Fa} (h : faL[i]? = some f) : f.ok K = true := T.t.d.fact i h
theorem Txt.free (T : Txt w K mg) (i : Nat) {x : Str} (h : faL[i]? = some (.free x)) : mg x = none := by
  obtain ⟨h0, X, G⟩ := T.ns
  exact He.free_ok X G (T.fact i h)
theorem Txt.int (T : Txt w K mg) (i : Nat) {x : Str} {n : Int} (h : faL[i]? = some (.int x n)) : ∃ t, mg x = some (.int n t) := by
  obtain ⟨h0, X, G⟩ := T.ns
  exact He.int_ok X G (T.fact i h)
theorem Txt.str (T : Txt w K mg) (i : Nat) {x z : Str} (h : faL[i]? = some (.str x z)) : ∃ t, mg x = some (.str z t) := by
  obtain ⟨h0, X, G⟩ := T.ns
  exact He.str_ok X G (T.fact i h)
theorem Txt.glo (T : Txt w K mg) (i : Nat) {x : Str} (h : faL[i]? = some (.glo x)) : mg x = some (.ref (He.ga K x)) := by
  obtain ⟨h0, X, G⟩ := T.ns
  exact He.glo_ok X G (T.fact i h)
theorem Txt.n_isinstance (T : Txt w K mg) : mg ("isinstance" : Str) = none := T.free 0 rfl
theorem Txt.n_int (T : Txt w K mg) : mg ("int" : Str) = none := T.free 1 rfl
theorem Txt.n_bool (T : Txt w K mg) : mg ("bool" : Str) = none := T.free 2 rfl
theorem Txt.n_str (T : Txt w K mg) : mg ("str" : Str) = none := T.free 3 rfl
theorem Txt.n_tuple (T : Txt w K mg) : mg ("tuple" : Str) = none := T.free 4 rfl
theorem Txt.n_len (T : Txt w K mg) : mg ("len" : Str) = none := T.free 5 rfl
theorem Txt.n_all (T : Txt w K mg) : mg ("all" : Str) = none := T.free 6 rfl
theorem Txt.n_range (T : Txt w K mg) : mg ("range" : Str) = none := T.free 7 rfl
theorem Txt.n_enumerate (T : Txt w K mg) : mg ("enumerate" : Str) = none := T.free 8 rfl
theorem Txt.n_sum (T : Txt w K mg) : mg ("sum" : Str) = none := T.free 9 rfl
theorem Txt.n_min (T : Txt w K mg) : mg ("min" : Str) = none := T.free 10 rfl
theorem Txt.n_max (T : Txt w K mg) : mg ("max" : Str) = none := T.free 11 rfl
theorem Txt.n_abs (T : Txt w K mg) : mg ("abs" : Str) = none := T.free 12 rfl
theorem Txt.n_divmod (T : Txt w K mg) : mg ("divmod" : Str) = none := T.free 13 rfl
theorem Txt.n_list (T : Txt w K mg) : mg ("list" : Str) = none := T.free 14 rfl
theorem Txt.n_set (T : Txt w K mg) : mg ("set" : Str) = none := T.free 15 rfl
theorem Txt.n_sorted (T : Txt w K mg) : mg ("sorted" : Str) = none := T.free 16 rfl
theorem Txt.n_repr (T : Txt w K mg) : mg ("repr" : Str) = none := T.free 17 rfl
theorem Txt.n_ValueError (T : Txt w K mg) : mg ("ValueError" : Str) = none := T.free 18 rfl
theorem Txt.n_LookupError (T : Txt w K mg) : mg ("LookupError" : Str) = none := T.free 19 rfl
theorem Txt.n_ArithmeticError (T : Txt w K mg) : mg ("ArithmeticError" : Str) = none := T.free 20 rfl
theorem Txt.c_MOST_NUMBERS (T : Txt w K mg) : ∃ t, mg ("MOST_NUMBERS" : Str) = some (.int 13 t) := T.int 21 rfl
theorem Txt.c_MOST_NUMBER (T : Txt w K mg) : ∃ t, mg ("MOST_NUMBER" : Str) = some (.int 1000000000000000000000000000000 t) := T.int 22 rfl
theorem Txt.c_MOST_BITS (T : Txt w K mg) : ∃ t, mg ("MOST_BITS" : Str) = some (.int 64 t) := T.int 23 rfl
theorem Txt.c_MOST_VALUED (T : Txt w K mg) : ∃ t, mg ("MOST_VALUED" : Str) = some (.int 1000 t) := T.int 24 rfl
theorem Txt.c_MOST_LETTERS (T : Txt w K mg) : ∃ t, mg ("MOST_LETTERS" : Str) = some (.int 8 t) := T.int 25 rfl
theorem Txt.c_LOW (T : Txt w K mg) : ∃ t, mg ("LOW" : Str) = some (.int 6 t) := T.int 26 rfl
theorem Txt.c_MOST_ASKED (T : Txt w K mg) : ∃ t, mg ("MOST_ASKED" : Str) = some (.int 3 t) := T.int 27 rfl
theorem Txt.c_FEW (T : Txt w K mg) : ∃ t, mg ("FEW" : Str) = some (.int 2 t) := T.int 28 rfl
theorem Txt.c_MANY (T : Txt w K mg) : ∃ t, mg ("MANY" : Str) = some (.int 3 t) := T.int 29 rfl
theorem Txt.c_LETTERS (T : Txt w K mg) : ∃ t, mg ("LETTERS" : Str) = some (.str "abcdefghijklmnopqrstuvwxyz" t) := T.str 30 rfl
theorem Txt.g_is_integer (T : Txt w K mg) : mg ("is_integer" : Str) = some (.ref (He.fAd K ("is_integer", none))) := T.glo 31 rfl
theorem Txt.g_is_between (T : Txt w K mg) : mg ("is_between" : Str) = some (.ref (He.fAd K ("is_between", none))) := T.glo 32 rfl
theorem Txt.g_is_name (T : Txt w K mg) : mg ("is_name" : Str) = some (.ref (He.fAd K ("is_name", none))) := T.glo 33 rfl
theorem Txt.g_power_of (T : Txt w K mg) : mg ("power_of" : Str) = some (.ref (He.fAd K ("power_of", none))) := T.glo 34 rfl
theorem Txt.g_is_number (T : Txt w K mg) : mg ("is_number" : Str) = some (.ref (He.fAd K ("is_number", none))) := T.glo 35 rfl
theorem Txt.g_check_numbers (T : Txt w K mg) : mg ("check_numbers" : Str) = some (.ref (He.fAd K ("check_numbers", none))) := T.glo 36 rfl
theorem Txt.g_value_of (T : Txt w K mg) : mg ("value_of" : Str) = some (.ref (He.fAd K ("value_of", none))) := T.glo 37 rfl
theorem Txt.g_size_of (T : Txt w K mg) : mg ("size_of" : Str) = some (.ref (He.fAd K ("size_of", none))) := T.glo 38 rfl
theorem Txt.g_check_bits (T : Txt w K mg) : mg ("check_bits" : Str) = some (.ref (He.fAd K ("check_bits", none))) := T.glo 39 rfl
theorem Txt.g_check_word (T : Txt w K mg) : mg ("check_word" : Str) = some (.ref (He.fAd K ("check_word", none))) := T.glo 40 rfl
theorem Txt.g_check_rule (T : Txt w K mg) : mg ("check_rule" : Str) = some (.ref (He.fAd K ("check_rule", none))) := T.glo 41 rfl
theorem Txt.g_round_by (T : Txt w K mg) : mg ("round_by" : Str) = some (.ref (He.fAd K ("round_by", none))) := T.glo 42 rfl
theorem Txt.g_product (T : Txt w K mg) : mg ("product" : Str) = some (.ref (He.fAd K ("product", none))) := T.glo 43 rfl
theorem Txt.g_put_into (T : Txt w K mg) : mg ("put_into" : Str) = some (.ref (He.fAd K ("put_into", none))) := T.glo 44 rfl
theorem Txt.g_part_of (T : Txt w K mg) : mg ("part_of" : Str) = some (.ref (He.fAd K ("part_of", none))) := T.glo 45 rfl
theorem Txt.g_hop_of (T : Txt w K mg) : mg ("hop_of" : Str) = some (.ref (He.fAd K ("hop_of", none))) := T.glo 46 rfl
theorem Txt.g_cycle_from (T : Txt w K mg) : mg ("cycle_from" : Str) = some (.ref (He.fAd K ("cycle_from", none))) := T.glo 47 rfl
theorem Txt.g_hopped (T : Txt w K mg) : mg ("hopped" : Str) = some (.ref (He.fAd K ("hopped", none))) := T.glo 48 rfl
theorem Txt.g_word_after (T : Txt w K mg) : mg ("word_after" : Str) = some (.ref (He.fAd K ("word_after", none))) := T.glo 49 rfl
theorem Txt.g_ring_size (T : Txt w K mg) : mg ("ring_size" : Str) = some (.ref (He.fAd K ("ring_size", none))) := T.glo 50 rfl
theorem Txt.g_rounds_between (T : Txt w K mg) : mg ("rounds_between" : Str) = some (.ref (He.fAd K ("rounds_between", none))) := T.glo 51 rfl
theorem Txt.g_is_shuffle_for (T : Txt w K mg) : mg ("is_shuffle_for" : Str) = some (.ref (He.fAd K ("is_shuffle_for", none))) := T.glo 52 rfl
theorem Txt.g_check_shuffle (T : Txt w K mg) : mg ("check_shuffle" : Str) = some (.ref (He.fAd K ("check_shuffle", none))) := T.glo 53 rfl
theorem Txt.g_check_asked (T : Txt w K mg) : mg ("check_asked" : Str) = some (.ref (He.fAd K ("check_asked", none))) := T.glo 54 rfl
theorem Txt.g_walked (T : Txt w K mg) : mg ("walked" : Str) = some (.ref (He.fAd K ("walked", none))) := T.glo 55 rfl
theorem Txt.g_is_ring_for (T : Txt w K mg) : mg ("is_ring_for" : Str) = some (.ref (He.fAd K ("is_ring_for", none))) := T.glo 56 rfl
theorem Txt.g_check_turns (T : Txt w K mg) : mg ("check_turns" : Str) = some (.ref (He.fAd K ("check_turns", none))) := T.glo 57 rfl
theorem Txt.g_check_back (T : Txt w K mg) : mg ("check_back" : Str) = some (.ref (He.fAd K ("check_back", none))) := T.glo 58 rfl
theorem Txt.g_reached (T : Txt w K mg) : mg ("reached" : Str) = some (.ref (He.fAd K ("reached", none))) := T.glo 59 rfl
theorem Txt.g_after (T : Txt w K mg) : mg ("after" : Str) = some (.ref (He.fAd K ("after", none))) := T.glo 60 rfl
theorem Txt.g_turns_to (T : Txt w K mg) : mg ("turns_to" : Str) = some (.ref (He.fAd K ("turns_to", none))) := T.glo 61 rfl
theorem Txt.g_is_word (T : Txt w K mg) : mg ("is_word" : Str) = some (.ref (He.fAd K ("is_word", none))) := T.glo 62 rfl
theorem Txt.g_are_bits_and_words (T : Txt w K mg) : mg ("are_bits_and_words" : Str) = some (.ref (He.fAd K ("are_bits_and_words", none))) := T.glo 63 rfl
theorem Txt.g_is_many (T : Txt w K mg) : mg ("is_many" : Str) = some (.ref (He.fAd K ("is_many", none))) := T.glo 64 rfl
theorem Txt.g_is_wish (T : Txt w K mg) : mg ("is_wish" : Str) = some (.ref (He.fAd K ("is_wish", none))) := T.glo 65 rfl
theorem Txt.g_is_always_ring_rule (T : Txt w K mg) : mg ("is_always_ring_rule" : Str) = some (.ref (He.fAd K ("is_always_ring_rule", none))) := T.glo 66 rfl
theorem Txt.g_is_always_shuffle_rule (T : Txt w K mg) : mg ("is_always_shuffle_rule" : Str) = some (.ref (He.fAd K ("is_always_shuffle_rule", none))) := T.glo 67 rfl
theorem Txt.g_has_length (T : Txt w K mg) : mg ("has_length" : Str) = some (.ref (He.fAd K ("has_length", none))) := T.glo 68 rfl
theorem Txt.g_coming (T : Txt w K mg) : mg ("coming" : Str) = some (.ref (He.fAd K ("coming", none))) := T.glo 69 rfl
theorem Txt.g_holds_for (T : Txt w K mg) : mg ("holds_for" : Str) = some (.ref (He.fAd K ("holds_for", none))) := T.glo 70 rfl
theorem Txt.g_place_of (T : Txt w K mg) : mg ("place_of" : Str) = some (.ref (He.fAd K ("place_of", none))) := T.glo 71 rfl
theorem Txt.g_is_about (T : Txt w K mg) : mg ("is_about" : Str) = some (.ref (He.fAd K ("is_about", none))) := T.glo 72 rfl
theorem Txt.g_law_jar (T : Txt w K mg) : mg ("_law_jar" : Str) = some (.ref (He.fAd K ("_law_jar", none))) := T.glo 73 rfl
theorem Txt.g_law_dip (T : Txt w K mg) : mg ("_law_dip" : Str) = some (.ref (He.fAd K ("_law_dip", none))) := T.glo 74 rfl
theorem Txt.g_law_one_of (T : Txt w K mg) : mg ("_law_one_of" : Str) = some (.ref (He.fAd K ("_law_one_of", none))) := T.glo 75 rfl
theorem Txt.g_law_size (T : Txt w K mg) : mg ("_law_size" : Str) = some (.ref (He.fAd K ("_law_size", none))) := T.glo 76 rfl
theorem Txt.g_law_cut (T : Txt w K mg) : mg ("_law_cut" : Str) = some (.ref (He.fAd K ("_law_cut", none))) := T.glo 77 rfl
theorem Txt.g_law_any_numbers (T : Txt w K mg) : mg ("_law_any_numbers" : Str) = some (.ref (He.fAd K ("_law_any_numbers", none))) := T.glo 78 rfl
theorem Txt.g_law_shuffle_numbers (T : Txt w K mg) : mg ("_law_shuffle_numbers" : Str) = some (.ref (He.fAd K ("_law_shuffle_numbers", none))) := T.glo 79 rfl
theorem Txt.g_law_ring_numbers (T : Txt w K mg) : mg ("_law_ring_numbers" : Str) = some (.ref (He.fAd K ("_law_ring_numbers", none))) := T.glo 80 rfl
theorem Txt.g_law_numbers (T : Txt w K mg) : mg ("_law_numbers" : Str) = some (.ref (He.fAd K ("_law_numbers", none))) := T.glo 81 rfl
theorem Txt.g_law_error (T : Txt w K mg) : mg ("_law_error" : Str) = some (.ref (He.fAd K ("_law_error", none))) := T.glo 82 rfl
theorem Txt.g_law_field (T : Txt w K mg) : mg ("_law_field" : Str) = some (.ref (He.fAd K ("_law_field", none))) := T.glo 83 rfl
theorem Txt.g_law_told (T : Txt w K mg) : mg ("_law_told" : Str) = some (.ref (He.fAd K ("_law_told", none))) := T.glo 84 rfl
theorem Txt.g_law_value (T : Txt w K mg) : mg ("_law_value" : Str) = some (.ref (He.fAd K ("_law_value", none))) := T.glo 85 rfl
theorem Txt.g_law_next (T : Txt w K mg) : mg ("_law_next" : Str) = some (.ref (He.fAd K ("_law_next", none))) := T.glo 86 rfl
theorem Txt.g_law_followers (T : Txt w K mg) : mg ("_law_followers" : Str) = some (.ref (He.fAd K ("_law_followers", none))) := T.glo 87 rfl
theorem Txt.g_law_path (T : Txt w K mg) : mg ("_law_path" : Str) = some (.ref (He.fAd K ("_law_path", none))) := T.glo 88 rfl
theorem Txt.g_law_after (T : Txt w K mg) : mg ("_law_after" : Str) = some (.ref (He.fAd K ("_law_after", none))) := T.glo 89 rfl
theorem Txt.g_law_is_shuffle (T : Txt w K mg) : mg ("_law_is_shuffle" : Str) = some (.ref (He.fAd K ("_law_is_shuffle", none))) := T.glo 90 rfl
theorem Txt.g_law_is_ring (T : Txt w K mg) : mg ("_law_is_ring" : Str) = some (.ref (He.fAd K ("_law_is_ring", none))) := T.glo 91 rfl
theorem Txt.g_law_length (T : Txt w K mg) : mg ("_law_length" : Str) = some (.ref (He.fAd K ("_law_length", none))) := T.glo 92 rfl
theorem Txt.g_law_coming (T : Txt w K mg) : mg ("_law_coming" : Str) = some (.ref (He.fAd K ("_law_coming", none))) := T.glo 93 rfl
theorem Txt.g_law_wish (T : Txt w K mg) : mg ("_law_wish" : Str) = some (.ref (He.fAd K ("_law_wish", none))) := T.glo 94 rfl
theorem Txt.g_law_holds (T : Txt w K mg) : mg ("_law_holds" : Str) = some (.ref (He.fAd K ("_law_holds", none))) := T.glo 95 rfl
theorem Txt.g_law_book_deed (T : Txt w K mg) : mg ("_law_book_deed" : Str) = some (.ref (He.fAd K ("_law_book_deed", none))) := T.glo 96 rfl
theorem Txt.g_law_kept (T : Txt w K mg) : mg ("_law_kept" : Str) = some (.ref (He.fAd K ("_law_kept", none))) := T.glo 97 rfl
theorem Txt.g_law_book_due (T : Txt w K mg) : mg ("_law_book_due" : Str) = some (.ref (He.fAd K ("_law_book_due", none))) := T.glo 98 rfl
theorem Txt.g_law_put_in (T : Txt w K mg) : mg ("_law_put_in" : Str) = some (.ref (He.fAd K ("_law_put_in", none))) := T.glo 99 rfl
theorem Txt.g_law_book_do (T : Txt w K mg) : mg ("_law_book_do" : Str) = some (.ref (He.fAd K ("_law_book_do", none))) := T.glo 100 rfl
theorem Txt.g_law_book_shows (T : Txt w K mg) : mg ("_law_book_shows" : Str) = some (.ref (He.fAd K ("_law_book_shows", none))) := T.glo 101 rfl
theorem Txt.g_law_right (T : Txt w K mg) : mg ("_law_right" : Str) = some (.ref (He.fAd K ("_law_right", none))) := T.glo 102 rfl
theorem Txt.g_law (T : Txt w K mg) : mg ("law" : Str) = some (.ref (He.fAd K ("law", none))) := T.glo 103 rfl
theorem Txt.g_WrongValue (T : Txt w K mg) : mg ("WrongValue" : Str) = some (.ref (He.ga K "WrongValue")) := T.glo 104 rfl
theorem Txt.g_InvalidText (T : Txt w K mg) : mg ("InvalidText" : Str) = some (.ref (He.ga K "InvalidText")) := T.glo 105 rfl
theorem Txt.g_InvalidName (T : Txt w K mg) : mg ("InvalidName" : Str) = some (.ref (He.ga K "InvalidName")) := T.glo 106 rfl
theorem Txt.g_InvalidNumber (T : Txt w K mg) : mg ("InvalidNumber" : Str) = some (.ref (He.ga K "InvalidNumber")) := T.glo 107 rfl
theorem Txt.g_InvalidWish (T : Txt w K mg) : mg ("InvalidWish" : Str) = some (.ref (He.ga K "InvalidWish")) := T.glo 108 rfl
theorem Txt.g_InvalidIndex (T : Txt w K mg) : mg ("InvalidIndex" : Str) = some (.ref (He.ga K "InvalidIndex")) := T.glo 109 rfl
theorem Txt.g_InvalidLine (T : Txt w K mg) : mg ("InvalidLine" : Str) = some (.ref (He.ga K "InvalidLine")) := T.glo 110 rfl
theorem Txt.g_InvalidWord (T : Txt w K mg) : mg ("InvalidWord" : Str) = some (.ref (He.ga K "InvalidWord")) := T.glo 111 rfl
theorem Txt.g_NotARule (T : Txt w K mg) : mg ("NotARule" : Str) = some (.ref (He.ga K "NotARule")) := T.glo 112 rfl
theorem Txt.g_InvalidNumbers (T : Txt w K mg) : mg ("InvalidNumbers" : Str) = some (.ref (He.ga K "InvalidNumbers")) := T.glo 113 rfl
theorem Txt.g_InvalidRules (T : Txt w K mg) : mg ("InvalidRules" : Str) = some (.ref (He.ga K "InvalidRules")) := T.glo 114 rfl
theorem Txt.g_InvalidWords (T : Txt w K mg) : mg ("InvalidWords" : Str) = some (.ref (He.ga K "InvalidWords")) := T.glo 115 rfl
theorem Txt.g_InvalidDeeds (T : Txt w K mg) : mg ("InvalidDeeds" : Str) = some (.ref (He.ga K "InvalidDeeds")) := T.glo 116 rfl
theorem Txt.g_WrongName (T : Txt w K mg) : mg ("WrongName" : Str) = some (.ref (He.ga K "WrongName")) := T.glo 117 rfl
theorem Txt.g_UnknownName (T : Txt w K mg) : mg ("UnknownName" : Str) = some (.ref (He.ga K "UnknownName")) := T.glo 118 rfl
theorem Txt.g_NoAnswer (T : Txt w K mg) : mg ("NoAnswer" : Str) = some (.ref (He.ga K "NoAnswer")) := T.glo 119 rfl
theorem Txt.g_NoShuffle (T : Txt w K mg) : mg ("NoShuffle" : Str) = some (.ref (He.ga K "NoShuffle")) := T.glo 120 rfl
theorem Txt.g_TooGreat (T : Txt w K mg) : mg ("TooGreat" : Str) = some (.ref (He.ga K "TooGreat")) := T.glo 121 rfl
theorem Txt.g_Broken (T : Txt w K mg) : mg ("Broken" : Str) = some (.ref (He.ga K "Broken")) := T.glo 122 rfl
theorem Txt.g_InUse (T : Txt w K mg) : mg ("InUse" : Str) = some (.ref (He.ga K "InUse")) := T.glo 123 rfl
theorem Txt.g_NothingToUndo (T : Txt w K mg) : mg ("NothingToUndo" : Str) = some (.ref (He.ga K "NothingToUndo")) := T.glo 124 rfl
theorem Txt.g_Rule (T : Txt w K mg) : mg ("Rule" : Str) = some (.ref (He.ga K "Rule")) := T.glo 125 rfl
theorem Txt.g_Book (T : Txt w K mg) : mg ("Book" : Str) = some (.ref (He.ga K "Book")) := T.glo 126 rfl
theorem Txt.g_LENGTHS (T : Txt w K mg) : mg ("LENGTHS" : Str) = some (.ref (He.ga K "LENGTHS")) := T.glo 127 rfl
theorem Txt.clR (T : Txt w K mg) : Cls K (He.ga K "Rule") := He.cls_ok (T.fact 128 rfl)
theorem Txt.na_row (T : Txt w K mg) : NoAttr K (He.ga K "Rule") "row" := He.noat_ok (T.fact 129 rfl)
theorem Txt.mR_next_of (T : Txt w K mg) : Meth K (He.ga K "Rule") "next_of" (He.fAd K ("Rule", some "next_of")) := He.meth_ok (T.fact 130 rfl)
theorem Txt.mkR (T : Txt w K mg) : Mk K (He.ga K "Rule") (He.fAd K ("Rule", some "__init__")) := He.mkr_ok (T.fact 131 rfl)
theorem Txt.clB (T : Txt w K mg) : Cls K (He.ga K "Book") := He.cls_ok (T.fact 132 rfl)
theorem Txt.na_held (T : Txt w K mg) : NoAttr K (He.ga K "Book") "held" := He.noat_ok (T.fact 133 rfl)
theorem Txt.mB_go_on (T : Txt w K mg) : Meth K (He.ga K "Book") "go_on" (He.fAd K ("Book", some "go_on")) := He.meth_ok (T.fact 134 rfl)
theorem Txt.mB_drop (T : Txt w K mg) : Meth K (He.ga K "Book") "drop" (He.fAd K ("Book", some "drop")) := He.meth_ok (T.fact 135 rfl)
theorem Txt.mB_wish (T : Txt w K mg) : Meth K (He.ga K "Book") "wish" (He.fAd K ("Book", some "wish")) := He.meth_ok (T.fact 136 rfl)
theorem Txt.mB_lift (T : Txt w K mg) : Meth K (He.ga K "Book") "lift" (He.fAd K ("Book", some "lift")) := He.meth_ok (T.fact 137 rfl)
theorem Txt.mB_undo (T : Txt w K mg) : Meth K (He.ga K "Book") "undo" (He.fAd K ("Book", some "undo")) := He.meth_ok (T.fact 138 rfl)
theorem Txt.mB___len__ (T : Txt w K mg) : Meth K (He.ga K "Book") "__len__" (He.fAd K ("Book", some "__len__")) := He.meth_ok (T.fact 139 rfl)
theorem Txt.mB___getitem__ (T : Txt w K mg) : Meth K (He.ga K "Book") "__getitem__" (He.fAd K ("Book", some "__getitem__")) := He.meth_ok (T.fact 140 rfl)
theorem Txt.mB___setitem__ (T : Txt w K mg) : Meth K (He.ga K "Book") "__setitem__" (He.fAd K ("Book", some "__setitem__")) := He.meth_ok (T.fact 141 rfl)
theorem Txt.mkB (T : Txt w K mg) : Mk K (He.ga K "Book") (He.fAd K ("Book", some "__init__")) := He.mkr_ok (T.fact 142 rfl)
theorem Txt.f_InvalidIndex_init (T : Txt w K mg) : ∃ fd, FunD K "__init__" "InvalidIndex.__init__" (defArgs s_InvalidIndex_init) (defBody s_InvalidIndex_init) (defScope s_InvalidIndex_init) [] [] (He.fAd K ("InvalidIndex", some "__init__")) fd := T.t.d.def_ 0 (d := d_InvalidIndex_init) rfl
theorem Txt.f_UnknownName_init (T : Txt w K mg) : ∃ fd, FunD K "__init__" "UnknownName.__init__" (defArgs s_UnknownName_init) (defBody s_UnknownName_init) (defScope s_UnknownName_init) [] [] (He.fAd K ("UnknownName", some "__init__")) fd := T.t.d.def_ 1 (d := d_UnknownName_init) rfl
theorem Txt.f_Broken_init (T : Txt w K mg) : ∃ fd, FunD K "__init__" "Broken.__init__" (defArgs s_Broken_init) (defBody s_Broken_init) (defScope s_Broken_init) [] [] (He.fAd K ("Broken", some "__init__")) fd := T.t.d.def_ 2 (d := d_Broken_init) rfl
theorem Txt.f_InUse_init (T : Txt w K mg) : ∃ fd, FunD K "__init__" "InUse.__init__" (defArgs s_InUse_init) (defBody s_InUse_init) (defScope s_InUse_init) [] [] (He.fAd K ("InUse", some "__init__")) fd := T.t.d.def_ 3 (d := d_InUse_init) rfl
theorem Txt.f_is_integer (T : Txt w K mg) : ∃ fd, FunD K "is_integer" "is_integer" (defArgs s_is_integer) (defBody s_is_integer) (defScope s_is_integer) [] [] (He.fAd K ("is_integer", none)) fd := T.t.d.def_ 4 (d := d_is_integer) rfl
theorem Txt.f_is_between (T : Txt w K mg) : ∃ fd, FunD K "is_between" "is_between" (defArgs s_is_between) (defBody s_is_between) (defScope s_is_between) [] [] (He.fAd K ("is_between", none)) fd := T.t.d.def_ 5 (d := d_is_between) rfl
theorem Txt.f_is_name (T : Txt w K mg) : ∃ fd, FunD K "is_name" "is_name" (defArgs s_is_name) (defBody s_is_name) (defScope s_is_name) [] [] (He.fAd K ("is_name", none)) fd := T.t.d.def_ 6 (d := d_is_name) rfl
theorem Txt.f_power_of (T : Txt w K mg) : ∃ fd, FunD K "power_of" "power_of" (defArgs s_power_of) (defBody s_power_of) (defScope s_power_of) [] [] (He.fAd K ("power_of", none)) fd := T.t.d.def_ 7 (d := d_power_of) rfl
theorem Txt.f_is_number (T : Txt w K mg) : ∃ fd, FunD K "is_number" "is_number" (defArgs s_is_number) (defBody s_is_number) (defScope s_is_number) [] [] (He.fAd K ("is_number", none)) fd := T.t.d.def_ 8 (d := d_is_number) rfl
theorem Txt.f_check_numbers (T : Txt w K mg) : ∃ fd, FunD K "check_numbers" "check_numbers" (defArgs s_check_numbers) (defBody s_check_numbers) (defScope s_check_numbers) [] [] (He.fAd K ("check_numbers", none)) fd := T.t.d.def_ 9 (d := d_check_numbers) rfl
theorem Txt.f_value_of (T : Txt w K mg) : ∃ fd, FunD K "value_of" "value_of" (defArgs s_value_of) (defBody s_value_of) (defScope s_value_of) [] [] (He.fAd K ("value_of", none)) fd := T.t.d.def_ 10 (d := d_value_of) rfl
theorem Txt.f_size_of (T : Txt w K mg) : ∃ fd, FunD K "size_of" "size_of" (defArgs s_size_of) (defBody s_size_of) (defScope s_size_of) [] [] (He.fAd K ("size_of", none)) fd := T.t.d.def_ 11 (d := d_size_of) rfl
theorem Txt.f_check_bits (T : Txt w K mg) : ∃ fd, FunD K "check_bits" "check_bits" (defArgs s_check_bits) (defBody s_check_bits) (defScope s_check_bits) [.int 64] [] (He.fAd K ("check_bits", none)) fd := T.t.d.def_ 12 (d := d_check_bits) rfl
theorem Txt.f_check_word (T : Txt w K mg) : ∃ fd, FunD K "check_word" "check_word" (defArgs s_check_word) (defBody s_check_word) (defScope s_check_word) [] [] (He.fAd K ("check_word", none)) fd := T.t.d.def_ 13 (d := d_check_word) rfl
theorem Txt.f_Rule_init (T : Txt w K mg) : ∃ fd, FunD K "__init__" "Rule.__init__" (defArgs s_Rule_init) (defBody s_Rule_init) (defScope s_Rule_init) [] [] (He.fAd K ("Rule", some "__init__")) fd := T.t.d.def_ 14 (d := d_Rule_init) rfl
theorem Txt.f_Rule_next_of (T : Txt w K mg) : ∃ fd, FunD K "next_of" "Rule.next_of" (defArgs s_Rule_next_of) (defBody s_Rule_next_of) (defScope s_Rule_next_of) [] [] (He.fAd K ("Rule", some "next_of")) fd := T.t.d.def_ 15 (d := d_Rule_next_of) rfl
theorem Txt.f_check_rule (T : Txt w K mg) : ∃ fd, FunD K "check_rule" "check_rule" (defArgs s_check_rule) (defBody s_check_rule) (defScope s_check_rule) [] [] (He.fAd K ("check_rule", none)) fd := T.t.d.def_ 16 (d := d_check_rule) rfl
theorem Txt.f_round_by (T : Txt w K mg) : ∃ fd, FunD K "round_by" "round_by" (defArgs s_round_by) (defBody s_round_by) (defScope s_round_by) [] [] (He.fAd K ("round_by", none)) fd := T.t.d.def_ 17 (d := d_round_by) rfl
theorem Txt.f_product (T : Txt w K mg) : ∃ fd, FunD K "product" "product" (defArgs s_product) (defBody s_product) (defScope s_product) [] [] (He.fAd K ("product", none)) fd := T.t.d.def_ 18 (d := d_product) rfl
theorem Txt.f_put_into (T : Txt w K mg) : ∃ fd, FunD K "put_into" "put_into" (defArgs s_put_into) (defBody s_put_into) (defScope s_put_into) [] [] (He.fAd K ("put_into", none)) fd := T.t.d.def_ 19 (d := d_put_into) rfl
theorem Txt.f_part_of (T : Txt w K mg) : ∃ fd, FunD K "part_of" "part_of" (defArgs s_part_of) (defBody s_part_of) (defScope s_part_of) [] [] (He.fAd K ("part_of", none)) fd := T.t.d.def_ 20 (d := d_part_of) rfl
theorem Txt.f_hop_of (T : Txt w K mg) : ∃ fd, FunD K "hop_of" "hop_of" (defArgs s_hop_of) (defBody s_hop_of) (defScope s_hop_of) [] [] (He.fAd K ("hop_of", none)) fd := T.t.d.def_ 21 (d := d_hop_of) rfl
theorem Txt.f_cycle_from (T : Txt w K mg) : ∃ fd, FunD K "cycle_from" "cycle_from" (defArgs s_cycle_from) (defBody s_cycle_from) (defScope s_cycle_from) [] [] (He.fAd K ("cycle_from", none)) fd := T.t.d.def_ 22 (d := d_cycle_from) rfl
theorem Txt.f_hopped (T : Txt w K mg) : ∃ fd, FunD K "hopped" "hopped" (defArgs s_hopped) (defBody s_hopped) (defScope s_hopped) [] [] (He.fAd K ("hopped", none)) fd := T.t.d.def_ 23 (d := d_hopped) rfl
theorem Txt.f_word_after (T : Txt w K mg) : ∃ fd, FunD K "word_after" "word_after" (defArgs s_word_after) (defBody s_word_after) (defScope s_word_after) [] [] (He.fAd K ("word_after", none)) fd := T.t.d.def_ 24 (d := d_word_after) rfl
theorem Txt.f_ring_size (T : Txt w K mg) : ∃ fd, FunD K "ring_size" "ring_size" (defArgs s_ring_size) (defBody s_ring_size) (defScope s_ring_size) [] [] (He.fAd K ("ring_size", none)) fd := T.t.d.def_ 25 (d := d_ring_size) rfl
theorem Txt.f_rounds_between (T : Txt w K mg) : ∃ fd, FunD K "rounds_between" "rounds_between" (defArgs s_rounds_between) (defBody s_rounds_between) (defScope s_rounds_between) [] [] (He.fAd K ("rounds_between", none)) fd := T.t.d.def_ 26 (d := d_rounds_between) rfl
theorem Txt.f_is_shuffle_for (T : Txt w K mg) : ∃ fd, FunD K "is_shuffle_for" "is_shuffle_for" (defArgs s_is_shuffle_for) (defBody s_is_shuffle_for) (defScope s_is_shuffle_for) [] [] (He.fAd K ("is_shuffle_for", none)) fd := T.t.d.def_ 27 (d := d_is_shuffle_for) rfl
theorem Txt.f_check_shuffle (T : Txt w K mg) : ∃ fd, FunD K "check_shuffle" "check_shuffle" (defArgs s_check_shuffle) (defBody s_check_shuffle) (defScope s_check_shuffle) [] [] (He.fAd K ("check_shuffle", none)) fd := T.t.d.def_ 28 (d := d_check_shuffle) rfl
theorem Txt.f_check_asked (T : Txt w K mg) : ∃ fd, FunD K "check_asked" "check_asked" (defArgs s_check_asked) (defBody s_check_asked) (defScope s_check_asked) [] [] (He.fAd K ("check_asked", none)) fd := T.t.d.def_ 29 (d := d_check_asked) rfl
theorem Txt.f_walked (T : Txt w K mg) : ∃ fd, FunD K "walked" "walked" (defArgs s_walked) (defBody s_walked) (defScope s_walked) [] [] (He.fAd K ("walked", none)) fd := T.t.d.def_ 30 (d := d_walked) rfl
theorem Txt.f_is_ring_for (T : Txt w K mg) : ∃ fd, FunD K "is_ring_for" "is_ring_for" (defArgs s_is_ring_for) (defBody s_is_ring_for) (defScope s_is_ring_for) [] [] (He.fAd K ("is_ring_for", none)) fd := T.t.d.def_ 31 (d := d_is_ring_for) rfl
theorem Txt.f_check_turns (T : Txt w K mg) : ∃ fd, FunD K "check_turns" "check_turns" (defArgs s_check_turns) (defBody s_check_turns) (defScope s_check_turns) [] [] (He.fAd K ("check_turns", none)) fd := T.t.d.def_ 32 (d := d_check_turns) rfl
theorem Txt.f_check_back (T : Txt w K mg) : ∃ fd, FunD K "check_back" "check_back" (defArgs s_check_back) (defBody s_check_back) (defScope s_check_back) [] [] (He.fAd K ("check_back", none)) fd := T.t.d.def_ 33 (d := d_check_back) rfl
theorem Txt.f_reached (T : Txt w K mg) : ∃ fd, FunD K "reached" "reached" (defArgs s_reached) (defBody s_reached) (defScope s_reached) [] [] (He.fAd K ("reached", none)) fd := T.t.d.def_ 34 (d := d_reached) rfl
theorem Txt.f_after (T : Txt w K mg) : ∃ fd, FunD K "after" "after" (defArgs s_after) (defBody s_after) (defScope s_after) [] [] (He.fAd K ("after", none)) fd := T.t.d.def_ 35 (d := d_after) rfl
theorem Txt.f_turns_to (T : Txt w K mg) : ∃ fd, FunD K "turns_to" "turns_to" (defArgs s_turns_to) (defBody s_turns_to) (defScope s_turns_to) [] [] (He.fAd K ("turns_to", none)) fd := T.t.d.def_ 36 (d := d_turns_to) rfl
theorem Txt.f_is_word (T : Txt w K mg) : ∃ fd, FunD K "is_word" "is_word" (defArgs s_is_word) (defBody s_is_word) (defScope s_is_word) [] [] (He.fAd K ("is_word", none)) fd := T.t.d.def_ 37 (d := d_is_word) rfl
theorem Txt.f_are_bits_and_words (T : Txt w K mg) : ∃ fd, FunD K "are_bits_and_words" "are_bits_and_words" (defArgs s_are_bits_and_words) (defBody s_are_bits_and_words) (defScope s_are_bits_and_words) [] [] (He.fAd K ("are_bits_and_words", none)) fd := T.t.d.def_ 38 (d := d_are_bits_and_words) rfl
theorem Txt.f_is_many (T : Txt w K mg) : ∃ fd, FunD K "is_many" "is_many" (defArgs s_is_many) (defBody s_is_many) (defScope s_is_many) [] [] (He.fAd K ("is_many", none)) fd := T.t.d.def_ 39 (d := d_is_many) rfl
theorem Txt.f_is_wish (T : Txt w K mg) : ∃ fd, FunD K "is_wish" "is_wish" (defArgs s_is_wish) (defBody s_is_wish) (defScope s_is_wish) [] [] (He.fAd K ("is_wish", none)) fd := T.t.d.def_ 40 (d := d_is_wish) rfl
theorem Txt.f_is_always_ring_rule (T : Txt w K mg) : ∃ fd, FunD K "is_always_ring_rule" "is_always_ring_rule" (defArgs s_is_always_ring_rule) (defBody s_is_always_ring_rule) (defScope s_is_always_ring_rule) [] [] (He.fAd K ("is_always_ring_rule", none)) fd := T.t.d.def_ 41 (d := d_is_always_ring_rule) rfl
theorem Txt.f_is_always_shuffle_rule (T : Txt w K mg) : ∃ fd, FunD K "is_always_shuffle_rule" "is_always_shuffle_rule" (defArgs s_is_always_shuffle_rule) (defBody s_is_always_shuffle_rule) (defScope s_is_always_shuffle_rule) [] [] (He.fAd K ("is_always_shuffle_rule", none)) fd := T.t.d.def_ 42 (d := d_is_always_shuffle_rule) rfl
theorem Txt.f_has_length (T : Txt w K mg) : ∃ fd, FunD K "has_length" "has_length" (defArgs s_has_length) (defBody s_has_length) (defScope s_has_length) [] [] (He.fAd K ("has_length", none)) fd := T.t.d.def_ 43 (d := d_has_length) rfl
theorem Txt.f_coming (T : Txt w K mg) : ∃ fd, FunD K "coming" "coming" (defArgs s_coming) (defBody s_coming) (defScope s_coming) [] [] (He.fAd K ("coming", none)) fd := T.t.d.def_ 44 (d := d_coming) rfl
theorem Txt.f_holds_for (T : Txt w K mg) : ∃ fd, FunD K "holds_for" "holds_for" (defArgs s_holds_for) (defBody s_holds_for) (defScope s_holds_for) [] [] (He.fAd K ("holds_for", none)) fd := T.t.d.def_ 45 (d := d_holds_for) rfl
theorem Txt.f_place_of (T : Txt w K mg) : ∃ fd, FunD K "place_of" "place_of" (defArgs s_place_of) (defBody s_place_of) (defScope s_place_of) [] [] (He.fAd K ("place_of", none)) fd := T.t.d.def_ 46 (d := d_place_of) rfl
theorem Txt.f_is_about (T : Txt w K mg) : ∃ fd, FunD K "is_about" "is_about" (defArgs s_is_about) (defBody s_is_about) (defScope s_is_about) [] [] (He.fAd K ("is_about", none)) fd := T.t.d.def_ 47 (d := d_is_about) rfl
theorem Txt.f_Book_init (T : Txt w K mg) : ∃ fd, FunD K "__init__" "Book.__init__" (defArgs s_Book_init) (defBody s_Book_init) (defScope s_Book_init) [] [] (He.fAd K ("Book", some "__init__")) fd := T.t.d.def_ 48 (d := d_Book_init) rfl
theorem Txt.f_Book_go_on (T : Txt w K mg) : ∃ fd, FunD K "go_on" "Book.go_on" (defArgs s_Book_go_on) (defBody s_Book_go_on) (defScope s_Book_go_on) [] [] (He.fAd K ("Book", some "go_on")) fd := T.t.d.def_ 49 (d := d_Book_go_on) rfl
theorem Txt.f_Book_setitem (T : Txt w K mg) : ∃ fd, FunD K "__setitem__" "Book.__setitem__" (defArgs s_Book_setitem) (defBody s_Book_setitem) (defScope s_Book_setitem) [] [] (He.fAd K ("Book", some "__setitem__")) fd := T.t.d.def_ 50 (d := d_Book_setitem) rfl
theorem Txt.f_Book_getitem (T : Txt w K mg) : ∃ fd, FunD K "__getitem__" "Book.__getitem__" (defArgs s_Book_getitem) (defBody s_Book_getitem) (defScope s_Book_getitem) [] [] (He.fAd K ("Book", some "__getitem__")) fd := T.t.d.def_ 51 (d := d_Book_getitem) rfl
theorem Txt.f_Book_len (T : Txt w K mg) : ∃ fd, FunD K "__len__" "Book.__len__" (defArgs s_Book_len) (defBody s_Book_len) (defScope s_Book_len) [] [] (He.fAd K ("Book", some "__len__")) fd := T.t.d.def_ 52 (d := d_Book_len) rfl
theorem Txt.f_Book_drop (T : Txt w K mg) : ∃ fd, FunD K "drop" "Book.drop" (defArgs s_Book_drop) (defBody s_Book_drop) (defScope s_Book_drop) [] [] (He.fAd K ("Book", some "drop")) fd := T.t.d.def_ 53 (d := d_Book_drop) rfl
theorem Txt.f_Book_wish (T : Txt w K mg) : ∃ fd, FunD K "wish" "Book.wish" (defArgs s_Book_wish) (defBody s_Book_wish) (defScope s_Book_wish) [] [] (He.fAd K ("Book", some "wish")) fd := T.t.d.def_ 54 (d := d_Book_wish) rfl
theorem Txt.f_Book_lift (T : Txt w K mg) : ∃ fd, FunD K "lift" "Book.lift" (defArgs s_Book_lift) (defBody s_Book_lift) (defScope s_Book_lift) [] [] (He.fAd K ("Book", some "lift")) fd := T.t.d.def_ 55 (d := d_Book_lift) rfl
theorem Txt.f_Book_undo (T : Txt w K mg) : ∃ fd, FunD K "undo" "Book.undo" (defArgs s_Book_undo) (defBody s_Book_undo) (defScope s_Book_undo) [] [] (He.fAd K ("Book", some "undo")) fd := T.t.d.def_ 56 (d := d_Book_undo) rfl
theorem Txt.f_law_jar (T : Txt w K mg) : ∃ fd, FunD K "_law_jar" "_law_jar" (defArgs s_law_jar) (defBody s_law_jar) (defScope s_law_jar) [] [] (He.fAd K ("_law_jar", none)) fd := T.t.d.def_ 57 (d := d_law_jar) rfl
theorem Txt.f_law_dip (T : Txt w K mg) : ∃ fd, FunD K "_law_dip" "_law_dip" (defArgs s_law_dip) (defBody s_law_dip) (defScope s_law_dip) [] [] (He.fAd K ("_law_dip", none)) fd := T.t.d.def_ 58 (d := d_law_dip) rfl
theorem Txt.f_law_one_of (T : Txt w K mg) : ∃ fd, FunD K "_law_one_of" "_law_one_of" (defArgs s_law_one_of) (defBody s_law_one_of) (defScope s_law_one_of) [] [] (He.fAd K ("_law_one_of", none)) fd := T.t.d.def_ 59 (d := d_law_one_of) rfl
theorem Txt.f_law_size (T : Txt w K mg) : ∃ fd, FunD K "_law_size" "_law_size" (defArgs s_law_size) (defBody s_law_size) (defScope s_law_size) [] [] (He.fAd K ("_law_size", none)) fd := T.t.d.def_ 60 (d := d_law_size) rfl
theorem Txt.f_law_cut (T : Txt w K mg) : ∃ fd, FunD K "_law_cut" "_law_cut" (defArgs s_law_cut) (defBody s_law_cut) (defScope s_law_cut) [] [] (He.fAd K ("_law_cut", none)) fd := T.t.d.def_ 61 (d := d_law_cut) rfl
theorem Txt.f_law_any_numbers (T : Txt w K mg) : ∃ fd, FunD K "_law_any_numbers" "_law_any_numbers" (defArgs s_law_any_numbers) (defBody s_law_any_numbers) (defScope s_law_any_numbers) [] [] (He.fAd K ("_law_any_numbers", none)) fd := T.t.d.def_ 62 (d := d_law_any_numbers) rfl
theorem Txt.f_law_shuffle_numbers (T : Txt w K mg) : ∃ fd, FunD K "_law_shuffle_numbers" "_law_shuffle_numbers" (defArgs s_law_shuffle_numbers) (defBody s_law_shuffle_numbers) (defScope s_law_shuffle_numbers) [] [] (He.fAd K ("_law_shuffle_numbers", none)) fd := T.t.d.def_ 63 (d := d_law_shuffle_numbers) rfl
theorem Txt.f_law_ring_numbers (T : Txt w K mg) : ∃ fd, FunD K "_law_ring_numbers" "_law_ring_numbers" (defArgs s_law_ring_numbers) (defBody s_law_ring_numbers) (defScope s_law_ring_numbers) [] [] (He.fAd K ("_law_ring_numbers", none)) fd := T.t.d.def_ 64 (d := d_law_ring_numbers) rfl
theorem Txt.f_law_numbers (T : Txt w K mg) : ∃ fd, FunD K "_law_numbers" "_law_numbers" (defArgs s_law_numbers) (defBody s_law_numbers) (defScope s_law_numbers) [] [] (He.fAd K ("_law_numbers", none)) fd := T.t.d.def_ 65 (d := d_law_numbers) rfl
theorem Txt.f_law_error (T : Txt w K mg) : ∃ fd, FunD K "_law_error" "_law_error" (defArgs s_law_error) (defBody s_law_error) (defScope s_law_error) [] [] (He.fAd K ("_law_error", none)) fd := T.t.d.def_ 66 (d := d_law_error) rfl
theorem Txt.f_law_field (T : Txt w K mg) : ∃ fd, FunD K "_law_field" "_law_field" (defArgs s_law_field) (defBody s_law_field) (defScope s_law_field) [] [] (He.fAd K ("_law_field", none)) fd := T.t.d.def_ 67 (d := d_law_field) rfl
theorem Txt.f_law_told (T : Txt w K mg) : ∃ fd, FunD K "_law_told" "_law_told" (defArgs s_law_told) (defBody s_law_told) (defScope s_law_told) [] [] (He.fAd K ("_law_told", none)) fd := T.t.d.def_ 68 (d := d_law_told) rfl
theorem Txt.f_law_value (T : Txt w K mg) : ∃ fd, FunD K "_law_value" "_law_value" (defArgs s_law_value) (defBody s_law_value) (defScope s_law_value) [] [] (He.fAd K ("_law_value", none)) fd := T.t.d.def_ 69 (d := d_law_value) rfl
theorem Txt.f_law_next (T : Txt w K mg) : ∃ fd, FunD K "_law_next" "_law_next" (defArgs s_law_next) (defBody s_law_next) (defScope s_law_next) [] [] (He.fAd K ("_law_next", none)) fd := T.t.d.def_ 70 (d := d_law_next) rfl
theorem Txt.f_law_followers (T : Txt w K mg) : ∃ fd, FunD K "_law_followers" "_law_followers" (defArgs s_law_followers) (defBody s_law_followers) (defScope s_law_followers) [] [] (He.fAd K ("_law_followers", none)) fd := T.t.d.def_ 71 (d := d_law_followers) rfl
theorem Txt.f_law_path (T : Txt w K mg) : ∃ fd, FunD K "_law_path" "_law_path" (defArgs s_law_path) (defBody s_law_path) (defScope s_law_path) [] [] (He.fAd K ("_law_path", none)) fd := T.t.d.def_ 72 (d := d_law_path) rfl
theorem Txt.f_law_after (T : Txt w K mg) : ∃ fd, FunD K "_law_after" "_law_after" (defArgs s_law_after) (defBody s_law_after) (defScope s_law_after) [] [] (He.fAd K ("_law_after", none)) fd := T.t.d.def_ 73 (d := d_law_after) rfl
theorem Txt.f_law_is_shuffle (T : Txt w K mg) : ∃ fd, FunD K "_law_is_shuffle" "_law_is_shuffle" (defArgs s_law_is_shuffle) (defBody s_law_is_shuffle) (defScope s_law_is_shuffle) [] [] (He.fAd K ("_law_is_shuffle", none)) fd := T.t.d.def_ 74 (d := d_law_is_shuffle) rfl
theorem Txt.f_law_is_ring (T : Txt w K mg) : ∃ fd, FunD K "_law_is_ring" "_law_is_ring" (defArgs s_law_is_ring) (defBody s_law_is_ring) (defScope s_law_is_ring) [] [] (He.fAd K ("_law_is_ring", none)) fd := T.t.d.def_ 75 (d := d_law_is_ring) rfl
theorem Txt.f_law_length (T : Txt w K mg) : ∃ fd, FunD K "_law_length" "_law_length" (defArgs s_law_length) (defBody s_law_length) (defScope s_law_length) [] [] (He.fAd K ("_law_length", none)) fd := T.t.d.def_ 76 (d := d_law_length) rfl
theorem Txt.f_law_coming (T : Txt w K mg) : ∃ fd, FunD K "_law_coming" "_law_coming" (defArgs s_law_coming) (defBody s_law_coming) (defScope s_law_coming) [] [] (He.fAd K ("_law_coming", none)) fd := T.t.d.def_ 77 (d := d_law_coming) rfl
theorem Txt.f_law_wish (T : Txt w K mg) : ∃ fd, FunD K "_law_wish" "_law_wish" (defArgs s_law_wish) (defBody s_law_wish) (defScope s_law_wish) [] [] (He.fAd K ("_law_wish", none)) fd := T.t.d.def_ 78 (d := d_law_wish) rfl
theorem Txt.f_law_holds (T : Txt w K mg) : ∃ fd, FunD K "_law_holds" "_law_holds" (defArgs s_law_holds) (defBody s_law_holds) (defScope s_law_holds) [] [] (He.fAd K ("_law_holds", none)) fd := T.t.d.def_ 79 (d := d_law_holds) rfl
theorem Txt.f_law_book_deed (T : Txt w K mg) : ∃ fd, FunD K "_law_book_deed" "_law_book_deed" (defArgs s_law_book_deed) (defBody s_law_book_deed) (defScope s_law_book_deed) [] [] (He.fAd K ("_law_book_deed", none)) fd := T.t.d.def_ 80 (d := d_law_book_deed) rfl
theorem Txt.f_law_kept (T : Txt w K mg) : ∃ fd, FunD K "_law_kept" "_law_kept" (defArgs s_law_kept) (defBody s_law_kept) (defScope s_law_kept) [] [] (He.fAd K ("_law_kept", none)) fd := T.t.d.def_ 81 (d := d_law_kept) rfl
theorem Txt.f_law_book_due (T : Txt w K mg) : ∃ fd, FunD K "_law_book_due" "_law_book_due" (defArgs s_law_book_due) (defBody s_law_book_due) (defScope s_law_book_due) [] [] (He.fAd K ("_law_book_due", none)) fd := T.t.d.def_ 82 (d := d_law_book_due) rfl
theorem Txt.f_law_put_in (T : Txt w K mg) : ∃ fd, FunD K "_law_put_in" "_law_put_in" (defArgs s_law_put_in) (defBody s_law_put_in) (defScope s_law_put_in) [] [] (He.fAd K ("_law_put_in", none)) fd := T.t.d.def_ 83 (d := d_law_put_in) rfl
theorem Txt.f_law_book_do (T : Txt w K mg) : ∃ fd, FunD K "_law_book_do" "_law_book_do" (defArgs s_law_book_do) (defBody s_law_book_do) (defScope s_law_book_do) [] [] (He.fAd K ("_law_book_do", none)) fd := T.t.d.def_ 84 (d := d_law_book_do) rfl
theorem Txt.f_law_book_shows (T : Txt w K mg) : ∃ fd, FunD K "_law_book_shows" "_law_book_shows" (defArgs s_law_book_shows) (defBody s_law_book_shows) (defScope s_law_book_shows) [] [] (He.fAd K ("_law_book_shows", none)) fd := T.t.d.def_ 85 (d := d_law_book_shows) rfl
theorem Txt.f_law_right (T : Txt w K mg) : ∃ fd, FunD K "_law_right" "_law_right" (defArgs s_law_right) (defBody s_law_right) (defScope s_law_right) [] [] (He.fAd K ("_law_right", none)) fd := T.t.d.def_ 86 (d := d_law_right) rfl
theorem Txt.f_law (T : Txt w K mg) : ∃ fd, FunD K "law" "law" (defArgs s_law) (defBody s_law) (defScope s_law) [] [] (He.fAd K ("law", none)) fd := T.t.d.def_ 87 (d := d_law) rfl
theorem Txt.p_Rule_numbers (T : Txt w K mg) : PropOf K (He.ga K "Rule") "numbers" (pAd K d_Rule_numbers) (gAd K d_Rule_numbers) := (obsP_def T.pr 0 (d := d_Rule_numbers) rfl).1
theorem Txt.f_Rule_numbers (T : Txt w K mg) : ∃ fd, FunD K "numbers" "Rule.numbers" (defArgs s_Rule_numbers) (defBody s_Rule_numbers) (defScope s_Rule_numbers) [] [] (gAd K d_Rule_numbers) fd := (obsP_def T.pr 0 (d := d_Rule_numbers) rfl).2
theorem Txt.p_Book_names (T : Txt w K mg) : PropOf K (He.ga K "Book") "names" (pAd K d_Book_names) (gAd K d_Book_names) := (obsP_def T.pr 1 (d := d_Book_names) rfl).1
theorem Txt.f_Book_names (T : Txt w K mg) : ∃ fd, FunD K "names" "Book.names" (defArgs s_Book_names) (defBody s_Book_names) (defScope s_Book_names) [] [] (gAd K d_Book_names) fd := (obsP_def T.pr 1 (d := d_Book_names) rfl).2
theorem Txt.p_Book_wishes (T : Txt w K mg) : PropOf K (He.ga K "Book") "wishes" (pAd K d_Book_wishes) (gAd K d_Book_wishes) := (obsP_def T.pr 2 (d := d_Book_wishes) rfl).1
theorem Txt.f_Book_wishes (T : Txt w K mg) : ∃ fd, FunD K "wishes" "Book.wishes" (defArgs s_Book_wishes) (defBody s_Book_wishes) (defScope s_Book_wishes) [] [] (gAd K d_Book_wishes) fd := (obsP_def T.pr 2 (d := d_Book_wishes) rfl).2
theorem Txt.p_Book_changes (T : Txt w K mg) : PropOf K (He.ga K "Book") "changes" (pAd K d_Book_changes) (gAd K d_Book_changes) := (obsP_def T.pr 3 (d := d_Book_changes) rfl).1
theorem Txt.f_Book_changes (T : Txt w K mg) : ∃ fd, FunD K "changes" "Book.changes" (defArgs s_Book_changes) (defBody s_Book_changes) (defScope s_Book_changes) [] [] (gAd K d_Book_changes) fd := (obsP_def T.pr 3 (d := d_Book_changes) rfl).2
end

/-! ### the head: what it looks at -/
/-- the objects that count, by their places: the globals, the classes' dicts, the defs, their code, the getters -/
def valsO (o : Obj) : List Addr := match o.data with
  | .dict es _ => es.toList.flatMap fun e => He.refV e.val
  | _ => []
def fnO (o : Obj) : List Addr := match o.data with
  | .func fd => He.refV fd.code ++ He.refV fd.defaults
  | .cls cd => [cd.ns]
  | .fields vs => if o.cls = .type "property" then vs.toList.flatMap He.refV else []
  | _ => []
def stepG (g : Addr → Option Obj) (f : Obj → List Addr) (as : List Addr) : List Addr := as.flatMap fun a => match g a with
  | some o => f o
  | none => []
def asY (g : Addr → Option Obj) : List Addr :=
  let l1 := stepG g valsO [mainGlobals]
  let l2 := stepG g fnO l1
  let l3 := stepG g valsO (l2.filter fun a => match g a with
    | some o => match o.data with
      | .dict _ _ => true
      | _ => false
    | none => false)
  let l4 := stepG g fnO l3
  let l5 := stepG g fnO l4
  mainGlobals :: (l1 ++ (l2 ++ (l3 ++ (l4 ++ l5))))
def tfL : List He.Defn := [("_law_right", none)]
abbrev AlY : Type := He.AlT × (Bool × AlP)
def obsK (g : Addr → Option Obj) (K : PySem.W.Frag) : AlY := (He.obsT faL fnL tabL K, (moreB K && (kinsB K && He.tabsB g tfL K), obsP K))
def valY (w : World) : AlY := (He.valT fnL tabL w, (true, valP))
structure SaysY (w : World) (h : Heap) (K : PySem.W.Frag) : Prop where
  t : He.SaysT faL fnL tabL w K
  more : moreB K = true
  kin : kinsB K = true
  pr : obsP K = valP
  hd : PySem.W.codeHdIn K (He.cT K ("_law_right", none)).1 (He.cT K ("_law_right", none)).2 = true
  out : K.lookup (He.cT K ("_law_right", none)).2 = none
  empty : h.get? (He.cT K ("_law_right", none)).2 = some { cls := .none, data := .fields #[] }
theorem saysY_of {w : World} {h : Heap} (e : obsK h.get? (He.frT h.get? (asY h.get?)) = valY w) : SaysY w h (He.frT h.get? (asY h.get?)) := by
  have e1 : He.obsT faL fnL tabL (He.frT h.get? (asY h.get?)) = He.valT fnL tabL w := congrArg (fun z : AlY => z.1) e
  have e2 : (moreB (He.frT h.get? (asY h.get?)) && (kinsB (He.frT h.get? (asY h.get?)) && He.tabsB h.get? tfL (He.frT h.get? (asY h.get?)))) = true := congrArg (fun z : AlY => z.2.1) e
  have e3 : obsP (He.frT h.get? (asY h.get?)) = valP := congrArg (fun z : AlY => z.2.2) e
  obtain ⟨h1, h2⟩ := He.ba e2
  obtain ⟨h2, h3⟩ := He.ba h2
  obtain ⟨h4, h5⟩ := He.ba (List.all_eq_true.mp h3 (("_law_right", none) : He.Defn) (List.mem_singleton.mpr rfl))
  refine ⟨e1, h1, h2, e3, h4, ?_, ?_⟩
  · cases q : h.get? (He.cT (He.frT h.get? (asY h.get?)) ("_law_right", none)).2 with
    | none =>
      rw [q] at h5
      cases h5
    | some o =>
      rw [q] at h5
      exact He.frT_none q h5
  · cases q : h.get? (He.cT (He.frT h.get? (asY h.get?)) ("_law_right", none)).2 with
    | none =>
      rw [q] at h5
      cases h5
    | some o =>
      rw [q] at h5
      rw [He.emptyTab_eq h5]
def hookY : PySem.W.Hook where
  α := AlY
  obs := fun s => obsK s.heap.get? (He.frT s.heap.get? (asY s.heap.get?))
  val := valY
  says := fun w h => ∃ K : PySem.W.Frag, K.In h ∧ SaysY w h K
  of := fun _ _ e => ⟨_, He.frT_in, saysY_of e⟩
  keeps := fun _ _ _ ⟨K, hK, c⟩ k => ⟨K, PySem.W.Frag.In.keeps hK k, ⟨c.t, c.more, c.kin, c.pr, c.hd, c.out, k _ _ c.empty⟩⟩
def obT (s : PySem.W.SharedT) : AlY := obsK (HandSHeadRun.getT s) (He.frT (HandSHeadRun.getT s) (asY (HandSHeadRun.getT s)))
theorem obT_eq (s : PySem.W.SharedT) : obT s = hookY.obs s.abs := by
  have e : HandSHeadRun.getT s = s.abs.heap.get? := funext (HandSHeadRun.getT_eq s)
  show obsK (HandSHeadRun.getT s) (He.frT (HandSHeadRun.getT s) (asY (HandSHeadRun.getT s))) = obsK s.abs.heap.get? (He.frT s.abs.heap.get? (asY s.abs.heap.get?))
  rw [e]


abbrev R : PySem.W.OpenRow := PySem.W.OpenLaw.row PySem.Challenge.rw_wordshuffles_k61_whole_books_through_dee
abbrev qv : Program := PySem.W.view R.prog [120]
def nm0 : List Str := ["_wall", "WrongValue", "InvalidText", "InvalidName", "InvalidNumber", "InvalidWish", "InvalidIndex", "InvalidLine", "InvalidWord", "NotARule", "InvalidNumbers", "InvalidRules", "InvalidWords", "InvalidDeeds", "WrongName", "UnknownName", "NoAnswer", "NoShuffle", "TooGreat", "Broken", "InUse", "NothingToUndo", "LETTERS", "DIGITS", "MOST_LETTERS", "is_integer", "is_between", "is_name", "number_in", "integer_in"]
def nm1 : List Str := ["power_of", "MOST_NUMBERS", "MOST_NUMBER", "MOST_BITS", "MOST_VALUED", "is_number", "check_numbers", "value_of", "size_of", "check_bits", "check_word", "Rule", "check_rule", "LOW", "round_by", "product", "put_into", "part_of", "hop_of", "cycle_from", "hopped", "word_after", "ring_size", "rounds_between", "is_shuffle_for", "MOST_ASKED", "check_shuffle", "check_asked", "walked", "is_ring_for"]
def nm2 : List Str := ["check_turns", "check_back", "reached", "after", "turns_to", "LENGTHS", "FEW", "MANY", "is_word", "are_bits_and_words", "is_many", "is_wish", "is_always_ring_rule", "is_always_shuffle_rule", "has_length", "coming", "holds_for", "place_of", "is_about", "Book", "_law_jar", "_law_dip", "_law_one_of", "_law_size", "_law_cut", "_law_any_numbers", "_law_shuffle_numbers", "_law_ring_numbers", "_law_numbers", "_law_error"]
def nm3 : List Str := ["_law_field", "_law_told", "_law_value", "_law_next", "_law_followers", "_law_path", "_law_after", "_law_is_shuffle", "_law_is_ring", "_law_length", "_law_coming", "_law_wish", "_law_holds", "_law_book_deed", "_law_kept", "_law_book_due", "_law_put_in", "_law_book_do", "_law_book_shows", "_law_right"]
def names : List Str := nm0 ++ nm1 ++ nm2 ++ nm3
/-! ### the top's run, looked at three times, at each answer of the row that is asked -/
def KS (s : PySem.W.SharedT) : PySem.W.Frag := He.frT (HandSHeadRun.getT s) (asY (HandSHeadRun.getT s))
section
open PySem.W PySem.Calls HandSHeadRun
noncomputable def EF (w : World) (os : OsState) : Option SharedT := endF (stepQ (denQ tabQ) R.prog w) 20000 R.prog w os
abbrev See1 (w : World) (os : OsState) : Prop := (EF w os).map (fun s => (looksF R.prog (boot_heap w.params) s.abs, seenQ qv names (importedModules R.prog.main.body) (fun s => xlAt qv [] s && recOk R.toRowW.records s) s.abs)) = some (true, openGood qv names)
abbrev See2 (w : World) (os : OsState) : Prop := (EF w os).map (fun s => (faL.all (fun f => f.ok (KS s)), (tabL.map (fun t => He.dicW (KS s) (t.1 (KS s))), (moreB (KS s) && (kinsB (KS s) && He.tabsB (getT s) tfL (KS s)), obsP (KS s))))) = some (true, (tabL.map (fun t => some (He.keysIn w.params t.2)), (true, valP)))
abbrev See3 (w : World) (os : OsState) : Prop := (EF w os).map (fun s => (fnL.all (fun d => d.ok (KS s)), fnL.map fun d => He.fnW (KS s) d.at_)) = some (true, fnL.map He.DefD.val)
set_option maxHeartbeats 0 in
theorem see1_f (w : World) (os : OsState) : See1 (w.withFollow "special-get-raises" false) os := by
  kernel_rfl
set_option maxHeartbeats 0 in
theorem see2_f (w : World) (os : OsState) : See2 (w.withFollow "special-get-raises" false) os := by
  kernel_rfl
set_option maxHeartbeats 0 in
theorem see3_f (w : World) (os : OsState) : See3 (w.withFollow "special-get-raises" false) os := by
  kernel_rfl
set_option maxHeartbeats 0 in
theorem see1_t (w : World) (os : OsState) : See1 (w.withFollow "special-get-raises" true) os := by
  kernel_rfl
set_option maxHeartbeats 0 in
theorem see2_t (w : World) (os : OsState) : See2 (w.withFollow "special-get-raises" true) os := by
  kernel_rfl
set_option maxHeartbeats 0 in
theorem see3_t (w : World) (os : OsState) : See3 (w.withFollow "special-get-raises" true) os := by
  kernel_rfl
theorem obsK_of {w : World} {g : Addr → Option Obj} {K : PySem.W.Frag} (b1 : (faL.all fun f => f.ok K) = true) (b2 : (tabL.map fun t => He.dicW K (t.1 K)) = tabL.map fun t => some (He.keysIn w.params t.2)) (b3 : (moreB K && (kinsB K && He.tabsB g tfL K)) = true) (b4 : obsP K = valP)
    (c1 : (fnL.all fun d => d.ok K) = true) (c2 : (fnL.map fun d => He.fnW K d.at_) = fnL.map He.DefD.val) : obsK g K = valY w := by
  unfold obsK valY He.obsT He.valT He.obsD He.valD
  rw [b1, b2, b3, b4, c1, c2]
  rfl
theorem run_of {w : World} (h1 : ∀ os, See1 w os) (h2 : ∀ os, See2 w os) (h3 : ∀ os, See3 w os) : RunEq R qv hookY obT 20000 names w := by
  intro os
  obtain ⟨s, hs, e1⟩ := Option.map_eq_some_iff.mp (h1 os)
  have e2 := h2 os
  have e3 := h3 os
  unfold See2 at e2
  unfold See3 at e3
  rw [hs, Option.map_some, Option.some.injEq] at e2 e3
  have hs2 : endF (stepQ (denQ tabQ) R.prog w) 20000 R.prog w os = some s := hs
  rw [hs2, Option.map_some, Option.some.injEq]
  have a1 := congrArg Prod.fst e1
  have a2 := congrArg Prod.snd e1
  have b1 := congrArg (fun z => z.1) e2
  have b2 := congrArg (fun z => z.2.1) e2
  have b3 := congrArg (fun z => z.2.2.1) e2
  have b4 := congrArg (fun z => z.2.2.2) e2
  have c1 := congrArg (fun z => z.1) e3
  have c2 := congrArg (fun z => z.2) e3
  dsimp only at a1 a2 b1 b2 b3 b4 c1 c2
  refine Prod.ext a1 (Prod.ext a2 ?_)
  exact obsK_of b1 b2 b3 b4 c1 c2
theorem run (w : World) : RunEq R qv hookY obT 20000 names w :=
  byRow2 "special-get-raises" (P := fun w => RunEq R qv hookY obT 20000 names w) (fun w => run_of (see1_f w) (see2_f w) (see3_f w)) (fun w => run_of (see1_t w) (see2_t w) (see3_t w)) w
end


/-! ### a def that keeps its promise, calls -/
structure HasA (P : Program) (w : World) (K : PySem.W.Frag) (mg : Str → Option Value) (base : Heap) (f : Addr) (k : Nat) (ps : List Str) (dvs : List V) (sp : Sp) : Prop where
  ok : ∃ fd ds, FnOk P w K mg base (L2.CX P w) k f fd ps sp ∧ Binds K fd ps ds ∧ Vals dvs ds
  kp : PySem.W.keepIn K (.ref f) = true
abbrev Has (P : Program) (w : World) (K : PySem.W.Frag) (mg : Str → Option Value) (base : Heap) (d : He.DefD) (k : Nat) (ps : List Str) (sp : Sp) : Prop := HasA P w K mg base (He.fAd K d.at_) k ps [] sp
theorem mkHas {P : Program} {w : World} {K : PySem.W.Frag} {mg : Str → Option Value} {base : Heap} {f : Addr} {x q : Str} {pr : Arguments} {b : List Stmt} {sc : Scope} {N ps : List Str} {k : Nat} {sp : Sp}
    (F : ∃ fd, FunD K x q pr b sc [] [] f fd) (S : FnScope N ps sc)
    (hb : ∀ (kV doc pm : Value) (an : Option Addr) (cdv ct : Value) (us : List Value), us.length = ps.length → bindArgs (PySem.W.fnOf x q pr b sc .none kV doc pm an cdv ct) ⟨us, []⟩ = pure (ps.zip us))
    (len : ∀ vs H Q E, sp vs H Q E → vs.length = ps.length)
    (hbody : ∀ (cdv : Value) (A : Around) (outer : List Env) (s : Shared) (H : Hp) (vs : List V) (Q : VK) (E : XK), Room k (A.deeper (envOfC q sc s.heap.objs.size f cdv)) → sp vs H Q E →
      ∃ t, PSs (cxOf (L2.CX P w) P w K mg base N q sc f cdv A outer s H E) b t ∧ t { nx := fun _ H' => Q .non H', rt := Q } (start N vs) H) : HasA P w K mg base f (k + 1) ps [] sp := by
  obtain ⟨fd, F⟩ := F
  exact ⟨⟨fd, [], F.ok S len hbody, F.bindsN hb, .nil⟩, F.kp⟩
theorem mkHasD {P : Program} {w : World} {K : PySem.W.Frag} {mg : Str → Option Value} {base : Heap} {f : Addr} {x q : Str} {pr : Arguments} {b : List Stmt} {sc : Scope} {N ps : List Str} {k : Nat} {sp : Sp} {dvs : List V}
    (F : ∃ fd, FunD K x q pr b sc dvs [] f fd) (S : FnScope N ps sc) (n : Nat) (hd : dvs ≠ []) (hn : n + dvs.length = ps.length)
    (hb : ∀ (T : Addr) (kV doc pm : Value) (an : Option Addr) (cdv ct : Value) (us its : List Value), us.length = n → its.length = dvs.length →
      ∃ k, bindArgs (PySem.W.fnOf x q pr b sc (.ref T) kV doc pm an cdv ct) ⟨us, []⟩ = seqItems? (.ref T) >>= k ∧ k (some its.toArray) = pure (ps.zip (us ++ its.drop 0)))
    (len : ∀ vs H Q E, sp vs H Q E → vs.length = ps.length)
    (hbody : ∀ (cdv : Value) (A : Around) (outer : List Env) (s : Shared) (H : Hp) (vs : List V) (Q : VK) (E : XK), Room k (A.deeper (envOfC q sc s.heap.objs.size f cdv)) → sp vs H Q E →
      ∃ t, PSs (cxOf (L2.CX P w) P w K mg base N q sc f cdv A outer s H E) b t ∧ t { nx := fun _ H' => Q .non H', rt := Q } (start N vs) H) : HasA P w K mg base f (k + 1) ps dvs sp := by
  obtain ⟨fd, F⟩ := F
  obtain ⟨ds, r, b⟩ := F.binds1 n 0 hd (by rw [Nat.sub_zero]; exact hn) hb
  exact ⟨⟨fd, ds, F.ok S len hbody, b, r⟩, F.kp⟩
section
variable {X : Cx}
theorem passE {X : Cx} : Passes (L2.CX X.prog X.w) X (fun _ _ _ => False) := passL
theorem cF {f : Addr} {k : Nat} {ps : List Str} {dvs : List V} {sp : Sp} {x : Str} {p pos : Pos} {e : Expr} {es : List Expr} {t : TA} (F : HasA X.prog X.w X.K X.mg X.base f k ps dvs sp) (hr : Room k X.A) (hm : X.mg x = some (.ref f))
    (ha : PA X (e :: es) t) (hg : Gl X x := by rfl) (hdb : (x == ("__debug__" : Str)) = false := by decide +kernel) (he : starEach (e :: es) X.env = (false, eval e X.env) :: starEach es X.env := by rfl) (hpl : (backTo pos (starEach es X.env)).any (·.1) = false := by rfl) :
    PE X (.Call (.Name x p) (e :: es) [] pos) (tCall sp dvs (fun _ _ _ => False) t) := by
  obtain ⟨fd, ds, F1, b1, r1⟩ := F.ok
  exact pe_call F1 hr hg hm F.kp b1 r1 passE ha hdb he hpl
/-- o.m(e, ..) -/
theorem cM {pl : Sem Bool} {f C : Addr} {k : Nat} {ps : List Str} {dvs : List V} {sp : Sp} {m : Str} {apos pos : Pos} {o e : Expr} {es : List Expr} {to : TE} {t : TA} (F : HasA X.prog X.w X.K X.mg X.base f k ps dvs sp) (c : Cls X.K C) (hm : Meth X.K C m f) (hr : Room k X.A)
    (ho : PE X o to) (ha : PA X (e :: es) t) (hst : starEach (e :: es) X.env = (false, eval e X.env) :: starEach es X.env := by rfl) (hpl : (backTo pos (starEach es X.env)).any (·.1) = false := by rfl)
    (ht : eval (.Call (.Attribute o m apos) (e :: es) [] pos) X.env = (do
      let ov ← eval o X.env
      standAt apos.atName
      let (f, first) ← holding [ov] (getMethod ov m pl)
      callWith pos f first (backTo pos (starEach (e :: es) X.env)) (backToKw pos (keywordEach [] X.env))) := by rfl) :
    PE X (.Call (.Attribute o m apos) (e :: es) [] pos) (tMeth C m sp dvs (fun _ _ _ => False) to t) := by
  obtain ⟨fd, ds, F1, b1, r1⟩ := F.ok
  exact pe_meth (pl := pl) ho c hm F1 hr b1 r1 passE ha hst hpl ht
/-- e.f, a property -/
theorem cP {g C p : Addr} {k : Nat} {ps : List Str} {dvs : List V} {sp : Sp} {f : Str} {pos : Pos} {e : Expr} {te : TE} (F : HasA X.prog X.w X.K X.mg X.base g k ps dvs sp) (c : Cls X.K C) (hp : PropOf X.K C f p g) (hr : Room (k + 1) X.A) (he : PE X e te)
    (hab : attributeBase e f X.env (eval e X.env) = eval e X.env := by rfl) : PE X (.Attribute e f pos) (tProp C sp dvs (fun _ _ _ => False) te) := by
  obtain ⟨fd, ds, F1, b1, r1⟩ := F.ok
  exact pe_prop he c hp F1 hr b1 r1 passL hab
/-- C(e, ..) -/
theorem cK {f C : Addr} {k : Nat} {ps : List Str} {dvs : List V} {sp : Sp} {x : Str} {p pos : Pos} {e : Expr} {es : List Expr} {t : TA} (F : HasA X.prog X.w X.K X.mg X.base f k ps dvs sp) (M : Mk X.K C f) (hr : Room (k + 1) X.A) (hm : X.mg x = some (.ref C))
    (ha : PA X (e :: es) t) (hg : Gl X x := by rfl) (hdb : (x == ("__debug__" : Str)) = false := by decide +kernel) (he : starEach (e :: es) X.env = (false, eval e X.env) :: starEach es X.env := by rfl) (hpl : (backTo pos (starEach es X.env)).any (·.1) = false := by rfl) :
    PE X (.Call (.Name x p) (e :: es) [] pos) (tMake C sp dvs (fun _ _ _ => False) t) := by
  obtain ⟨fd, ds, F1, b1, r1⟩ := F.ok
  exact pe_make M F1 hr hg hm b1 r1 passE ha hdb he hpl
theorem cK0 {f C : Addr} {k : Nat} {ps : List Str} {dvs : List V} {sp : Sp} {x : Str} {p pos : Pos} (F : HasA X.prog X.w X.K X.mg X.base f k ps dvs sp) (M : Mk X.K C f) (hr : Room (k + 1) X.A) (hm : X.mg x = some (.ref C))
    (hg : Gl X x := by rfl) (hdb : (x == ("__debug__" : Str)) = false := by decide +kernel) : PE X (.Call (.Name x p) [] [] pos) (tMake C sp dvs (fun _ _ _ => False) tNil) := by
  obtain ⟨fd, ds, F1, b1, r1⟩ := F.ok
  exact pe_make0 M F1 hr hg hm b1 r1 passE hdb
theorem pe_gi {x : Str} {n : Int} {pos : Pos} (hg : Gl X x) (h : ∃ t, X.mg x = some (.int n t)) (hd : (x == ("__debug__" : Str)) = false := by decide +kernel) : PE X (.Name x pos) (tC (.int n)) := by
  obtain ⟨t, h⟩ := h
  exact pe_glob hg h ⟨_, rfl⟩ hd
theorem pe_gr {x : Str} {a : Addr} {pos : Pos} (hg : Gl X x) (h : X.mg x = some (.ref a)) (hd : (x == ("__debug__" : Str)) = false := by decide +kernel) : PE X (.Name x pos) (tC (.ref a)) := pe_glob hg h rfl hd
theorem pe_gs {x z : Str} {pos : Pos} (hg : Gl X x) (h : ∃ t, X.mg x = some (.str z t)) (hd : (x == ("__debug__" : Str)) = false := by decide +kernel) : PE X (.Name x pos) (tC (.str z)) := by
  obtain ⟨t, h⟩ := h
  exact pe_glob hg h ⟨_, rfl⟩ hd
end
/-! ### the steps of a reading -/
def rFld (K : PySem.W.Frag) (f : Str) : V → Hp → VK → Prop := fun x H Q => ∃ a C dx fs v, x = .ref a ∧ H a = some (.ins C dx fs) ∧ Cls K C ∧ NoAttr K C f ∧ fs.lookup f = some v ∧ Q v H
def rProp (C : Addr) (sp : Sp) (dvs : List V) (E : XK) : V → Hp → VK → Prop := fun x H Q => ∃ a dx fs, x = .ref a ∧ H a = some (.ins C dx fs) ∧ sp (.ref a :: dvs) H Q E
def rMeth (C : Addr) (m : Str) (sp : Sp) (dvs : List V) (E : XK) (t : TA) (σ : L2.St) : V → Hp → VK → Prop := fun x H Q => ∃ a dx fs, x = .ref a ∧ H a = some (.ins C dx fs) ∧ fs.lookup m = none ∧ t σ H fun vs H2 => sp (x :: (vs ++ dvs)) H2 Q E
def rMake (C : Addr) (sp : Sp) (dvs : List V) (E : XK) : List V → Hp → VK → Prop := fun vs H1 Q => ∀ x dx, H1 x = none → H1 dx = none → dx ≠ x → sp (.ref x :: (vs ++ dvs)) (upd (upd H1 dx (.own x)) x (.ins C dx [])) (fun v H2 => v = .non ∧ Q (.ref x) H2) E
section
variable {K : PySem.W.Frag} {w : World} {σ : L2.St} {H : Hp} {Q : VK} {D : Ends} {t u : TS} {te ta tb tc : TE} {tt tt' : TT} {x y v : V} {i j n m : Int} {a b : Bool}
theorem w_seq (h : t { D with nx := u D } σ H) : tSeq t u D σ H := h
theorem w_asg {g : TG} (h : te σ H fun x H1 => g x σ H1 D.nx) : tAsg te g D σ H := h
theorem w_name {k : Nat} {Q : L2.St → Hp → Prop} (h : Q (σ.set k (some v)) H) : gName k v σ H Q := h
theorem w_ret (h : te σ H D.rt) : tRet te D σ H := h
theorem w_retN (h : D.rt .non H) : tRetN D σ H := h
theorem w_drop (h : te σ H fun _ H1 => D.nx σ H1) : tDrop te D σ H := h
theorem w_next (h : D.nx σ H) : tNext D σ H := h
theorem w_ifS (h : tt σ H fun b H1 => if b = true then t D σ H1 else u D σ H1) : tIfS tt t u D σ H := h
theorem w_var {k : Nat} (e : σ[k]? = some (some v)) (h : Q v H) : tVar k σ H Q := ⟨v, e, h⟩
theorem w_c (h : Q v H) : tC v σ H Q := h
theorem w_op {r : R2} (h : ta σ H fun x H1 => tb σ H1 fun y H2 => r x y H2 Q) : tOp r ta tb σ H Q := h
theorem w_un {r : V → Hp → VK → Prop} (h : ta σ H fun x H1 => r x H1 Q) : tUn r ta σ H Q := h
theorem w_test {Q : Bool → Hp → Prop} (h : te σ H fun x H' => ∃ k, x = .bl k ∧ Q k H') : tTest te σ H Q := h
theorem w_tB {Q : Bool → Hp → Prop} (h : te σ H fun x H' => ∃ k, x = .bl k ∧ Q k H') : tB te σ H Q := h
theorem w_k {P : Bool → Prop} (h : P a) : ∃ c, V.bl a = .bl c ∧ P c := ⟨a, rfl, h⟩
theorem w_not {Q : Bool → Hp → Prop} (h : tt σ H fun c H1 => Q (!c) H1) : tNot tt σ H Q := h
theorem w_and {Q : Bool → Hp → Prop} (h : tt σ H fun c H1 => if c = true then tt' σ H1 Q else Q false H1) : tAnd tt tt' σ H Q := h
theorem w_or {Q : Bool → Hp → Prop} (h : tt σ H fun c H1 => if c = true then Q true H1 else tt' σ H1 Q) : tOr tt tt' σ H Q := h
theorem w_andV (h : ta σ H fun x H1 => ∃ c, x = .bl c ∧ if c = true then tb σ H1 Q else Q (.bl false) H1) : tAndV ta tb σ H Q := h
theorem w_orV (h : ta σ H fun x H1 => ∃ c, x = .bl c ∧ if c = true then Q (.bl true) H1 else tb σ H1 Q) : tOrV ta tb σ H Q := h
theorem w_notV (h : ta σ H fun x H1 => ∃ c, x = .bl c ∧ Q (.bl (!c)) H1) : tNotV ta σ H Q := h
theorem w_tIf (h : tt σ H fun c H1 => if c = true then ta σ H1 Q else tb σ H1 Q) : tIf tt ta tb σ H Q := h
theorem w_I0 {g : Int → Int → V} (h : Q (g i j) H) : rI0 g (.int i) (.int j) H Q := ⟨i, j, rfl, rfl, h⟩
theorem w_I {C : Int → Int → Prop} {g : Int → Int → V} (c : C i j) (h : Q (g i j) H) : rI C g (.int i) (.int j) H Q := ⟨i, j, rfl, rfl, c, h⟩
theorem w_U {g : Int → V} (h : Q (g i) H) : rU g (.int i) H Q := ⟨i, rfl, h⟩
theorem w_eqI (h : Q (.bl (decide (i = j))) H) : rEq (.int i) (.int j) H Q := ⟨rfl, by
  have e : decide (V.int i = V.int j) = decide (i = j) := by
    by_cases q : i = j
    · subst q
      simp
    · rw [decide_eq_false q, decide_eq_false fun z => q (V.int.inj z)]
  rw [e]
  exact h⟩
theorem w_neI (h : Q (.bl (!decide (i = j))) H) : rNe (.int i) (.int j) H Q := ⟨rfl, by
  have e : decide (V.int i = V.int j) = decide (i = j) := by
    by_cases q : i = j
    · subst q
      simp
    · rw [decide_eq_false q, decide_eq_false fun z => q (V.int.inj z)]
  rw [e]
  exact h⟩
theorem w_eqS {z z' : Str} (h : Q (.bl (decide (z = z'))) H) : rEq (.str z) (.str z') H Q := ⟨rfl, by
  have e : decide (V.str z = V.str z') = decide (z = z') := by
    by_cases q : z = z'
    · subst q
      simp
    · rw [decide_eq_false q, decide_eq_false fun y => q (V.str.inj y)]
  rw [e]
  exact h⟩
theorem w_neS {z z' : Str} (h : Q (.bl (!decide (z = z'))) H) : rNe (.str z) (.str z') H Q := ⟨rfl, by
  have e : decide (V.str z = V.str z') = decide (z = z') := by
    by_cases q : z = z'
    · subst q
      simp
    · rw [decide_eq_false q, decide_eq_false fun y => q (V.str.inj y)]
  rw [e]
  exact h⟩
theorem w_eqNI (h : Q (.bl false) H) : rEq .non (.int j) H Q := ⟨rfl, h⟩
theorem w_isN (h : Q (.bl (decide (x = .non))) H) : (fun (x y : V) (H : Hp) (Q : VK) => y = .non ∧ Q (.bl (decide (x = .non))) H) x .non H Q := ⟨rfl, h⟩
theorem w_notN (h : Q (.bl (!decide (x = .non))) H) : (fun (x y : V) (H : Hp) (Q : VK) => y = .non ∧ Q (.bl (!decide (x = .non))) H) x .non H Q := ⟨rfl, h⟩
theorem w_chain {r r' : R2} (h : ta σ H fun x H1 => tb σ H1 fun y H2 => r x y H2 fun z H3 => ∃ k, z = .bl k ∧ (if k = true then tc σ H3 fun w' H4 => r' y w' H4 Q else Q (.bl false) H3)) : tChain r r' ta tb tc σ H Q := h
theorem w_cb {r : List V → Hp → VK → Prop} {t : TA} (h : t σ H fun vs H1 => r vs H1 Q) : tCB r t σ H Q := h
theorem w_call {sp : Sp} {E : XK} {t : TA} {dvs : List V} (h : t σ H fun vs H1 => sp (vs ++ dvs) H1 Q E) : tCall sp dvs E t σ H Q := h
theorem w_prop {C : Addr} {sp : Sp} {E : XK} {dvs : List V} (h : te σ H fun x H1 => rProp C sp dvs E x H1 Q) : tProp C sp dvs E te σ H Q := h
theorem w_meth {C : Addr} {m : Str} {sp : Sp} {E : XK} {dvs : List V} {t : TA} (h : te σ H fun x H1 => rMeth C m sp dvs E t σ x H1 Q) : tMeth C m sp dvs E te t σ H Q := h
theorem w_make {C : Addr} {sp : Sp} {E : XK} {dvs : List V} {t : TA} (h : t σ H fun vs H1 => rMake C sp dvs E vs H1 Q) : tMake C sp dvs E t σ H Q := h
theorem w_fld {f : Str} (h : te σ H fun x H1 => rFld K f x H1 Q) : tFld K te f σ H Q := h
theorem w_tup {t : TA} (h : t σ H fun xs H1 => xs.length ≤ sizeLine ∧ ∀ p, H1 p = none → Q (.ref p) (upd H1 p (.tup xs))) : tTup t σ H Q := h
theorem w_lst {t : TA} (h : t σ H fun xs H1 => xs.length ≤ sizeLine ∧ ∀ p, H1 p = none → Q (.ref p) (upd H1 p (.lst xs))) : tLst t σ H Q := h
theorem w_cons {tr : TA} {Q : List V → Hp → Prop} (h : ta σ H fun x H1 => tr σ H1 fun xs H2 => Q (x :: xs) H2) : tCons ta tr σ H Q := h
theorem w_nil {Q : List V → Hp → Prop} (h : Q [] H) : tNil σ H Q := h
/-- what is left of a for behind its source -/
def ForG (J : It) (g : TG) (tb : TS) (D : Ends) (σ : L2.St) (H : Hp) : Prop := ∃ W : Nat → Nat → L2.St → Hp → Prop, (∃ m, W 0 m σ H) ∧ ∀ i m σ H, W i m σ H →
  (J.stop i H ∧ D.nx σ H) ∨ (J.go i H ∧ ∃ N : L2.St → Hp → Prop, (∀ σ' H', N σ' H' → ∃ m', m' < m ∧ W (i + 1) m' σ' H') ∧ ∀ x H', J.yld i H x H' → g x σ H' fun σ2 H2 => tb { D with nx := N, ct := N, bk := D.nx } σ2 H2)
theorem w_forR {ta : TA} {g : TG} {tb : TS} (h : ta σ H fun vs H1 => ∃ j : Int, vs = [.int j] ∧ -(2 ^ 62) ≤ j ∧ j < 2 ^ 62 ∧ ForG (Itr 0 j.toNat) g tb D σ H1) : tFor (iRng1 ta) g tb D σ H := h
theorem w_forR2 {ta : TA} {g : TG} {tb : TS} (h : ta σ H fun vs H1 => ∃ i j : Int, vs = [.int i, .int j] ∧ (-(2 ^ 62) ≤ i ∧ i < 2 ^ 62 ∧ -(2 ^ 62) ≤ j ∧ j < 2 ^ 62) ∧ ForG (Itr i (j - i).toNat) g tb D σ H1) : tFor (iRng2 ta) g tb D σ H := h
theorem w_forL {g : TG} {tb : TS} (h : te σ H fun x H1 => ∃ a, x = .ref a ∧ (∃ xs, SqL K H1 a xs) ∧ ForG (Itl K a) g tb D σ H1) : tFor (iList K te) g tb D σ H := h
theorem w_forT {g : TG} {tb : TS} (h : te σ H fun x H1 => ∃ a, x = .ref a ∧ (∃ xs, SqT K H1 a xs) ∧ ForG (Itt K a) g tb D σ H1) : tFor (iTup K te) g tb D σ H := h
/-- isinstance -/
theorem isi_int (h : Q (.bl true) H) : rIsi K [.int i, .ty "int"] H Q := ⟨_, _, _, _, true, rfl, .ty "int", .base (.int i), kit_ty (by decide +kernel), h⟩
theorem isi_intB (h : Q (.bl false) H) : rIsi K [.int i, .ty "bool"] H Q := ⟨_, _, _, _, false, rfl, .ty "bool", .base (.int i), kit_ty (by decide +kernel), h⟩
theorem isi_nonI (h : Q (.bl false) H) : rIsi K [.non, .ty "int"] H Q := ⟨_, _, _, _, false, rfl, .ty "int", .base .non, kit_ty (by decide +kernel), h⟩
theorem isi_str {z : Str} (h : Q (.bl true) H) : rIsi K [.str z, .ty "str"] H Q := ⟨_, _, _, _, true, rfl, .ty "str", .base (.str z), kit_ty (by decide +kernel), h⟩
theorem isi_tup {p : Addr} {xs : List V} (e : H p = some (.tup xs)) (h : Q (.bl true) H) : rIsi K [.ref p, .ty "tuple"] H Q := ⟨_, _, _, _, true, rfl, .ty "tuple", .base (.tup e), kit_ty (by decide +kernel), h⟩
theorem if_T {A B : Prop} (h : A) : if true = true then A else B := iteT h
theorem if_F {A B : Prop} (h : B) : if false = true then A else B := iteF h
theorem if_d {p : Prop} [Decidable p] {A B : Prop} (h1 : p → A) (h2 : ¬ p → B) : if decide p = true then A else B := by
  by_cases c : p
  · rw [decide_eq_true c]; exact iteT (h1 c)
  · rw [decide_eq_false c]; exact iteF (h2 c)
theorem if_dn {p : Prop} [Decidable p] {A B : Prop} (h1 : ¬ p → A) (h2 : p → B) : if (!decide p) = true then A else B := by
  by_cases c : p
  · rw [decide_eq_true c]; exact iteF (h2 c)
  · rw [decide_eq_false c]; exact iteT (h1 c)
theorem if_dT {p : Prop} [Decidable p] {A B : Prop} (c : p) (h1 : A) : if decide p = true then A else B := by
  rw [decide_eq_true c]; exact iteT h1
theorem if_dF {p : Prop} [Decidable p] {A B : Prop} (c : ¬ p) (h1 : B) : if decide p = true then A else B := by
  rw [decide_eq_false c]; exact iteF h1
theorem if_dnT {p : Prop} [Decidable p] {A B : Prop} (c : ¬ p) (h1 : A) : if (!decide p) = true then A else B := by
  rw [decide_eq_false c]; exact iteT h1
theorem if_dnF {p : Prop} [Decidable p] {A B : Prop} (c : p) (h1 : B) : if (!decide p) = true then A else B := by
  rw [decide_eq_true c]; exact iteF h1
/-- Q's value rewritten -/
theorem q_bl (e : a = b) (h : Q (.bl a) H) : Q (.bl b) H := e ▸ h
theorem q_int (e : i = j) (h : Q (.int i) H) : Q (.int j) H := e ▸ h
end


/-! ### slices with a step -/
def evs {α : Type} : List α → List α
  | [] => []
  | [x] => [x]
  | x :: _ :: r => x :: evs r
theorem evs_length_le {α : Type} : ∀ l : List α, (evs l).length ≤ l.length
  | [] => Nat.le_refl _
  | [_] => Nat.le_refl _
  | _ :: _ :: r => by
    have := evs_length_le r
    simp only [evs, List.length_cons]
    omega
theorem evs_map {α β : Type} (f : α → β) : ∀ l : List α, evs (l.map f) = (evs l).map f
  | [] => rfl
  | [_] => rfl
  | _ :: _ :: r => by simp only [List.map_cons, evs, evs_map f r]
theorem evs_vals : ∀ {xs : List V} {us : List Value}, Vals xs us → Vals (evs xs) (evs us)
  | _, _, .nil => .nil
  | _, _, .cons a .nil => .cons a .nil
  | _, _, .cons a (.cons _ r) => .cons a (evs_vals r)
theorem fmCongr {α β : Type} {f g : α → Option β} : ∀ {l : List α}, (∀ x ∈ l, f x = g x) → l.filterMap f = l.filterMap g
  | [], _ => rfl
  | x :: l, h => by
    rw [List.filterMap_cons, List.filterMap_cons, h x (List.mem_cons_self ..), fmCongr fun y q => h y (List.mem_cons_of_mem _ q)]
theorem pick2 {α : Type} : ∀ (xs : List α), (List.range ((xs.length + 1) / 2)).filterMap (fun m => xs[2 * m]?) = evs xs
  | [] => by simp [evs]
  | [x] => by
    rw [show ([x].length + 1) / 2 = 0 + 1 from by simp, List.range_succ_eq_map]
    simp [evs]
  | x :: y :: r => by
    have e : ((x :: y :: r).length + 1) / 2 = (r.length + 1) / 2 + 1 := by simp only [List.length_cons]; omega
    rw [e, List.range_succ_eq_map, List.filterMap_cons_some (f := fun m => (x :: y :: r)[2 * m]?) (a := 0) (b := x) rfl, List.filterMap_map, evs]
    congr 1
    rw [← pick2 r]
    refine fmCongr fun m _ => ?_
    show (x :: y :: r)[2 * (m + 1)]? = r[2 * m]?
    rw [show 2 * (m + 1) = 2 * m + 1 + 1 from by omega, List.getElem?_cons_succ, List.getElem?_cons_succ]
theorem pick2from {α : Type} (xs : List α) (a k : Nat) (hk : k = (xs.length - a + 1) / 2) : (List.range k).filterMap (fun m => xs[a + 2 * m]?) = evs (xs.drop a) := by
  rw [← pick2 (xs.drop a), List.length_drop, hk]
  congr 1
  funext m
  rw [List.getElem?_drop]
theorem pickRev {α : Type} (xs : List α) : (List.range xs.length).filterMap (fun (m : Nat) => xs[((xs.length : Int) - 1 + (m : Int) * (-1)).toNat]?) = xs.reverse := by
  have h : ∀ (n : Nat), n ≤ xs.length → (List.range n).filterMap (fun m => xs[xs.length - 1 - m]?) = xs.reverse.take n := by
    intro n hn
    induction n with
    | zero => rfl
    | succ n ih =>
      have q : xs[xs.length - 1 - n]? = some (xs[xs.length - 1 - n]'(by omega)) := List.getElem?_eq_getElem (by omega)
      rw [List.range_succ, List.filterMap_append, ih (by omega), List.filterMap_cons_some (f := fun m => xs[xs.length - 1 - m]?) (l := []) q, List.filterMap_nil, List.take_add_one]
      congr 1
      rw [List.getElem?_reverse (by omega), q]
      rfl
  have e : (fun (m : Nat) => xs[((xs.length : Int) - 1 + (m : Int) * (-1)).toNat]?) = fun m => xs[xs.length - 1 - m]? := by
    funext m
    have : ((xs.length : Int) - 1 + (m : Int) * (-1)).toNat = xs.length - 1 - m := by omega
    rw [this]
  rw [e, h _ (Nat.le_refl _), List.take_of_length_le (by rw [List.length_reverse]; exact Nat.le_refl _)]
section
open HT
variable {prog : Program} {w : World} {A : Around} {E : Value → Shared → Prop} {s : Shared}
theorem sliceApplied_step {sl : Addr} {vl vu vs : Value} {lo hi : Option Int} {c a b : Int} {n : Nat} {Q : Int × Int × Nat → Shared → Prop} (hs : s.heap.IsSliceOf sl vl vu vs) (pl : IsPart vl lo) (pu : IsPart vu hi) (ps : IsPart vs (some c)) (hc : c ≠ 0)
    (ha : Builtin.Slice.sliceAdjust lo hi c (n : Int) = (a, b)) (h : Q (a, c, Builtin.Slice.slicePlaces a b c) s) : wpAny (model prog w) A (Builtin.Slice.sliceApplied (.ref sl) (pure (n : Int))) Q E s := by
  obtain ⟨os, hos, hcs, hds⟩ := id hs
  unfold Builtin.Slice.sliceApplied Builtin.Slice.sliceFields
  refine wpAny_bind (wpAny_bind (wpAny_field hos hds (x := vl) rfl (wpAny_bind (wpAny_field hos hds (x := vu) rfl (wpAny_bind (wpAny_field hos hds (x := vs) rfl (wpAny_pure ?_)))))))
  refine wpAny_bind (slicePart_ ps ?_)
  show wpAny _ _ (if (c == 0) = true then _ else _) _ _ s
  rw [if_neg (by simp [hc])]
  refine wpAny_bind (slicePart_ pl (wpAny_bind (slicePart_ pu (wpAny_bind (wpAny_pure ?_)))))
  show wpAny _ _ (match Builtin.Slice.sliceAdjust lo hi c (n : Int) with | (lo, hi) => pure (lo, c, Builtin.Slice.slicePlaces lo hi c)) _ _ s
  rw [ha]
  exact wpAny_pure h
theorem getItem_tuple_step {t sl : Addr} {items : Array Value} {vl vu vs : Value} {lo hi : Option Int} {c a b : Int} {R : List Value} {Q : Value → Shared → Prop} (ht : IsTup s.heap t items) (hs : s.heap.IsSliceOf sl vl vu vs) (pl : IsPart vl lo) (pu : IsPart vu hi) (ps : IsPart vs (some c))
    (hc : c ≠ 0) (hc1 : c ≠ 1) (ha : Builtin.Slice.sliceAdjust lo hi c (items.size : Int) = (a, b))
    (hR : (List.range (Builtin.Slice.slicePlaces a b c)).filterMap (fun (m : Nat) => items[(a + (m : Int) * c).toNat]?) = R)
    (h : Q (.ref s.heap.objs.size) { s with heap := s.heap.push { cls := .type "tuple", data := .seq R.toArray } })
    (hsz : R.length ≤ sizeLine) : wpAny (model prog w) A (getItem (.ref t) (.ref sl)) Q E s := by
  have htake : sizeOk (.seq R.toArray) := by
    show R.toArray.size ≤ sizeLine
    rw [List.size_toArray]
    exact hsz
  obtain ⟨os, hos, hcs, hds⟩ := id hs
  have hTs : s.TypeIs (.ref sl) "slice" := ⟨os, hos, hcs⟩
  unfold getItem
  try with_reducible refine wpAny_holding ?_
  first | refine wpAny_bind (wpAny_pure ?_) | skip
  refine wpAny_bind (wpAny_sequenceKey ht.typeIs (by decide) ?_)
  refine wpAny_bind (wpAny_callSpecial?_slot (name := Str.ofString "__getitem__") ht.typeIs PyProof.Rows.slot_tuple_getitem
    (wpAny_call_entry PyProof.Rows.slot_tuple_getitem ht.typeIs entry_tuple_getitem ?_ (args_tuple_getitem _ _)))
  show wpAny _ _ (Builtin.Tuple.tupleItemsOf (.ref t) >>= _) _ _ s
  refine wpAny_bind (tupleItemsOf_ ht ?_)
  refine wpAny_bind (wpAny_typeOf hTs ?_)
  rw [if_pos (by decide)]
  refine wpAny_bind (sliceApplied_step hs pl pu ps hc ha ?_)
  have hno : ¬ ((a == 0 && c == 1 && (Builtin.Slice.slicePlaces a b c) == items.size) = true) := by
    intro q
    rw [Bool.and_eq_true, Bool.and_eq_true] at q
    exact hc1 (eq_of_beq q.1.2)
  show wpAny _ _ (if (a == 0 && c == 1 && (Builtin.Slice.slicePlaces a b c) == items.size) = true then _ else _) _ _ s
  rw [if_neg hno, hR]
  first
    | exact wpAny_bind (m := Builtin.Tuple.tupleExact _) (wpAny_newObj_type (wpAny_pure ⟨_, rfl, wpAny_pure h⟩) htake)
    | exact wpAny_bind (m := Builtin.Tuple.tupleExact _) (wpAny_newObj_type (wpAny_bind (wpAny_pure (wpAny_pure ⟨_, rfl, wpAny_pure h⟩))) htake)
    | exact wpAny_bind (wpAny_bind (m := Builtin.Tuple.tupleExact _) (wpAny_newObj_type (wpAny_pure (wpAny_pure ⟨_, rfl, wpAny_pure h⟩)) htake))
    | exact wpAny_bind (wpAny_bind (m := Builtin.Tuple.tupleExact _) (wpAny_newObj_type (wpAny_pure ⟨_, rfl, wpAny_pure h⟩) htake))
end
theorem adjRev (n : Nat) : Builtin.Slice.sliceAdjust none none (-1) (n : Int) = ((n : Int) - 1, -1) := rfl
theorem placesRev (n : Nat) : Builtin.Slice.slicePlaces ((n : Int) - 1) (-1) (-1) = n := by
  unfold Builtin.Slice.slicePlaces
  rw [if_neg (by decide)]
  by_cases h : n = 0
  · subst h
    rfl
  · rw [if_pos (by omega), show -(-1 : Int) = 1 from rfl, Int.ediv_one]
    omega
theorem adj2 (n a : Nat) : Builtin.Slice.sliceAdjust (some (a : Int)) none 2 (n : Int) = (((min a n : Nat) : Int), (n : Int)) := by
  show ((if (a : Int) < 0 then max ((a : Int) + n) 0 else min (a : Int) n), (n : Int)) = _
  rw [if_neg (by omega)]
  congr 1
  omega
theorem places2 (n a : Nat) : Builtin.Slice.slicePlaces ((min a n : Nat) : Int) (n : Int) 2 = (n - a + 1) / 2 := by
  unfold Builtin.Slice.slicePlaces
  rw [if_pos (by decide)]
  split <;> omega
theorem bounds2 (a n : Nat) : sliceBounds (some (a : Int)) none (some 2) n = (((min a n : Nat) : Int), (n : Int), 2) := by
  unfold sliceBounds
  dsimp only [Option.getD_some]
  rw [if_neg (show ¬ ((a : Int) < 0) by omega), if_pos (show (2 : Int) > 0 by decide), if_pos (show (2 : Int) > 0 by decide)]
  congr 1
  omega
theorem pickL2 (items : Array Value) (a : Nat) : slicePick items (some (a : Int)) none (some 2) = (evs (items.toList.drop a)).toArray := by
  unfold slicePick
  rw [bounds2]
  congr 1
  dsimp only
  unfold sliceRange
  rw [if_pos (show (2 : Int) > 0 by decide), List.filterMap_map]
  rw [← pick2from items.toList a ((items.toList.length - a + 1) / 2) rfl]
  rw [Array.length_toList]
  have e1 : (if ((min a items.size : Nat) : Int) < (items.size : Int) then (((items.size : Int) - ((min a items.size : Nat) : Int) + 2 - 1) / 2) else 0).toNat = (items.size - a + 1) / 2 := by
    split <;> omega
  rw [e1]
  refine fmCongr fun m hm => ?_
  rw [List.mem_range] at hm
  show items[(((min a items.size : Nat) : Int) + 2 * (m : Int)).toNat]? = items.toList[a + 2 * m]?
  have : (((min a items.size : Nat) : Int) + 2 * (m : Int)).toNat = a + 2 * m := by omega
  rw [this, Array.getElem?_toList]
section
variable {X : Cx}
/-- t[::-1] -/
def tRevT (K : PySem.W.Frag) (te : TE) : TE := fun σ H Q => te σ H fun x H1 => ∃ a xs, x = .ref a ∧ SqT K H1 a xs ∧ ∀ p, H1 p = none → Q (.ref p) (upd H1 p (.tup xs.reverse))
def tRevQ (K : PySem.W.Frag) (te : TE) : TE := fun σ H Q => te σ H fun x H1 => (∃ a xs, x = .ref a ∧ SqT K H1 a xs ∧ ∀ p, H1 p = none → Q (.ref p) (upd H1 p (.tup xs.reverse))) ∨ (∃ a xs, x = .ref a ∧ SqL K H1 a xs ∧ ∀ p, H1 p = none → Q (.ref p) (upd H1 p (.lst xs.reverse)))
theorem pe_revQ {e : Expr} {te : TE} {k : Nat} {p1 p2 p3 pos : Pos} (he : PE X e te) : PE X (.Subscript e (.Slice none none (some (.UnaryOp .USub (.Constant (.int 1) k p1) p2)) p3) pos) (tRevQ X.K te) := by
  refine ⟨fun pins s σ H Q I h => ?_⟩
  refine Subscript_ (thn (he.run pins s σ H _ I h) fun v s1 ⟨x, H1, I1, r1, q1⟩ => ?_)
  have hst : PO X (some (.UnaryOp .USub (.Constant (.int 1) k p1) p2)) (tPart (tUn (rU fun i => .int (-i)) (tC (.int 1)))) := po_some (pe_un un_neg pe_int)
  refine wpAny_Slice (thn (po_none.run pins s1 σ H1 (fun o H2 => o = none ∧ H2 = H1) I1 ⟨rfl, rfl⟩) fun vl s2 ⟨l, H2, I2, pl, el, e2⟩ => ?_)
  subst el e2
  refine thn (po_none.run pins s2 σ H2 (fun o H3 => o = none ∧ H3 = H2) I2 ⟨rfl, rfl⟩) fun vu s3 ⟨u, H3, I3, pu, eu, e3⟩ => ?_
  subst eu e3
  refine thn (hst.run pins s3 σ H3 (fun o H4 => o = some (-1) ∧ H4 = H3) I3 ⟨1, rfl, -1, rfl, rfl, rfl⟩) fun vs s4 ⟨o, H4, I4, ps, eo, e4⟩ => ?_
  subst eo e4
  have I5 : Inv X pins σ H4 { s4 with heap := s4.heap.push { cls := .type "slice", data := .fields #[vl, vu, vs] } } := I4.kept (t' := s4.toks) fun b ob q => Heap.get?_push_of_some _ q
  rcases q1 with ⟨a, xs, rfl, hx, q⟩ | ⟨a, xs, rfl, hx, q⟩
  · cases r1
    obtain ⟨its, r, ht, hz⟩ := I5.tuple hx
    have hlen := r.length
    show wpAny (model X.prog X.w) X.A (subscriptTail e (.Slice none none (some (.UnaryOp .USub (.Constant (.int 1) k p1) p2)) p3) (.ref a) (.ref s4.heap.objs.size)) (EP X pins σ Q) X.xe { s4 with heap := s4.heap.push { cls := .type "slice", data := .fields #[vl, vu, vs] } }
    refine tail_any (ops := [.ref a, .ref s4.heap.objs.size]) ht.typeIs (PyProof.Rows.slot_tuple_getitem.lookup) ?_ (by with_unfolding_all rfl)
    refine getItem_tuple_step (R := its.reverse) ht (Heap.IsSliceOf.new _ vl vu vs) pl pu ps (by decide) (by decide) (adjRev _) ?_ ?_ (by rw [List.length_reverse]; omega)
    · rw [placesRev]
      show (List.range its.toArray.size).filterMap (fun (m : Nat) => its.toArray[((its.toArray.size : Int) - 1 + (m : Int) * (-1)).toNat]?) = its.reverse
      rw [List.size_toArray, ← pickRev its]
      exact fmCongr fun m _ => List.getElem?_toArray
    · refine ⟨.ref _, _, I5.laid (t' := s4.toks) (o := .tup xs.reverse) (fun b ob q => Heap.get?_push_of_some _ q) (Nat.le_refl _) ?_, rfl, q _ (I5.hok.fresh (Nat.le_refl _))⟩
      exact ⟨by rw [List.length_reverse]; exact hz, _, r.reverse, _, Heap.get?_push_size _ rfl, rfl, 0, rfl⟩
  · cases r1
    obtain ⟨its, r, ht, hz⟩ := I5.list hx
    have hlen := r.length
    show wpAny (model X.prog X.w) X.A (subscriptTail e (.Slice none none (some (.UnaryOp .USub (.Constant (.int 1) k p1) p2)) p3) (.ref a) (.ref s4.heap.objs.size)) (EP X pins σ Q) X.xe { s4 with heap := s4.heap.push { cls := .type "slice", data := .fields #[vl, vu, vs] } }
    refine tail_any (ops := [.ref a, .ref s4.heap.objs.size]) ht.isList.typeIs (PySem.slot_list_getitem.lookup) ?_ (by with_unfolding_all rfl)
    refine wpAny_getItem_list_slice ht.isList (Heap.IsSliceOf.new _ vl vu vs) pl pu ps (by decide) ?_ (by rw [List.size_toArray]; omega)
    rw [PySem.W.krv_pick]
    refine ⟨.ref _, _, I5.laid (t' := s4.toks) (o := .lst xs.reverse) (fun b ob q => Heap.get?_push_of_some _ q) (Nat.le_refl _) ?_, rfl, q _ (I5.hok.fresh (Nat.le_refl _))⟩
    exact ⟨by rw [List.length_reverse]; exact hz, _, 0, r.reverse, Heap.get?_push_size _ rfl⟩
/-- t[a::2] -/
def tStep2 (K : PySem.W.Frag) (a : Int) (te : TE) : TE := fun σ H Q => te σ H fun x H1 => (∃ p xs, x = .ref p ∧ SqT K H1 p xs ∧ ∀ p, H1 p = none → Q (.ref p) (upd H1 p (.tup (evs (xs.drop a.toNat))))) ∨ (∃ p xs, x = .ref p ∧ SqL K H1 p xs ∧ ∀ p, H1 p = none → Q (.ref p) (upd H1 p (.lst (evs (xs.drop a.toNat)))))
theorem pe_step2 {e : Expr} {te : TE} {a k k' : Nat} {p1 p2 p3 pos : Pos} (he : PE X e te) : PE X (.Subscript e (.Slice (some (.Constant (.int (a : Int)) k p1)) none (some (.Constant (.int 2) k' p2)) p3) pos) (tStep2 X.K (a : Int) te) := by
  refine ⟨fun pins s σ H Q I h => ?_⟩
  refine Subscript_ (thn (he.run pins s σ H _ I h) fun v s1 ⟨x, H1, I1, r1, q1⟩ => ?_)
  have hsa : PO X (some (.Constant (.int (a : Int)) k p1)) (tPart (tC (.int (a : Int)))) := po_some pe_int
  have hst : PO X (some (.Constant (.int 2) k' p2)) (tPart (tC (.int 2))) := po_some pe_int
  refine wpAny_Slice (thn (hsa.run pins s1 σ H1 (fun o H2 => o = some (a : Int) ∧ H2 = H1) I1 ⟨(a : Int), rfl, rfl, rfl⟩) fun vl s2 ⟨l, H2, I2, pl, el, e2⟩ => ?_)
  subst el e2
  refine thn (po_none.run pins s2 σ H2 (fun o H3 => o = none ∧ H3 = H2) I2 ⟨rfl, rfl⟩) fun vu s3 ⟨u, H3, I3, pu, eu, e3⟩ => ?_
  subst eu e3
  refine thn (hst.run pins s3 σ H3 (fun o H4 => o = some 2 ∧ H4 = H3) I3 ⟨2, rfl, rfl, rfl⟩) fun vs s4 ⟨o, H4, I4, ps, eo, e4⟩ => ?_
  subst eo e4
  have I5 : Inv X pins σ H4 { s4 with heap := s4.heap.push { cls := .type "slice", data := .fields #[vl, vu, vs] } } := I4.kept (t' := s4.toks) fun b ob q => Heap.get?_push_of_some _ q
  have hle : ∀ xs : List V, (evs (xs.drop a)).length ≤ xs.length := fun xs => Nat.le_trans (evs_length_le _) (by rw [List.length_drop]; omega)
  rcases q1 with ⟨p, xs, rfl, hx, q⟩ | ⟨p, xs, rfl, hx, q⟩
  · cases r1
    obtain ⟨its, r, ht, hz⟩ := I5.tuple hx
    have hlen := r.length
    have hr' : Vals (evs (xs.drop a)) (evs (its.drop a)) := evs_vals (r.drop a)
    show wpAny (model X.prog X.w) X.A (subscriptTail e (.Slice (some (.Constant (.int (a : Int)) k p1)) none (some (.Constant (.int 2) k' p2)) p3) (.ref p) (.ref s4.heap.objs.size)) (EP X pins σ Q) X.xe { s4 with heap := s4.heap.push { cls := .type "slice", data := .fields #[vl, vu, vs] } }
    refine tail_any (ops := [.ref p, .ref s4.heap.objs.size]) ht.typeIs (PyProof.Rows.slot_tuple_getitem.lookup) ?_ (by with_unfolding_all rfl)
    refine getItem_tuple_step (R := evs (its.drop a)) ht (Heap.IsSliceOf.new _ vl vu vs) pl pu ps (by decide) (by decide) (adj2 _ a) ?_ ?_ ?_
    · rw [places2]
      show (List.range ((its.toArray.size - a + 1) / 2)).filterMap (fun (m : Nat) => its.toArray[(((min a its.toArray.size : Nat) : Int) + (m : Int) * 2).toNat]?) = evs (its.drop a)
      rw [List.size_toArray, ← pick2from its a ((its.length - a + 1) / 2) rfl]
      refine fmCongr fun m hm => ?_
      rw [List.mem_range] at hm
      have : (((min a its.length : Nat) : Int) + (m : Int) * 2).toNat = a + 2 * m := by omega
      rw [this]
      exact List.getElem?_toArray
    · refine ⟨.ref _, _, I5.laid (t' := s4.toks) (o := .tup (evs (xs.drop a))) (fun b ob q => Heap.get?_push_of_some _ q) (Nat.le_refl _) ?_, rfl, q _ (I5.hok.fresh (Nat.le_refl _))⟩
      exact ⟨Nat.le_trans (hle xs) hz, _, hr', _, Heap.get?_push_size _ rfl, rfl, 0, rfl⟩
    · have := hle xs
      have h2 := hr'.length
      omega
  · cases r1
    obtain ⟨its, r, ht, hz⟩ := I5.list hx
    have hlen := r.length
    have hr' : Vals (evs (xs.drop a)) (evs (its.drop a)) := evs_vals (r.drop a)
    show wpAny (model X.prog X.w) X.A (subscriptTail e (.Slice (some (.Constant (.int (a : Int)) k p1)) none (some (.Constant (.int 2) k' p2)) p3) (.ref p) (.ref s4.heap.objs.size)) (EP X pins σ Q) X.xe { s4 with heap := s4.heap.push { cls := .type "slice", data := .fields #[vl, vu, vs] } }
    refine tail_any (ops := [.ref p, .ref s4.heap.objs.size]) ht.isList.typeIs (PySem.slot_list_getitem.lookup) ?_ (by with_unfolding_all rfl)
    refine wpAny_getItem_list_slice ht.isList (Heap.IsSliceOf.new _ vl vu vs) pl pu ps (by decide) ?_ (by rw [List.size_toArray]; omega)
    rw [pickL2]
    refine ⟨.ref _, _, I5.laid (t' := s4.toks) (o := .lst (evs (xs.drop a))) (fun b ob q => Heap.get?_push_of_some _ q) (Nat.le_refl _) ?_, rfl, q _ (I5.hok.fresh (Nat.le_refl _))⟩
    exact ⟨Nat.le_trans (hle xs) hz, _, 0, hr', Heap.get?_push_size _ rfl⟩
end


/-! ### sum of a tuple of ints, enumerate of a tuple -/
section
variable {prog : Program} {w : World} {A : Around} {E : Value → Shared → Prop} {s : Shared}
theorem sum_tupG {l : Addr} {xs : Array (Int × Tok)} {Q : Value → Shared → Prop} (hh : A.handled = none) (hl : s.heap.IsTuple l (intItems xs))
    (h : ∀ h' tk t', (∀ b o, s.heap.get? b = some o → h'.get? b = some o) → Q (.int (preSum (numAt xs) xs.size) t') { s with heap := h', toks := tk }) :
    wpAny (model prog w) A (call (.builtin "sum") [.ref l]) Q E s := by
  have hlt : l < s.heap.objs.size := by obtain ⟨_, e, _⟩ := hl; exact Heap.lt_size e
  refine call_sum_walkG (wpAny_pyIter_tuple hl ?_)
  refine ⟨s.heap.objs.size, [s.heap.objs.size, l], [s.heap.objs.size], _, _, _, numAt xs, rfl, Walks.tuple (A := A.in1) hh _ l (Nat.ne_of_lt hlt) (intItems xs), ⟨⟨_, Heap.get?_push_size _ rfl, rfl, rfl⟩, hl.push _⟩, fun b hb => ?_, (fun _ _ => intItems_at), fun h' tk t' hk => ?_⟩
  · show b < (s.heap.push _).objs.size
    rw [Heap.size_push]
    rcases List.mem_cons.mp hb with rfl | hb
    · exact Nat.lt_succ_self _
    · rcases List.mem_cons.mp hb with rfl | hb
      · exact Nat.lt_succ_of_lt hlt
      · cases hb
  · have hold : ∀ c o, s.heap.get? c = some o → h'.get? c = some o := fun c o e => by
      refine hk c o (fun hm => ?_) (Heap.get?_push_of_some _ e)
      rcases List.mem_cons.mp hm with e1 | hm
      · have := Heap.lt_size e; rw [e1] at this; exact Nat.lt_irrefl _ this
      · cases hm
    have := h h' tk t' hold
    simpa [intItems] using this
theorem sum_rawT {l : Addr} {its : List Value} {ns : List Int} {Q : Value → Shared → Prop} (hh : A.handled = none) (hl : IsTup s.heap l its.toArray) (hi : IntsAre its ns)
    (h : ∀ h' tk t', (∀ b o, s.heap.get? b = some o → h'.get? b = some o) → Q (.int ns.sum t') { s with heap := h', toks := tk }) : wpAny (model prog w) A (call (.builtin "sum") [.ref l]) Q E s := by
  obtain ⟨xs, e⟩ := hi.allInts.items
  have hn : numsOf (intItems xs).toList = ns := by rw [← e]; exact hi.numsOf
  rw [nums_intItems] at hn
  rw [e] at hl
  refine sum_tupG hh hl fun h' tk t' hk => ?_
  have := h h' tk t' hk
  rw [preSum_eq, List.take_of_length_le (by simp), hn]; exact this
theorem meets_enum1 {v : Value} {o : Obj} {H : Heap → Prop} (B : Begins v o H) :
    Meets (Builtin.«enumerate.__new__» ⟨[.type "enumerate", v], []⟩) (fun _ R s => H s.heap ∧
      R (.ok (.ret (.ref (s.heap.push o).objs.size))) { s with heap := (s.heap.push o).push { cls := .type "enumerate", data := .fields #[.none, .bool false, .ref s.heap.objs.size, rawInt 0, .none, .none] } }) :=
  .of_wp fun prog w A R s h => by
    obtain ⟨hp, g, d, tk, os⟩ := s; obtain ⟨h1, h⟩ := h
    have hsub := sub_enumerate
    have q1 : ∀ {A' : Around} {E : Value → Shared → Prop} {Q : Value → Shared → Prop}, Q (.ref hp.objs.size) ⟨hp.push o, g, d, tk, os⟩ → wpAny (model prog w) A' (pyIter v) Q E ⟨hp, g, d, tk, os⟩ :=
      fun q => B.iter prog w _ _ ⟨hp, g, d, tk, os⟩ _ h1 q
    wp_walk using q1
    refine wpAny_stack_any fun st => wpAny_pure ?_
    split
    · rename_i c _ _ _ _ _
      cases (c == Value.type "enumerate")
      · wp_walk using q1
        exact ⟨_, rfl, h⟩
      · wp_walk using q1
        exact ⟨_, rfl, h⟩
    · wp_walk using q1
      exact ⟨_, rfl, h⟩
theorem enum1_begins {v : Value} {o : Obj} {H : Heap → Prop} {Q : Value → Shared → Prop} (B : Begins v o H) (h1 : H s.heap)
    (h : ∀ h', IsEnum h' (s.heap.objs.size + 1) s.heap.objs.size 0 .none → h'.get? s.heap.objs.size = some o → h'.objs.size = s.heap.objs.size + 2 →
      (∀ b o, s.heap.get? b = some o → h'.get? b = some o) → Q (.ref (s.heap.objs.size + 1)) { s with heap := h' }) :
    wpAny (model prog w) A (call (.type "enumerate") [v]) Q E s := by
  refine callType_new F.called_enumerate (by decide) (F.typeCall_enumerate_1 _) (F.newCall_enumerate_1 _) (fun obj => F.args_object_init_2 obj _) F.entry_enumerate_new
    (meets_enum1 B) ⟨h1, ?_⟩
  have hz : (s.heap.push o).objs.size = s.heap.objs.size + 1 := Heap.size_push ..
  show _ ∧ _
  rw [hz]
  have he : IsEnum ((s.heap.push o).push { cls := .type "enumerate", data := .fields #[.none, .bool false, .ref s.heap.objs.size, rawInt 0, .none, .none] }) (s.heap.objs.size + 1) s.heap.objs.size 0 .none := by
    have := Heap.get?_push_size (s.heap.push o) (o := { cls := .type "enumerate", data := .fields #[.none, .bool false, .ref s.heap.objs.size, rawInt 0, .none, .none] }) rfl
    rw [hz] at this; exact this
  refine ⟨⟨_, he, rfl⟩, h _ he (Heap.get?_push_of_some _ (Heap.get?_push_size _ B.free)) (by rw [Heap.size_push, hz]) fun b o x => Heap.get?_push_of_some _ (Heap.get?_push_of_some _ x)⟩
end
/-- the tuple at a, each item in a new pair -/
def IteT (K : PySem.W.Frag) (a : Addr) : It :=
  ⟨fun i H => ∃ (xs : List V) (x : V), SqT K H a xs ∧ xs[i]? = some x, fun i H v H' => ∃ T x, v = .ref T ∧ H T = none ∧ H' = upd H T (.tup [.int (i : Nat), x]) ∧ ∀ xs, SqT K H a xs → xs[i]? = some x, fun i H => ∃ xs : List V, SqT K H a xs ∧ xs.length ≤ i⟩
theorem turn_enumT {P : Program} {w : World} {K : PySem.W.Frag} {elts : List Expr} {kk : Nat} {tpos : Pos} (a e it : Addr) :
    Turn P w K (.Tuple elts kk tpos) (IteT K a) [e, it] e (fun i h => (∃ old, IsEnum h e it ((i : Nat) : Int) old) ∧ h.IsTupleIter it a i ∧ e ≠ it ∧ a ≠ it ∧ a ≠ e) where
  mem := by simp
  obj := fun i h st b hb => by
    obtain ⟨⟨old, he⟩, ⟨o, ho, hc, hd⟩, _⟩ := st
    have e' : b = e ∨ b = it := by simpa using hb
    rcases e' with z | z
    · rw [z]; exact ⟨_, he, fun v q => nomatch q⟩
    · rw [z]; exact ⟨o, ho, fun v q => by rw [hd] at q; cases q⟩
  keep := fun i h h' st k => let ⟨⟨old, he⟩, hi, hne⟩ := st; ⟨⟨old, k e (by simp) _ he⟩, hi.at fun o q => k it (by simp) o q, hne⟩
  item := by
    intro X hP hw hK hc i pins s σ H E I hf st hg
    subst hP hw hK
    obtain ⟨⟨old, he⟩, hit, hne, hai, hae⟩ := st
    obtain ⟨xs, x, hq, hx⟩ := hg
    obtain ⟨its, rv, p, hz⟩ := I.tuple hq
    obtain ⟨u, hu, ru⟩ := rv.get hx
    have hel : e < s.heap.objs.size := Heap.lt_size he
    have hil : it < s.heap.objs.size := by obtain ⟨_, q, _⟩ := hit; exact Heap.lt_size q
    have hi : i < its.toArray.size := by
      have := (List.getElem?_eq_some_iff.mp hu).1
      simpa using this
    refine wpAny_pyNext_enum_itemD (Draws.tuple (A := X.A.in1) (I.ok.hd hc) it a hai its.toArray) he ⟨hit, show s.heap.IsTuple a its.toArray from p⟩ hi hne (by simp [hne, hae, Ne.symm hae]) fun x' h' tk hPx ho hit' hT hsz hk => ?_
    have ex : x' = u := by
      have q1 : its.toArray[i]? = some x' := hPx
      have q2 : its.toArray[i]? = some u := by simpa using hu
      rw [q2] at q1
      exact (Option.some.inj q1).symm
    subst ex
    refine ⟨_, rfl, wpAny_letOwnedTupleGo_enum (s := { s with heap := h', toks := tk + 1 }) ho fun h'' he' sb => ?_⟩
    have hT2 : h''.get? s.heap.objs.size = some { cls := .type "tuple", data := .seq #[.int i tk, x'] } := (sb.2 _ (Nat.ne_of_gt hel)).trans hT
    have new : ObjOk X.prog X.w (upd H s.heap.objs.size (.tup [.int (i : Nat), x])) h'' s.heap.objs.size (.tup [.int (i : Nat), x]) :=
      ⟨by show 2 ≤ sizeLine; decide, [.int i tk, x'], .cons ⟨_, rfl⟩ (.cons ru .nil), ⟨_, hT2, rfl, _, rfl⟩⟩
    have I1 : Inv X pins σ (upd H s.heap.objs.size (.tup [.int (i : Nat), x])) { s with heap := h'', toks := tk + 1 } :=
      I.turnedNew (ch := [e, it]) (fun b ob hb q => (sb.2 b (fun z => hb (by simp [z]))).trans (hk b ob (fun z => hb (by simp [z])) (fun z => hb (by simp [z])) q)) hf (Nat.le_refl _) new
    refine ⟨.ref s.heap.objs.size, _, I1, rfl, ⟨_, x, rfl, I.hok.fresh (Nat.le_refl _), rfl, fun ys hy => by rw [I.tuple_inj hy hq]; exact hx⟩, ⟨⟨x', ?_⟩, hit'.1.at fun o q => (sb.2 it (Ne.symm hne)).trans q, hne, hai, hae⟩, fun b hb => ?_⟩
    · have e1 : ((i + 1 : Nat) : Int) = (i : Int) + 1 := by omega
      rw [e1]; exact he'
    · have hb' : b < s.heap.objs.size := by
        have e' : b = e ∨ b = it := by simpa using hb
        rcases e' with z | z
        · rw [z]; exact hel
        · rw [z]; exact hil
      rw [upd_ne (Nat.ne_of_lt hb')]
      exact (hf b hb).1
  done := by
    intro X hP hw hK hc i pins s σ H E I hf st hg
    subst hP hw hK
    obtain ⟨⟨old, he⟩, hit, hne, hai, hae⟩ := st
    obtain ⟨xs, hq, hx⟩ := hg
    obtain ⟨its, rv, p, hz⟩ := I.tuple hq
    obtain ⟨f0, f1, f2, f3, f4, f5⟩ := hf it (by simp)
    have hl := rv.length
    have D0 : Draws X.prog X.w X.A.in1 it [it, a] i (fun j v => True) (fun j h => j = i ∧ h.IsTupleIter it a i ∧ h.IsTuple a its.toArray) :=
      { live := fun _ _ st => let ⟨o, ho, _⟩ := st.2.1; ⟨o, ho⟩
        frame := fun _ _ _ st hk => ⟨st.1, st.2.1.at fun o e => hk it (by simp) o e, st.2.2.at fun o e => hk a (by simp) o e⟩
        item := fun j s' Q E' hj st' hQ => absurd st'.1 (Nat.ne_of_lt hj)
        done := fun s' Q E' st' hE => wpAny_nextOf_tuple_end (I.ok.hd hc) st'.2.1 st'.2.2 (by simp; omega) hE }
    exact wpAny_pyNext_enum_endD D0 he ⟨rfl, hit, show s.heap.IsTuple a its.toArray from p⟩ fun h' eb => ⟨rfl, I.turned (t' := s.toks) (fun b o hb q => eb b o hb q) f0 f1 f3 f4 f5⟩
  self := fun A i s Q E st h => let ⟨⟨_, he⟩, _⟩ := st; wpAny_pyIter_enum he h
def iEnumT (K : PySem.W.Frag) (ta : TA) : TI := fun σ H R => ta σ H fun vs H1 => ∃ a xs, vs = [.ref a] ∧ SqT K H1 a xs ∧ R (IteT K a) H1
theorem pi_enumT {X : Cx} {e : Expr} {ta : TA} {p pos tpos : Pos} {elts : List Expr} {kk : Nat} (hg : Gl X "enumerate") (hm : X.mg "enumerate" = none) (ha : PA X [e] ta) (hs : starEach [e] X.env = [(false, eval e X.env)] := by rfl) :
    PI X (.Tuple elts kk tpos) (.Call (.Name "enumerate" p) [e] [] pos) (iEnumT X.K ta) := by
  refine ⟨fun pins s σ H R I h => ?_⟩
  refine Call_ (ld_blt I hg hm boot_enumerate (PyProof.Rows.callWith_type1 (thn (ha.run pos pins s σ H _ I h) fun us s1 ⟨vs, H1, I1, r1, q1⟩ => ?_) hs rfl))
  obtain ⟨a, xs, ex, hq, q⟩ := q1
  subst ex
  cases r1 with
  | cons r rr =>
    cases rr
    cases r
    obtain ⟨its, rv, p', hz⟩ := I1.tuple hq
    have hlt : a < s1.heap.objs.size := by obtain ⟨_, e, _⟩ := p'; exact Heap.lt_size e
    refine enum1_begins (begins_tuple a its.toArray) p' fun h' he hit hsz hk => wpAny_pyIter_enum he ?_
    have I2 : Inv X pins σ H1 { s1 with heap := h' } := I1.kept (t' := s1.toks) hk
    refine ⟨s1.heap.objs.size + 1, [s1.heap.objs.size + 1, s1.heap.objs.size], _, _, H1, rfl, I2, turn_enumT a (s1.heap.objs.size + 1) s1.heap.objs.size, ⟨⟨.none, he⟩, ⟨_, hit, rfl, rfl⟩, Nat.succ_ne_self _, Nat.ne_of_lt hlt, Nat.ne_of_lt (Nat.lt_succ_of_lt hlt)⟩, fun b hb => ?_, q⟩
    have e' : b = s1.heap.objs.size + 1 ∨ b = s1.heap.objs.size := by simpa using hb
    have hle : s1.heap.objs.size ≤ b := by
      rcases e' with z | z
      · rw [z]; exact Nat.le_add_right _ _
      · rw [z]; exact Nat.le_refl _
    exact I1.fpOk hle (I1.hok.fresh hle)
theorem walk_enumT {K : PySem.W.Frag} {a : Addr} {xs : List V} : Walk (IteT K a) xs.length (fun H => SqT K H a xs) (YPair (fun i => some (.int (i : Nat))) (fun i => xs[i]?)) := by
  refine ⟨fun i H hi h => ⟨xs, xs[i], h, by simp [hi]⟩, fun H h => ⟨xs, h, Nat.le_refl _⟩, fun i H x H' hi h y => ?_⟩
  obtain ⟨T, u, e1, e2, e3, e4⟩ := y
  exact ⟨T, _, u, e1, e2, e3, rfl, e4 xs h⟩
theorem w_forE {K : PySem.W.Frag} {g : TG} {ta : TA} {tb : TS} {D : Ends} {σ : L2.St} {H : Hp} (h : ta σ H fun vs H1 => ∃ a xs, vs = [.ref a] ∧ SqL K H1 a xs ∧ ForG (Ite K a) g tb D σ H1) : tFor (iEnum K ta) g tb D σ H := h
theorem w_forET {K : PySem.W.Frag} {g : TG} {ta : TA} {tb : TS} {D : Ends} {σ : L2.St} {H : Hp} (h : ta σ H fun vs H1 => ∃ a xs, vs = [.ref a] ∧ SqT K H1 a xs ∧ ForG (IteT K a) g tb D σ H1) : tFor (iEnumT K ta) g tb D σ H := h
/-- sum(t) -/
theorem cr_sumT {X : Cx} (hc : X.calm = true) : CallR X (.builtin "sum") (fun vs H Q => ∃ (a : Addr) (ns : List Int), vs = [V.ref a] ∧ SqT X.K H a (ns.map V.int) ∧ Q (.int ns.sum) H) := by
  intro pins s σ H vs us Q I r h
  obtain ⟨a, ns, rfl, hs, q⟩ := h
  obtain ⟨its, rv, hl, _⟩ := I.tuple hs
  rw [Vals.ref1 r]
  exact sum_rawT (I.ok.hd hc) hl rv.ints fun h' tk t' hk => ⟨.int _, H, I.kept hk, ⟨_, rfl⟩, q⟩


/-! ### heaps -/
theorem sameU {H : Hp} {p : Addr} {o : HO} (h : H p = none) : Same H (upd H p o) := fun b u e => by rw [upd_ne (ne_of_none e h)]; exact e
theorem _root_.L2.Same.u {H H' : Hp} {p : Addr} {o : HO} (a : Same H H') (h : H' p = none) : Same H (upd H' p o) := a.trans (sameU h)
theorem _root_.L2.Same.w {H H' : Hp} {p : Addr} {o : HO} (a : Same H H') (h : H p = none) : Same H (upd H' p o) := fun b u e => by rw [upd_ne (ne_of_none e h)]; exact a b u e
theorem _root_.L2.Same.sq {K : PySem.W.Frag} {H H' : Hp} {a : Addr} {xs : List V} (e : Same H H') (h : SqL K H a xs) : SqL K H' a xs := by
  rcases h with (h | ⟨o, h⟩) | h
  · exact .inl (.inl (e _ _ h))
  · exact .inl (.inr ⟨o, e _ _ h⟩)
  · exact .inr h
theorem _root_.L2.Same.tq {K : PySem.W.Frag} {H H' : Hp} {a : Addr} {xs : List V} (e : Same H H') (h : SqT K H a xs) : SqT K H' a xs := by
  rcases h with (h | ⟨o, h⟩) | h
  · exact .inl (.inl (e _ _ h))
  · exact .inl (.inr ⟨o, e _ _ h⟩)
  · exact .inr h
theorem sqL {K : PySem.W.Frag} {H : Hp} {a : Addr} {xs : List V} (h : H a = some (.lst xs)) : SqL K H a xs := .inl (.inl h)
theorem sqT {K : PySem.W.Frag} {H : Hp} {a : Addr} {xs : List V} (h : H a = some (.tup xs)) : SqT K H a xs := .inl (.inl h)
theorem sqLu {K : PySem.W.Frag} {H : Hp} {a : Addr} {xs : List V} : SqL K (upd H a (.lst xs)) a xs := .inl (.inl upd_same)
theorem sqTu {K : PySem.W.Frag} {H : Hp} {a : Addr} {xs : List V} : SqT K (upd H a (.tup xs)) a xs := .inl (.inl upd_same)
theorem isi_tuple {K : PySem.W.Frag} {H : Hp} {Q : VK} {p : Addr} {xs : List V} (e : SqT K H p xs) (h : Q (.bl true) H) : rIsi K [.ref p, .ty "tuple"] H Q := by
  rcases e with (e | ⟨o, e⟩) | ⟨o, its, n, hk, hc, _⟩
  · exact ⟨_, _, _, _, true, rfl, .ty "tuple", .base (.tup e), kit_ty (by decide +kernel), h⟩
  · exact ⟨_, _, _, _, true, rfl, .ty "tuple", .fTuple e, kit_ty (by decide +kernel), h⟩
  · exact ⟨_, _, _, _, true, rfl, .ty "tuple", .kTuple hk hc, kit_ty (by decide +kernel), h⟩
theorem dpInts {K : PySem.W.Frag} {H : Hp} : ∀ ns : List Int, DpAll K H (ns.map V.int) (ns.map PyData.int)
  | [] => .nil
  | n :: ns => .cons (.int n) (dpInts ns)
theorem canInts : ∀ ns : List Int, PyData.canLayAll0 (ns.map PyData.int) = true
  | [] => rfl
  | n :: ns => by show (true && PyData.canLayAll0 (ns.map PyData.int)) = true; rw [canInts ns]; rfl
theorem depInts : ∀ ns : List Int, PyData.depthAll (ns.map PyData.int) = 0
  | [] => rfl
  | n :: ns => by show max 0 (PyData.depthAll (ns.map PyData.int)) = 0; rw [depInts ns]; rfl
theorem shInts (ns : List Int) : SeqAt.shaped (.tuple (ns.map PyData.int)) = true := by
  show (PyData.canLayAll0 (ns.map PyData.int) && decide (PyData.depthAll (ns.map PyData.int) + 1 ≤ 64)) = true
  rw [canInts, depInts]; rfl
theorem shIntsL (ns : List Int) : SeqAt.shaped (.list (ns.map PyData.int)) = true := by
  show (PyData.canLayAll0 (ns.map PyData.int) && decide (PyData.depthAll (ns.map PyData.int) + 1 ≤ 64)) = true
  rw [canInts, depInts]; rfl
theorem mapInt_at {l : List Int} {i : Nat} {v : V} (h : (l.map V.int)[i]? = some v) : ∃ z, l[i]? = some z ∧ v = .int z := by
  rw [List.getElem?_map] at h
  cases e : l[i]? with
  | none => rw [e] at h; cases h
  | some z => rw [e] at h; exact ⟨z, rfl, (Option.some.inj h).symm⟩
theorem take_at {α : Type} {l : List α} {i : Nat} {z : α} (h : l[i]? = some z) : l.take (i + 1) = l.take i ++ [z] := by
  rw [List.take_add_one, h]
  rfl
/-! ### what stands at a place -/
theorem w_ixL {K : PySem.W.Frag} {H : Hp} {Q : VK} {p : Addr} {xs : List V} {i : Int} {v : V} (h : SqL K H p xs) (e : atI xs i = some v) (q : Q v H) : rIxL K (.ref p) (.int i) H Q := ⟨p, xs, i, v, rfl, rfl, h, e, q⟩
theorem w_ixT {K : PySem.W.Frag} {H : Hp} {Q : VK} {p : Addr} {xs : List V} {i : Int} {v : V} (h : SqT K H p xs) (e : atI xs i = some v) (q : Q v H) : rIxT K (.ref p) (.int i) H Q := ⟨p, xs, i, v, rfl, rfl, h, e, q⟩
/-! ### readings with names -/
def rLen (K : PySem.W.Frag) : List V → Hp → VK → Prop := fun xs H Q => ∃ p ys, xs = [V.ref p] ∧ (SqL K H p ys ∨ SqT K H p ys) ∧ Q (.int ys.length) H
def rLenS : List V → Hp → VK → Prop := fun xs H Q => ∃ z, xs = [V.str z] ∧ z.length ≤ sizeLine ∧ Q (.int z.length) H
def rLenD : List V → Hp → VK → Prop := fun xs H Q => ∃ a kvs, xs = [V.ref a] ∧ H a = some (.dK kvs) ∧ Q (.int kvs.length) H
def rAbs : List V → Hp → VK → Prop := fun xs H Q => ∃ i, xs = [V.int i] ∧ Q (.int (if i < 0 then -i else i)) H
def rMin2 : List V → Hp → VK → Prop := fun xs H Q => ∃ i j, xs = [V.int i, V.int j] ∧ Q (.int (if j < i then j else i)) H
def rMax2 : List V → Hp → VK → Prop := fun xs H Q => ∃ i j, xs = [V.int i, V.int j] ∧ Q (.int (if j > i then j else i)) H
def rInt1 : List V → Hp → VK → Prop := fun xs H Q => (∃ i, xs = [V.int i] ∧ Q (.int i) H) ∨ ∃ k, xs = [V.bl k] ∧ Q (.int (if k then 1 else 0)) H
def rSumT (K : PySem.W.Frag) : List V → Hp → VK → Prop := fun vs H Q => ∃ (a : Addr) (ns : List Int), vs = [V.ref a] ∧ SqT K H a (ns.map V.int) ∧ Q (.int ns.sum) H
def rListOf (K : PySem.W.Frag) : List V → Hp → VK → Prop := fun xs H Q => ∃ p ys, xs = [V.ref p] ∧ (SqL K H p ys ∨ SqT K H p ys) ∧ ∀ l, H l = none → Q (.ref l) (upd H l (.lst ys))
def rTupleOf (K : PySem.W.Frag) : List V → Hp → VK → Prop := fun xs H Q => ∃ p ys, xs = [V.ref p] ∧ ((SqL K H p ys ∧ ∀ l, H l = none → Q (.ref l) (upd H l (.tup ys))) ∨ (SqT K H p ys ∧ Q (.ref p) H))
def rDivmod : List V → Hp → VK → Prop := fun xs H Q => ∃ i j, xs = [V.int i, V.int j] ∧ CDivP i j ∧ ∀ p, H p = none → Q (.ref p) (upd H p (.tup [.int (i / j), .int (i % j)]))
def rInSign : R2 := fun x y H Q => ∃ (c : Nat) (z : Str), x = .str ⟨#[c]⟩ ∧ y = .str z ∧ Q (.bl (decide (c ∈ z.cps.toList))) H
def rRev (K : PySem.W.Frag) : V → Hp → VK → Prop := fun x H Q => (∃ a xs, x = .ref a ∧ SqT K H a xs ∧ ∀ p, H p = none → Q (.ref p) (upd H p (.tup xs.reverse))) ∨ (∃ a xs, x = .ref a ∧ SqL K H a xs ∧ ∀ p, H p = none → Q (.ref p) (upd H p (.lst xs.reverse)))
def rStep2 (K : PySem.W.Frag) (a : Int) : V → Hp → VK → Prop := fun x H Q => (∃ p xs, x = .ref p ∧ SqT K H p xs ∧ ∀ p, H p = none → Q (.ref p) (upd H p (.tup (evs (xs.drop a.toNat))))) ∨ (∃ p xs, x = .ref p ∧ SqL K H p xs ∧ ∀ p, H p = none → Q (.ref p) (upd H p (.lst (evs (xs.drop a.toNat)))))
def rKd (K : PySem.W.Frag) (d : Addr) : R2 := fun x y H Q => ∃ (z : Str) (u0 : Value) (v0 : V), x = .ref d ∧ y = .str z ∧ PySem.W.nsIn K d z = some (some u0) ∧ RelV v0 u0 ∧ Q v0 H
def rNotKd (K : PySem.W.Frag) (d : Addr) : R2 := fun x y H Q => ∃ (z : Str) (r : Option Value), x = .str z ∧ y = .ref d ∧ PySem.W.nsIn K d z = some r ∧ Q (.bl (!r.isSome)) H
section
variable {X : Cx}
theorem ca_len : CallR X (.builtin "len") (rLen X.K) := call_len_seq
theorem ca_lenS : CallR X (.builtin "len") rLenS := call_len_str
theorem ca_lenD : CallR X (.builtin "len") rLenD := call_lenD
theorem ca_abs : CallR X (.builtin "abs") rAbs := call_abs
theorem ca_min2 (hc : X.calm = true) : CallR X (.builtin "min") rMin2 := call_min2 hc
theorem ca_max2 (hc : X.calm = true) : CallR X (.builtin "max") rMax2 := call_max2 hc
theorem ca_int1 : CallR X (.type "int") rInt1 := call_int1
theorem ca_sumT (hc : X.calm = true) : CallR X (.builtin "sum") (rSumT X.K) := cr_sumT hc
theorem ca_list : CallR X (.type "list") (rListOf X.K) := call_list_of
theorem ca_tuple : CallR X (.type "tuple") (rTupleOf X.K) := call_tuple_of
theorem ca_divmod : CallR X (.builtin "divmod") rDivmod := call_divmodW
theorem op_insign : OpR X (compareOp .In) rInSign := op_in_sign
theorem ix_kdA {d : Addr} {es : Array DictEntry} {n : Nat} (D : KDict X.K X.w d es n) : IxR X (rKd X.K d) := by
  intro value slice pins s σ H x y v u Q I rx ry h hs
  have h' := h
  obtain ⟨z, u0, v0, rfl, rfl, e, r, q⟩ := h
  have rx' := rx
  cases rx'
  exact tail_any (kd_type D I) PySem.F.slot_dict_getitem.lookup (op_item_kd D pins s σ H _ _ _ u Q I rx ry h') hs
theorem op_notKd {d : Addr} {es : Array DictEntry} {n : Nat} (D : KDict X.K X.w d es n) : OpR X (compareOp .NotIn) (rNotKd X.K d) := op_notIn_kd D
theorem pe_rev {e : Expr} {te : TE} {k : Nat} {p1 p2 p3 pos : Pos} (he : PE X e te) : PE X (.Subscript e (.Slice none none (some (.UnaryOp .USub (.Constant (.int 1) k p1) p2)) p3) pos) (tUn (rRev X.K) te) := pe_revQ he
theorem pe_stp2 {e : Expr} {te : TE} {a k k' : Nat} {p1 p2 p3 pos : Pos} (he : PE X e te) : PE X (.Subscript e (.Slice (some (.Constant (.int (a : Int)) k p1)) none (some (.Constant (.int 2) k' p2)) p3) pos) (tUn (rStep2 X.K (a : Int)) te) := pe_step2 he
end
section
variable {K : PySem.W.Frag} {σ : L2.St} {H : Hp} {Q : VK} {r : V → Hp → VK → Prop} {ta : TE}
theorem w_yes {Q : Bool → Hp → Prop} (h : Q true H) : tYes σ H Q := h
theorem w_unr (h : ta σ H fun x H1 => r x H1 Q) : tUn r ta σ H Q := h
theorem w_rlenL {p : Addr} {xs : List V} (h : SqL K H p xs) (q : Q (.int xs.length) H) : rLen K [.ref p] H Q := ⟨p, xs, rfl, .inl h, q⟩
theorem w_rlenT {p : Addr} {xs : List V} (h : SqT K H p xs) (q : Q (.int xs.length) H) : rLen K [.ref p] H Q := ⟨p, xs, rfl, .inr h, q⟩
theorem w_rabs {i : Int} (q : Q (.int (if i < 0 then -i else i)) H) : rAbs [.int i] H Q := ⟨i, rfl, q⟩
theorem w_rmin2 {i j : Int} (q : Q (.int (if j < i then j else i)) H) : rMin2 [.int i, .int j] H Q := ⟨i, j, rfl, q⟩
theorem w_rmax2 {i j : Int} (q : Q (.int (if j > i then j else i)) H) : rMax2 [.int i, .int j] H Q := ⟨i, j, rfl, q⟩
theorem w_rint1 {i : Int} (q : Q (.int i) H) : rInt1 [.int i] H Q := .inl ⟨i, rfl, q⟩
theorem w_rsumT {p : Addr} {ns : List Int} (h : SqT K H p (ns.map V.int)) (q : Q (.int ns.sum) H) : rSumT K [.ref p] H Q := ⟨p, ns, rfl, h, q⟩
theorem w_rsumL {p : Addr} {ns : List Int} (h : SqL K H p (ns.map V.int)) (q : Q (.int ns.sum) H) : rSum K [.ref p] H Q := ⟨p, ns, rfl, h, q⟩
theorem w_app {p : Addr} {xs : List V} {y : V} (h : H p = some (.lst xs)) (hz : xs.length < sizeLine) (q : Q .non (upd H p (.lst (xs ++ [y])))) : rAppend (.ref p) [y] H Q := ⟨p, xs, y, rfl, rfl, h, hz, q⟩
theorem w_setL {p : Addr} {xs : List V} {k : Int} {j : Nat} {v : V} {Q : Hp → Prop} (h : H p = some (.lst xs)) (e : ixN xs.length k = some j) (q : Q (upd H p (.lst (xs.set j v)))) : rSetL (.ref p) (.int k) v H Q := ⟨p, xs, k, j, rfl, rfl, h, e, q⟩
end
/-- a list or a tuple -/
def SqA (K : PySem.W.Frag) (H : Hp) (p : Addr) (xs : List V) : Prop := SqT K H p xs ∨ SqL K H p xs
theorem _root_.L2.Same.aq {K : PySem.W.Frag} {H H' : Hp} {a : Addr} {xs : List V} (e : Same H H') (h : SqA K H a xs) : SqA K H' a xs := h.elim (fun q => .inl (e.tq q)) (fun q => .inr (e.sq q))
theorem w_rev {K : PySem.W.Frag} {H : Hp} {Q : VK} {t : Addr} {xs : List V} (ht : SqA K H t xs) (h : ∀ p H', Same H H' → SqA K H' p xs.reverse → Q (.ref p) H') : rRev K (.ref t) H Q := by
  rcases ht with ht | ht
  · exact .inl ⟨t, xs, rfl, ht, fun p hp => h p _ (sameU hp) (.inl sqTu)⟩
  · exact .inr ⟨t, xs, rfl, ht, fun p hp => h p _ (sameU hp) (.inr sqLu)⟩
theorem w_stp2T {K : PySem.W.Frag} {H : Hp} {Q : VK} {t : Addr} {xs : List V} {a : Int} (ht : SqT K H t xs) (h : ∀ p, H p = none → Q (.ref p) (upd H p (.tup (evs (xs.drop a.toNat))))) : rStep2 K a (.ref t) H Q := .inl ⟨t, xs, rfl, ht, h⟩
theorem w_stp2L {K : PySem.W.Frag} {H : Hp} {Q : VK} {t : Addr} {xs : List V} {a : Int} (ht : SqL K H t xs) (h : ∀ p, H p = none → Q (.ref p) (upd H p (.lst (evs (xs.drop a.toNat))))) : rStep2 K a (.ref t) H Q := .inr ⟨t, xs, rfl, ht, h⟩
/-- a for over data that stays -/
theorem for_seq {K : PySem.W.Frag} {p : Addr} {xs : List V} {g : TG} {tb : TS} {D : Ends} {σ : L2.St} {H : Hp} (ht : SqA K H p xs) (Pv : Nat → L2.St → Hp → Prop) (h0 : Pv 0 σ H) (hk : ∀ i σ H', Pv i σ H' → Same H H')
    (hs : ∀ i x σ H, xs[i]? = some x → Pv i σ H → g x σ H fun σ2 H2 => tb { D with nx := Pv (i + 1), ct := Pv (i + 1), bk := D.nx } σ2 H2) (hd : ∀ σ H, Pv xs.length σ H → D.nx σ H) :
    (∃ xs, SqL K H p xs ∧ ForG (Itl K p) g tb D σ H) ∨ (∃ xs, SqT K H p xs ∧ ForG (Itt K p) g tb D σ H) := by
  rcases ht with ht | ht
  · exact .inr ⟨xs, ht, for_tup Pv h0 (fun i σ H' _ q => (hk i σ H' q).tq ht) hs hd⟩
  · exact .inl ⟨xs, ht, for_list Pv h0 (fun i σ H' _ q => (hk i σ H' q).sq ht) hs hd⟩
theorem w_tg2 {K : PySem.W.Frag} {H : Hp} {Q : L2.St → Hp → Prop} {σ : L2.St} {T : Addr} {x y : V} {n i j : Nat} (hn : n = 2) (h : SqT K H T [x, y]) (q : Q ((σ.set i (some x)).set j (some y)) H) : gTup K n (gCons (gName i) (gCons (gName j) gNil)) (.ref T) σ H Q := ⟨T, [x, y], rfl, h, hn.symm, x, [y], rfl, y, [], rfl, rfl, q⟩
/-- for i, x in enumerate(t) over data that stays -/
theorem for_enumT {K : PySem.W.Frag} {a : Addr} {xs : List V} {n i j : Nat} {tb : TS} {D : Ends} {σ : L2.St} {H : Hp} (hn : n = 2) (Pv : Nat → L2.St → Hp → Prop) (h0 : Pv 0 σ H) (hG : ∀ i σ H, i ≤ xs.length → Pv i σ H → SqT K H a xs)
    (hs : ∀ k x σ H T, xs[k]? = some x → Pv k σ H → H T = none → tb { D with nx := Pv (k + 1), ct := Pv (k + 1), bk := D.nx } ((σ.set i (some (.int k))).set j (some x)) (upd H T (.tup [.int k, x])))
    (hd : ∀ σ H, Pv xs.length σ H → D.nx σ H) : ForG (IteT K a) (gTup K n (gCons (gName i) (gCons (gName j) gNil))) tb D σ H := by
  refine for_it walk_enumT Pv h0 hG (fun k v σ H H' hk p y => ?_) hd
  obtain ⟨T, a, b, rfl, hT, rfl, e1, e2⟩ := y
  cases e1
  exact w_tg2 hn sqTu (hs k b σ H T e2 p hT)
section
variable {X : Cx}
/-- for .. in a list or a tuple -/
def iSeq (K : PySem.W.Frag) (tl : TE) : TI := fun σ H R => tl σ H fun x H1 => ∃ a, x = .ref a ∧ ((∃ xs, SqL K H1 a xs ∧ R (Itl K a) H1) ∨ (∃ xs, SqT K H1 a xs ∧ R (Itt K a) H1))
theorem pi_seq {tg l : Expr} {tl : TE} (hl : PE X l tl) : PI X tg l (iSeq X.K tl) := by
  refine ⟨fun pins s σ H R I h => ?_⟩
  refine thn (hl.run pins s σ H _ I h) fun v s1 ⟨x, H1, I1, r1, q1⟩ => ?_
  obtain ⟨a, e, q⟩ := q1
  subst e
  cases r1
  rcases q with ⟨xs, hq, q⟩ | ⟨xs, hq, q⟩
  · obtain ⟨its, rv, p, hz⟩ := I1.list hq
    refine wpAny_pyIter_list p.isList ?_
    refine ⟨s1.heap.objs.size, [s1.heap.objs.size], _, _, H1, rfl, I1.kept (t' := s1.toks) fun b o e => Heap.get?_push_of_some _ e, turn_list a _, ⟨_, Heap.get?_push_size _ rfl, rfl, rfl⟩, fun b hb => ?_, q⟩
    have e : b = s1.heap.objs.size := by simpa using hb
    subst e
    exact I1.fpOk (Nat.le_refl _) (I1.hok.fresh (Nat.le_refl _))
  · obtain ⟨its, rv, p, hz⟩ := I1.tuple hq
    refine wpAny_pyIter_tuple (show s1.heap.IsTuple a its.toArray from p) ?_
    refine ⟨s1.heap.objs.size, [s1.heap.objs.size], _, _, H1, rfl, I1.kept (t' := s1.toks) fun b o e => Heap.get?_push_of_some _ e, turn_tuple a _, ⟨_, Heap.get?_push_size _ rfl, rfl, rfl⟩, fun b hb => ?_, q⟩
    have e : b = s1.heap.objs.size := by simpa using hb
    subst e
    exact I1.fpOk (Nat.le_refl _) (I1.hok.fresh (Nat.le_refl _))
theorem pg_getL : PGet X (rIxL X.K) := by
  intro pins s σ H x y v u Q I rx ry h
  obtain ⟨p, xs, i, z, rfl, rfl, hq, he, q⟩ := h
  cases rx
  obtain ⟨t, rfl⟩ := ry
  obtain ⟨its, r, pl, hz⟩ := I.list hq
  obtain ⟨j, h1, h2, h3, h4, h5⟩ := atI_get he
  obtain ⟨w, ew, rw'⟩ := r.get h2
  have hl := r.length
  have hn := line63
  have fin : EP X pins σ Q w s := ⟨z, H, I, rw', q⟩
  by_cases h0 : 0 ≤ i
  · have hj : i.toNat = j := by
      rw [seqIndex_of h0 h5] at h1
      exact Option.some.inj h1
    exact wpAny_getItem_list pl.isList h0 (by omega) (by rw [hj]; simpa using ew) fin
  · have hj : (i + (its.toArray.size : Int)).toNat = j := by
      rw [seqIndex_neg (by omega) h4] at h1
      rw [List.size_toArray, ← hl]
      exact Option.some.inj h1
    exact wpAny_getItem_list_neg pl.isList (by omega) (by rw [List.size_toArray] <;> omega) (by omega) (by rw [hj]; simpa using ew) fin
/-- a comprehension over data that stays: acc tells what is made behind i turns -/
def LcE (H1 : Hp) (D : Addr) (acc : Nat → List V) (i : Nat) (H : Hp) : Prop := Same H1 H ∧ H D = some (.lst (acc i))
def LcY (H1 : Hp) (D : Addr) (acc : Nat → List V) (i : Nat) : VK := fun y H4 => ∃ a, H4 D = some (.lst a) ∧ a.length < sizeLine ∧ LcE H1 D acc (i + 1) (upd H4 D (.lst (a ++ [y])))
theorem LcE.no {H1 H H3 : Hp} {D : Addr} {acc : Nat → List V} {i : Nat} (p : LcE H1 D acc i H) (s : Same H H3) (e : acc (i + 1) = acc i) : LcE H1 D acc (i + 1) H3 := ⟨Same.trans p.1 s, by rw [e]; exact s _ _ p.2⟩
theorem LcE.yes {H1 H H4 : Hp} {D : Addr} {acc : Nat → List V} {i : Nat} {y : V} (p : LcE H1 D acc i H) (hD : H1 D = none) (s : Same H H4) (hz : (acc i).length < sizeLine) (e : acc (i + 1) = acc i ++ [y]) : LcY H1 D acc i y H4 :=
  ⟨acc i, s _ _ p.2, hz, Same.w (Same.trans p.1 s) hD, by rw [e]; exact upd_same⟩
/-- what is left of a comprehension behind its source -/
def LcG (J : It) (g : TG) (tt : TT) (te : TE) (vs : List Nat) (σ : L2.St) (H1 : Hp) (Q : VK) : Prop := ∀ D, H1 D = none → ∃ W : Nat → Nat → Hp → Prop, (∃ m, W 0 m (upd H1 D (.lst []))) ∧ ∀ i m H, W i m H →
  (J.stop i H ∧ Q (.ref D) H) ∨ (J.go i H ∧ ∃ Nx : Hp → Prop, (∀ H', Nx H' → ∃ m', m' < m ∧ W (i + 1) m' H') ∧ ∀ x H', J.yld i H x H' → g x (wipe σ vs) H' fun σ2 H2 => wipe σ2 vs = wipe σ vs ∧ tt σ2 H2 fun b H3 =>
    if b = true then te σ2 H3 fun y H4 => ∃ acc, H4 D = some (.lst acc) ∧ acc.length < sizeLine ∧ Nx (upd H4 D (.lst (acc ++ [y]))) else Nx H3)
theorem lc_map {J : It} {n : Nat} {G : Hp → Prop} {Y : Nat → Hp → V → Hp → Prop} (w : Walk J n G Y) {g : TG} {tt : TT} {te : TE} {vs : List Nat} {σ : L2.St} {H1 : Hp} {Q : VK} (acc : Nat → List V) (h0 : acc 0 = [])
    (hG : ∀ H, Same H1 H → G H)
    (hs : ∀ i x H H' D, i < n → H1 D = none → LcE H1 D acc i H → Y i H x H' → g x (wipe σ vs) H' fun σ2 H2 => wipe σ2 vs = wipe σ vs ∧ tt σ2 H2 fun b H3 =>
      if b = true then te σ2 H3 (LcY H1 D acc i) else LcE H1 D acc (i + 1) H3)
    (hd : ∀ D H, Same H1 H → H1 D = none → H D = some (.lst (acc n)) → Q (.ref D) H) : LcG J g tt te vs σ H1 Q := by
  intro D hD
  exact lc_it w (LcE H1 D acc) ⟨sameU hD, by rw [h0]; exact upd_same⟩ (fun i H _ p => hG H p.1) (fun i x H H' hi p y => hs i x H H' D hi hD p y) (fun H p => hd D H p.1 hD p.2)
section
variable {K : PySem.W.Frag} {g : TG} {tt : TT} {te t : TE} {ta : TA} {vs : List Nat} {σ : L2.St} {H : Hp} {Q : VK}
theorem w_lcS (h : t σ H fun x H1 => ∃ z, x = .str z ∧ LcG (Its z) g tt te vs σ H1 Q) : tLc (iStr t) g tt te vs σ H Q := h
theorem w_lcL (h : t σ H fun x H1 => ∃ a, x = .ref a ∧ (∃ xs, SqL K H1 a xs) ∧ LcG (Itl K a) g tt te vs σ H1 Q) : tLc (iList K t) g tt te vs σ H Q := h
theorem w_lcT (h : t σ H fun x H1 => ∃ a, x = .ref a ∧ (∃ xs, SqT K H1 a xs) ∧ LcG (Itt K a) g tt te vs σ H1 Q) : tLc (iTup K t) g tt te vs σ H Q := h
theorem w_lcR (h : ta σ H fun us H1 => ∃ j : Int, us = [.int j] ∧ -(2 ^ 62) ≤ j ∧ j < 2 ^ 62 ∧ LcG (Itr 0 j.toNat) g tt te vs σ H1 Q) : tLc (iRng1 ta) g tt te vs σ H Q := h
theorem w_forSeq {g : TG} {tb : TS} {D : Ends} (h : t σ H fun x H1 => ∃ a, x = .ref a ∧ ((∃ xs, SqL K H1 a xs ∧ ForG (Itl K a) g tb D σ H1) ∨ (∃ xs, SqT K H1 a xs ∧ ForG (Itt K a) g tb D σ H1))) : tFor (iSeq K t) g tb D σ H := h
theorem if_nT {A B : Prop} (h : B) : if (!true) = true then A else B := iteF h
theorem if_nF {A B : Prop} (h : A) : if (!false) = true then A else B := iteT h
end
end
section
variable {w : World} {K : PySem.W.Frag} {mg : Str → Option Value}
theorem Txt.tyR (T : Txt w K mg) {H : Hp} {a dx : Addr} {fs : List (Str × V)} (e : H a = some (.ins (He.ga K "Rule") dx fs)) : TyOf K H (.ref a) (.ref (He.ga K "Rule")) := by
  obtain ⟨h1, h2⟩ := He.ba (He.ba (He.ba T.more).2).1
  obtain ⟨h2, h3⟩ := He.ba h2
  obtain ⟨h3, h4⟩ := He.ba h3
  exact .ins e T.clR (He.eqO_ok h1) (He.eqO_ok h2) (of_decide_eq_true h3) (of_decide_eq_true h4)
theorem Txt.isR (T : Txt w K mg) {H : Hp} {Q : VK} {a dx : Addr} {fs : List (Str × V)} (e : H a = some (.ins (He.ga K "Rule") dx fs)) (h : Q (.bl true) H) : rIsi K [.ref a, .ref (He.ga K "Rule")] H Q :=
  ⟨_, _, _, _, true, rfl, .own _, .base (T.tyR e), by unfold PySem.W.kitOne; simp, h⟩
noncomputable def Txt.kE (T : Txt w K mg) : Array DictEntry := (T.t.tab 0 (t := (fun K => He.ga K "LENGTHS", ["ring", "no ring", "shuffle", "length", "after", "comes"])) rfl).choose
noncomputable def Txt.kN (T : Txt w K mg) : Nat := (T.t.tab 0 (t := (fun K => He.ga K "LENGTHS", ["ring", "no ring", "shuffle", "length", "after", "comes"])) rfl).choose_spec.choose
theorem Txt.kdLEN (T : Txt w K mg) : KDict K w (He.ga K "LENGTHS") T.kE T.kN := (T.t.tab 0 (t := (fun K => He.ga K "LENGTHS", ["ring", "no ring", "shuffle", "length", "after", "comes"])) rfl).choose_spec.choose_spec
theorem Txt.len_at (T : Txt w K mg) {z : Str} {n : Int} (h : (z, He.Dv.int n) ∈ lenKV) : ∃ u, PySem.W.nsIn K (He.ga K "LENGTHS") z = some (some u) ∧ RelV (.int n) u := He.valsB_ok (He.ba T.more).1 h
end


/-! ### loops of one turn -/
theorem le_line {n : Nat} (h : n ≤ 1000) : n ≤ sizeLine := by rw [sizeLine_eq]; omega
theorem lt_line {n : Nat} (h : n ≤ 1000) : n < sizeLine := by rw [sizeLine_eq]; omega

section
variable {K : PySem.W.Frag} {a : Addr} {x : V} {g : TG} {tb : TS} {D : Ends} {σ : L2.St} {H : Hp} {tt : TT} {te : TE} {vs : List Nat} {Q : VK}
theorem for_one {J : It} {n : Nat} {G : Hp → Prop} {Y : Nat → Hp → V → Hp → Prop} (w : Walk J n G Y) (hn : n = 1) (h : G H) (hs : ∀ x H', Y 0 H x H' → g x σ H' fun σ2 H2 => tb { D with nx := fun σ H => G H ∧ D.nx σ H, ct := fun σ H => G H ∧ D.nx σ H, bk := D.nx } σ2 H2) : ForG J g tb D σ H := by
  subst hn
  refine for_it w (fun i σ' H' => if i = 0 then σ' = σ ∧ H' = H else G H' ∧ D.nx σ' H') (by rw [if_pos rfl]; exact ⟨rfl, rfl⟩) (fun i σ' H' hi p => ?_) (fun i x σ' H' H'' hi p y => ?_) (fun σ' H' p => ?_)
  · by_cases c : i = 0
    · rw [if_pos c] at p
      obtain ⟨_, rfl⟩ := p
      exact h
    · rw [if_neg c] at p
      exact p.1
  · have c : i = 0 := by omega
    subst c
    rw [if_pos rfl] at p
    obtain ⟨rfl, rfl⟩ := p
    exact hs x H'' y
  · rw [if_neg (by decide)] at p
    exact p.2
theorem for_none {J : It} {n : Nat} {G : Hp → Prop} {Y : Nat → Hp → V → Hp → Prop} (w : Walk J n G Y) (hn : n = 0) (h : G H) (hd : D.nx σ H) : ForG J g tb D σ H := by
  subst hn
  exact for_it w (fun i σ' H' => σ' = σ ∧ H' = H) ⟨rfl, rfl⟩ (fun i σ' H' hi p => by obtain ⟨_, rfl⟩ := p; exact h) (fun i x σ' H' H'' hi p y => absurd hi (Nat.not_lt_zero _)) (fun σ' H' p => by obtain ⟨rfl, rfl⟩ := p; exact hd)
theorem for_oneL (h : SqL K H a [x]) (hs : g x σ H fun σ2 H2 => tb { D with nx := fun σ H => SqL K H a [x] ∧ D.nx σ H, ct := fun σ H => SqL K H a [x] ∧ D.nx σ H, bk := D.nx } σ2 H2) : ForG (Itl K a) g tb D σ H :=
  for_one (walk_list (xs := [x])) rfl h fun y H' e => by obtain ⟨rfl, e⟩ := e; cases e; exact hs
theorem for_oneR {lo : Int} {n : Nat} (hn : n = 1) (hs : g (.int lo) σ H fun σ2 H2 => tb { D with nx := fun σ H => True ∧ D.nx σ H, ct := fun σ H => True ∧ D.nx σ H, bk := D.nx } σ2 H2) : ForG (Itr lo n) g tb D σ H :=
  for_one walk_range hn trivial fun y H' e => by obtain ⟨rfl, rfl⟩ := e; dsimp only; rw [show lo + ((0 : Nat) : Int) = lo from by omega]; exact hs
theorem for_rng {n : Nat} {j : Int} (hj : j = n) (Pv : Nat → L2.St → Hp → Prop) (h0 : Pv 0 σ H) (hs : ∀ i σ H, i < n → Pv i σ H → g (.int i) σ H fun σ2 H2 => tb { D with nx := Pv (i + 1), ct := Pv (i + 1), bk := D.nx } σ2 H2) (hd : ∀ σ H, Pv n σ H → D.nx σ H) : ForG (Itr 0 j.toNat) g tb D σ H := by
  subst hj
  rw [Int.toNat_natCast]
  exact for_it walk_range Pv h0 (fun _ _ _ _ _ => trivial) (fun i x σ H H' hi p y => by obtain ⟨rfl, rfl⟩ := y; dsimp only; rw [Int.zero_add]; exact hs i σ _ hi p) hd
theorem for_rng2 {lo j : Int} {n : Nat} (hj : (j - lo).toNat = n) (Pv : Nat → L2.St → Hp → Prop) (h0 : Pv 0 σ H) (hs : ∀ i σ H, i < n → Pv i σ H → g (.int (lo + i)) σ H fun σ2 H2 => tb { D with nx := Pv (i + 1), ct := Pv (i + 1), bk := D.nx } σ2 H2) (hd : ∀ σ H, Pv n σ H → D.nx σ H) : ForG (Itr lo (j - lo).toNat) g tb D σ H := by
  rw [hj]
  exact for_it walk_range Pv h0 (fun _ _ _ _ _ => trivial) (fun i x σ H H' hi p y => by obtain ⟨rfl, rfl⟩ := y; exact hs i σ _ hi p) hd
theorem for_oneE {n i j : Nat} (hn : n = 2) (h : SqL K H a [x]) (hs : ∀ T, H T = none → tb { D with nx := fun σ H => SqL K H a [x] ∧ D.nx σ H, ct := fun σ H => SqL K H a [x] ∧ D.nx σ H, bk := D.nx } ((σ.set i (some (.int 0))).set j (some x)) (upd H T (.tup [.int 0, x]))) :
    ForG (Ite K a) (gTup K n (gCons (gName i) (gCons (gName j) gNil))) tb D σ H :=
  for_one (walk_enum (xs := [x])) rfl h fun y H' e => by
    obtain ⟨T, b, c, rfl, hT, rfl, e1, e2⟩ := e
    cases e1
    cases e2
    exact w_tg2 hn sqTu (hs T hT)
end
def LcP (H : Hp) (D : Addr) (Q : VK) (i : Nat) (H' : Hp) : Prop := if i = 0 then H' = upd H D (.lst []) else Same H H' ∧ Q (.ref D) H'
def Lc1 (H : Hp) (D : Addr) (Q : VK) : VK := fun y H4 => ∃ acc, H4 D = some (.lst acc) ∧ acc.length < sizeLine ∧ LcP H D Q (0 + 1) (upd H4 D (.lst (acc ++ [y])))
theorem lc1 {H H4 : Hp} {D : Addr} {Q : VK} {y : V} (hD : H D = none) (s : Same (upd H D (.lst [])) H4) (q : Q (.ref D) (upd H4 D (.lst [y]))) : Lc1 H D Q y H4 :=
  ⟨[], s _ _ upd_same, by show 0 < sizeLine; rw [sizeLine_eq]; decide, by unfold LcP; rw [if_neg (by decide)]; exact ⟨Same.w (Same.trans (sameU hD) s) hD, q⟩⟩
theorem lc1n {H H3 : Hp} {D : Addr} {Q : VK} (hD : H D = none) (s : Same (upd H D (.lst [])) H3) (q : Q (.ref D) H3) : LcP H D Q (0 + 1) H3 := by unfold LcP; rw [if_neg (by decide)]; exact ⟨Same.trans (sameU hD) s, q⟩
section
variable {K : PySem.W.Frag} {a : Addr} {x : V} {g : TG} {σ : L2.St} {H : Hp} {tt : TT} {te : TE} {vs : List Nat} {Q : VK}
theorem lc_one {J : It} {n : Nat} {G : Hp → Prop} {Y : Nat → Hp → V → Hp → Prop} (w : Walk J n G Y) (hn : n = 1) (hG : ∀ H', Same H H' → G H')
    (hs : ∀ D x H', H D = none → Y 0 (upd H D (.lst [])) x H' → g x (wipe σ vs) H' fun σ2 H2 => wipe σ2 vs = wipe σ vs ∧ tt σ2 H2 fun b H3 => if b = true then te σ2 H3 (Lc1 H D Q) else LcP H D Q (0 + 1) H3) : LcG J g tt te vs σ H Q := by
  subst hn
  intro D hD
  refine lc_it w (LcP H D Q) (by unfold LcP; rw [if_pos rfl]) (fun i H' hi p => ?_) (fun i x H' H'' hi p y => ?_) (fun H' p => ?_)
  · unfold LcP at p
    by_cases c : i = 0
    · rw [if_pos c] at p
      subst p
      exact hG _ (sameU hD)
    · rw [if_neg c] at p
      exact hG _ p.1
  · have c : i = 0 := by omega
    subst c
    unfold LcP at p
    rw [if_pos rfl] at p
    subst p
    exact hs D x H'' hD y
  · unfold LcP at p
    rw [if_neg (by decide)] at p
    exact p.2
theorem lc_none {J : It} {n : Nat} {G : Hp → Prop} {Y : Nat → Hp → V → Hp → Prop} (w : Walk J n G Y) (hn : n = 0) (hG : ∀ H', Same H H' → G H') (q : ∀ D, H D = none → Q (.ref D) (upd H D (.lst []))) : LcG J g tt te vs σ H Q := by
  subst hn
  intro D hD
  exact lc_it w (fun i H' => H' = upd H D (.lst [])) rfl (fun i H' hi p => by subst p; exact hG _ (sameU hD)) (fun i x H' H'' hi p y => absurd hi (Nat.not_lt_zero _)) (fun H' p => by subst p; exact q D hD)
theorem lc_oneL (h : SqL K H a [x]) (hs : ∀ D, H D = none → g x (wipe σ vs) (upd H D (.lst [])) fun σ2 H2 => wipe σ2 vs = wipe σ vs ∧ tt σ2 H2 fun b H3 => if b = true then te σ2 H3 (Lc1 H D Q) else LcP H D Q (0 + 1) H3) : LcG (Itl K a) g tt te vs σ H Q :=
  lc_one (walk_list (xs := [x])) rfl (fun H' s => s.sq h) fun D y H' hD e => by obtain ⟨rfl, e⟩ := e; cases e; exact hs D hD
theorem lc_oneR {lo : Int} {n : Nat} (hn : n = 1) (hs : ∀ D, H D = none → g (.int lo) (wipe σ vs) (upd H D (.lst [])) fun σ2 H2 => wipe σ2 vs = wipe σ vs ∧ tt σ2 H2 fun b H3 => if b = true then te σ2 H3 (Lc1 H D Q) else LcP H D Q (0 + 1) H3) : LcG (Itr lo n) g tt te vs σ H Q :=
  lc_one walk_range hn (fun H' _ => trivial) fun D y H' hD e => by obtain ⟨rfl, rfl⟩ := e; dsimp only; rw [show lo + ((0 : Nat) : Int) = lo from by omega]; exact hs D hD
end
/-! ### objects of the program -/
def IsRule (K : PySem.W.Frag) (H : Hp) (r : Addr) (ns : List Int) : Prop := ∃ dx t, H r = some (.ins (He.ga K "Rule") dx [("row", .ref t)]) ∧ SqT K H t (ns.map V.int)
theorem IsRule.at {K : PySem.W.Frag} {H H' : Hp} {r : Addr} {ns : List Int} (h : IsRule K H r ns) (s : Same H H') : IsRule K H' r ns := by
  obtain ⟨dx, t, h1, h2⟩ := h
  exact ⟨dx, t, s _ _ h1, s.tq h2⟩
section
variable {K : PySem.W.Frag} {σ : L2.St} {H : Hp} {Q : VK} {to ti te : TE} {D : Ends} {t : TA}
theorem w_div {i j : Int} (h1 : 0 < j) (h2 : j < 1073741824) (h : Q (.int (i / j)) H) : rI CDiv (fun i j => .int (i / j)) (.int i) (.int j) H Q := ⟨i, j, rfl, rfl, ⟨h1, h2⟩, h⟩
theorem w_pgS {tset : TSet} {v : V} {Q : L2.St → Hp → Prop} (h : to σ H fun o H1 => ti σ H1 fun i H2 => tset o i v H2 fun H3 => Q σ H3) : gSub to ti tset v σ H Q := h
theorem w_augS {tget : V → V → Hp → VK → Prop} {tip : TIp} {tset : TSet} (h : to σ H fun o H1 => ti σ H1 fun i H2 => tget o i H2 fun x H3 => te σ H3 fun y H4 => tip x y H4 fun z H5 => tset o i z H5 fun H6 => D.nx σ H6) : tAugS to ti te tget tip tset D σ H := h
theorem w_ipI {f : Int → Int → Int} {i j : Int} (h : Q (.int (f i j)) H) : ipI f (.int i) (.int j) H Q := ⟨i, j, rfl, rfl, h⟩
theorem w_star {QL : List V → Hp → Prop} (h : te σ H fun x H1 => ∃ p xs, x = V.ref p ∧ (SqT K H1 p xs ∨ SqL K H1 p xs) ∧ t σ H1 fun ys H2 => QL (xs ++ ys) H2) : StX.tStar K te t σ H QL := h
theorem w_sl {r : V → Option Int → Option Int → Hp → VK → Prop} {tl th : TO} (h : te σ H fun x H1 => tl σ H1 fun l H2 => th σ H2 fun u H3 => r x l u H3 Q) : tSl r te tl th σ H Q := h
theorem w_part {Q : Option Int → Hp → Prop} (h : te σ H fun x H1 => ∃ i, x = .int i ∧ Q (some i) H1) : tPart te σ H Q := h
theorem w_noPart {Q : Option Int → Hp → Prop} (h : Q none H) : tNoPart σ H Q := h
theorem w_par {i j : Nat} (h : t σ H fun vs H1 => ∃ v w, vs = [v, w] ∧ D.nx ((σ.set i (some v)).set j (some w)) H1) : tPar i j t D σ H := h
theorem w_par3 {i j l : Nat} (h : t σ H fun vs H1 => ∃ u v w, vs = [u, v, w] ∧ D.nx (((σ.set i (some u)).set j (some v)).set l (some w)) H1) : tPar3 i j l t D σ H := h
theorem w_one {v : V} {P : V → Prop} (h : P v) : ∃ u, [v] = [u] ∧ P u := ⟨v, rfl, h⟩
theorem w_two {v w : V} {P : V → V → Prop} (h : P v w) : ∃ a b, [v, w] = [a, b] ∧ P a b := ⟨v, w, rfl, h⟩
theorem w_three {u v w : V} {P : V → V → V → Prop} (h : P u v w) : ∃ a b c, [u, v, w] = [a, b, c] ∧ P a b c := ⟨u, v, w, rfl, h⟩
theorem w_int1 {i : Int} {P : Int → Prop} (h : P i) : ∃ j, V.int i = V.int j ∧ P j := ⟨i, rfl, h⟩
theorem w_slL {p : Addr} {xs : List V} {lo hi : Option Int} (h : SqL K H p xs) (q : ∀ l, H l = none → Q (.ref l) (upd H l (.lst (cutV xs lo hi)))) : rSlL K (.ref p) lo hi H Q := ⟨p, xs, rfl, h, q⟩
theorem w_slT {p : Addr} {xs : List V} {lo hi : Option Int} (h : SqT K H p xs) (q : ∀ p' H', Same H H' → SqT K H' p' (cutV xs lo hi) → Q (.ref p') H') : rSlA K (.ref p) lo hi H Q := by
  refine ⟨p, xs, rfl, h, fun e => q p H (Same.refl _) ?_, fun e l hl => q l _ (sameU hl) sqTu⟩
  have : cutV xs lo hi = xs := by
    unfold cutV
    rw [e.1, e.2, List.drop_zero, Nat.sub_zero, List.take_length]
  rw [this]
  exact h
theorem w_attr {a C dx : Addr} {fs : List (Str × V)} {f : Str} {v : V} (h : H a = some (.ins C dx fs)) (c : Cls K C) (n : NoAttr K C f) (l : fs.lookup f = some v) (q : Q v H) : rFld K f (.ref a) H Q := ⟨a, C, dx, fs, v, rfl, h, c, n, l, q⟩
theorem two_pow_le {m n : Nat} (h : m ≤ n) : (2 : Int) ^ m ≤ 2 ^ n := by
  have h2 : (2 : Nat) ^ m ≤ 2 ^ n := Nat.pow_le_pow_right (by decide) h
  have e1 : (2 : Int) ^ m = ((2 ^ m : Nat) : Int) := by simp
  have e2 : (2 : Int) ^ n = ((2 ^ n : Nat) : Int) := by simp
  omega
end
theorem cut_from1 {α : Type} (f : α → V) (x : α) (xs : List α) : cutV ((x :: xs).map f) (some 1) none = xs.map f := by
  unfold cutV
  rw [show HT.sIx ((x :: xs).map f).length 0 (some 1) = 1 from by rw [show (1 : Int) = ((1 : Nat) : Int) from rfl, HT.sIx_nat]; simp, HT.sIx_none]
  simp [List.take_of_length_le]
def rSFld (K : PySem.W.Frag) (f : Str) (y x : V) (H : Hp) (Q : Hp → Prop) : Prop := ∃ a C dx fs, x = .ref a ∧ H a = some (.ins C dx fs) ∧ Cls K C ∧ NoAttr K C f ∧ fs.length < 1000 ∧ Q (upd H a (.ins C dx (putF f y fs)))
theorem w_sFld {K : PySem.W.Frag} {ta tv : TE} {f : Str} {D : Ends} {σ : L2.St} {H : Hp} (h : tv σ H fun y H1 => ta σ H1 fun x H2 => rSFld K f y x H2 (fun H3 => D.nx σ H3)) : sFld K ta tv f D σ H := h
theorem w_setF {K : PySem.W.Frag} {f : Str} {a C dx : Addr} {fs : List (Str × V)} {y : V} {H : Hp} {Q : Hp → Prop} (h : H a = some (.ins C dx fs)) (c : Cls K C) (n : NoAttr K C f) (l : fs.length < 1000) (q : Q (upd H a (.ins C dx (putF f y fs)))) : rSFld K f y (.ref a) H Q := ⟨a, C, dx, fs, rfl, h, c, n, l, q⟩
/-! ### dicts -/
def rD1 (p : Addr) (Q : VK) (x y : V) (H2 : Hp) : Prop := (fun ps H2 => H2 p = some (.dK []) ∧ ∃ kvs : List (Key × V), ps = kvs.map (fun kv => (kV kv.1, kv.2)) ∧ kvs.length ≤ 15 ∧ Q (.ref p) (upd H2 p (.dK (mergeK [] kvs)))) [(x, y)] H2
theorem w_disp1 {tk tv : TE} {σ : L2.St} {H : Hp} {Q : VK} (h : ∀ p, H p = none → tk σ (upd H p (.dK [])) fun x H1 => tv σ H1 fun y H2 => rD1 p Q x y H2) : tDisp [(tk, tv)] σ H Q := h
theorem w_d1 {p : Addr} {Q : VK} {k : Key} {x y : V} {H : Hp} (ex : x = kV k) (h : H p = some (.dK [])) (q : Q (.ref p) (upd H p (.dK [(k, y)]))) : rD1 p Q x y H := ⟨h, [(k, y)], by rw [ex]; rfl, by simp, q⟩
def rDGet : R2 := fun x y H Q => ∃ a v, x = .ref a ∧ DGet H a y (some v) ∧ Q v H
def rDIn : R2 := fun y x H Q => ∃ a o, x = .ref a ∧ DGet H a y o ∧ Q (.bl o.isSome) H
def rDNotIn : R2 := fun y x H Q => ∃ a o, x = .ref a ∧ DGet H a y o ∧ Q (.bl (!o.isSome)) H
def rDPut (v x y : V) (H : Hp) (Q : Hp → Prop) : Prop := ∃ a H4, x = .ref a ∧ DPut H a y v H4 ∧ Q H4
section
variable {σ : L2.St} {H : Hp} {Q : VK} {D : Ends} {td ty tv te : TE} {a : Addr} {kvs : List (Key × V)} {v : V} {K : PySem.W.Frag}
theorem w_tDGet (h : td σ H fun x H1 => ty σ H1 fun y H2 => rDGet x y H2 Q) : tDGet td ty σ H Q := h
theorem w_tDIn (h : ty σ H fun y H1 => td σ H1 fun x H2 => rDIn y x H2 Q) : tDIn ty td σ H Q := h
theorem w_tDNotIn (h : ty σ H fun y H1 => td σ H1 fun x H2 => rDNotIn y x H2 Q) : tDNotIn ty td σ H Q := h
theorem w_sDPut (h : tv σ H fun v H1 => td σ H1 fun x H2 => ty σ H2 fun y H3 => rDPut v x y H3 (fun H4 => D.nx σ H4)) : sDPut td ty tv D σ H := h
theorem w_dgetI {i : Int} (h : H a = some (.dK kvs)) (e : valV kvs (.inl i) = some v) (q : Q v H) : rDGet (.ref a) (.int i) H Q := ⟨a, v, rfl, e ▸ DGet.k (k := .inl i) h, q⟩
theorem w_dgetS {i : Str} (h : H a = some (.dK kvs)) (e : valV kvs (.inr i) = some v) (q : Q v H) : rDGet (.ref a) (.str i) H Q := ⟨a, v, rfl, e ▸ DGet.k (k := .inr i) h, q⟩
theorem w_dinI {i : Int} (h : H a = some (.dK kvs)) (q : Q (.bl (valV kvs (.inl i)).isSome) H) : rDIn (.int i) (.ref a) H Q := ⟨a, _, rfl, DGet.k (k := .inl i) h, q⟩
theorem w_dinS {i : Str} (h : H a = some (.dK kvs)) (q : Q (.bl (valV kvs (.inr i)).isSome) H) : rDIn (.str i) (.ref a) H Q := ⟨a, _, rfl, DGet.k (k := .inr i) h, q⟩
theorem w_dnotinS {i : Str} (h : H a = some (.dK kvs)) (q : Q (.bl (!(valV kvs (.inr i)).isSome)) H) : rDNotIn (.str i) (.ref a) H Q := ⟨a, _, rfl, DGet.k (k := .inr i) h, q⟩
theorem w_dputI {i : Int} {Q : Hp → Prop} (h : H a = some (.dK kvs)) (hl : kvs.length < sizeLine) (q : Q (upd H a (.dK (putK kvs (.inl i) v)))) : rDPut v (.ref a) (.int i) H Q := ⟨a, _, rfl, DPut.k (k := .inl i) h hl, q⟩
theorem w_dputS {i : Str} {Q : Hp → Prop} (h : H a = some (.dK kvs)) (hl : kvs.length < sizeLine) (q : Q (upd H a (.dK (putK kvs (.inr i) v)))) : rDPut v (.ref a) (.str i) H Q := ⟨a, _, rfl, DPut.k (k := .inr i) h hl, q⟩
theorem w_bm {T : String} {r : V → List V → Hp → VK → Prop} {t : TA} (h : te σ H fun x H1 => tyV K T x H1 ∧ t σ H1 fun xs H2 => r x xs H2 Q) : tBM K T r te t σ H Q := h
theorem w_bm0 {T : String} {r : V → List V → Hp → VK → Prop} (h : te σ H fun x H1 => tyV K T x H1 ∧ r x [] H1 Q) : tBM0 K T r te σ H Q := h
theorem tyL {p : Addr} {xs : List V} (h : SqL K H p xs) : tyV K "list" (.ref p) H := .inl ⟨rfl, xs, h⟩
end
/-! ### while -/
def WhB (W : Nat → L2.St → Hp → Prop) (m : Nat) (tb : TS) (D : Ends) (σ : L2.St) (H1 : Hp) : Prop := ∃ N : L2.St → Hp → Prop, (∀ σ' H', N σ' H' → ∃ m', m' < m ∧ W m' σ' H') ∧ tb { D with nx := N, ct := N, bk := D.nx } σ H1
theorem whB {W : Nat → L2.St → Hp → Prop} {m : Nat} {tb : TS} {D : Ends} {σ : L2.St} {H1 : Hp} (h : tb { D with nx := fun σ' H' => ∃ m', m' < m ∧ W m' σ' H', ct := fun σ' H' => ∃ m', m' < m ∧ W m' σ' H', bk := D.nx } σ H1) : WhB W m tb D σ H1 := ⟨_, fun _ _ q => q, h⟩
theorem w_while {c : TT} {tb : TS} {D : Ends} {σ : L2.St} {H : Hp} (W : Nat → L2.St → Hp → Prop) (m : Nat) (h0 : W m σ H) (hs : ∀ m σ H, W m σ H → c σ H fun b H1 => if b = true then WhB W m tb D σ H1 else D.nx σ H1) : tWhile c tb D σ H := ⟨W, ⟨m, h0⟩, hs⟩


end WH
namespace PySem
namespace OxX
open PySem.W PySem.Calls PyProof.Rows PySem.HandSPX
section
open Builtin Builtin.ObjectAttr
variable {prog : Program} {w : World} {A : Around} {E : Value → Shared → Prop} {R : Result → Shared → Prop} {hp : Heap} {g : Array GenState} {d : Drawn} {t : Nat} {os : OsState}
theorem exc_osaG {B : String} {bmB : List Value} {K : W.Frag} {name : Str} {tk : Tok} {v : Value} {x C : Addr} {fv : Array Value} (SF : StoreFacts B bmB "object.__setattr__" "object")
    (X : K.In hp) (hx : hp.get? x = some { cls := .ref C, data := .fields fv }) (ho : W.excOver K C bmB = true) (hh : W.hasDictIn K C = true) (ha : W.findIn K (.ref C) name = some none)
    (hq : ∀ h' tk' dx, (∀ b o, b ≠ x → hp.get? b = some o → h'.get? b = some o) → hp.objs.size ≤ dx → dx ≠ x → h'.get? x = some { cls := .ref C, dict := some dx, data := .fields fv } →
      h'.Ns1 dx (fun y => if y = name then some v else none) → R (.ok (.ret .none)) ⟨h', g, d, tk', os⟩) :
    codeAny (model prog w) A (.call (.builtin "object.__setattr__") ⟨[.ref x, .str name tk, v], []⟩) R ⟨hp, g, d, t, os⟩ := by
  have I : W.InstAt hp x { cls := .ref C, data := .fields fv } C none := ⟨hx, rfl, rfl, trivial⟩
  have hxs : x ≠ hp.objs.size := Nat.ne_of_lt (Heap.lt_size hx)
  obtain ⟨cd, hcd, hd'⟩ := W.any_some hh
  have hcls : W.Looks (model prog w) hp (classData C) cd := W.looks_clsIn X hcd
  have tk0 : W.takerIn K C name = some none := by unfold W.takerIn; rw [ha]; rfl
  refine W.osa_openX (s := ⟨hp, g, d, t, os⟩) (r := none) (od := none) SF X I ho tk0 fun b => ?_
  show wpAny _ _ (storeInOwnDict (.ref x) (.ref C) (.str name tk) name v b) _ _ _
  obtain ⟨nm, bs, mro, ns, qn, hd, sn, sb, ab, col, del⟩ := cd
  dsimp only at hd'
  subst hd'
  unfold storeInOwnDict ownDictForStores
  repeat (first | with_reducible refine store_in_new ?_ ?_ | with_reducible refine wpAny_loadPart_at hx ?_ | with_reducible refine hcls.at ?_ | wp_step)
  · exact ⟨_, #[], _, (Heap.get?_update_ne _ _ _ _ hxs.symm).trans (Heap.get?_push_at rfl rfl), rfl, fun e he => absurd he (by simp), fun _ => rfl⟩
  · intro h' tk' hn' hs
    have hx₁ : (hp.push { cls := .type "dict", data := .dict #[] }).get? x = some { cls := .ref C, data := .fields fv } := Heap.get?_push_of_some _ hx
    refine hq h' tk' hp.objs.size (fun b o hb ho => ?_) (Nat.le_refl _) hxs.symm ?_ hn'
    · exact (hs.2 b (Nat.ne_of_lt (Heap.lt_size ho))).trans ((Heap.get?_update_ne _ _ _ _ hb).trans (Heap.get?_push_of_some _ ho))
    · exact (hs.2 x hxs).trans (Heap.get?_update_self _ hx₁ rfl)
end
/-! ### the text of __init__ -/
def iA (arg : Str) (p1 p2 : Pos) : Arguments := { posonlyargs := [], args := [{ arg := "self", annotation := none, pos := p1 }, { arg := arg, annotation := none, pos := p2 }], vararg := none, kwonlyargs := [], kw_defaults := [], kwarg := none, defaults := [] }
def iB (arg : Str) (q1 q2 q3 q4 : Pos) : List Stmt := [.Assign [.Attribute (.Name "self" q1) arg q2] (.Name arg q3) q4]
def iS (arg : Str) : Scope := { kind := .function, names := [("self", .local), (arg, .local)], isGenerator := false, isCoroutine := false, more := [] }
/-- the three built-in bases -/
structure Base (B newId initId : String) (bm : List Value) : Prop where
  ex : ExcBaseFacts B newId initId bm
  st : StoreFacts B bm "object.__setattr__" "object"
theorem bVE : Base "ValueError" "ValueError.__new__" "ValueError.__init__" [.type "ValueError", .type "Exception", .type "BaseException", .type "object"] := ⟨F.excBase_ValueError, F.store_ValueError⟩
theorem bLE : Base "LookupError" "LookupError.__new__" "LookupError.__init__" [.type "LookupError", .type "Exception", .type "BaseException", .type "object"] := ⟨F.excBase_LookupError, F.store_LookupError⟩
theorem bAE : Base "ArithmeticError" "ArithmeticError.__new__" "ArithmeticError.__init__" [.type "ArithmeticError", .type "Exception", .type "BaseException", .type "object"] := ⟨F.excBase_ArithmeticError, F.store_ArithmeticError⟩
/-- an own class over one of them, with an __init__ that stores its argument -/
structure OxTxt (K : Frag) (mg : Str → Option Value) (x arg : Str) (C fI : Addr) : Prop where
  base : ∃ B newId initId bm, Base B newId initId bm ∧ excInitIn K C bm newId = true ∧ excOver K C bm = true
  arg_ : arg = "index" ∨ arg = "given"
  gC : mg x = some (.ref C)
  sa : findIn K (.ref C) "__setattr__" = some (some (.builtin "object.__setattr__"))
  ga : findIn K (.ref C) "__getattribute__" = some (some (.builtin "BaseException.__getattribute__"))
  gg : findIn K (.ref C) "__getattr__" = some none
  noN : findIn K (.ref C) arg = some none
  iC : findIn K (.ref C) "__init__" = some (some (.ref fI))
  tC : typeIn K (.ref fI) = some (.type "function")
  kC : keepIn K (.ref C) = true
  exC : subIn K (.ref C) (.type "BaseException") = some true
  tyC : typeIn K (.ref C) = some (.type "type")
  hdC : hasDictIn K C = true
  fn : ∃ (q : Str) (oc : Value) (od : Option Addr) (kV doc pm : Value) (an : Option Addr) (cdv ct : Value) (osl : Array (Option Value)) (p1 p2 q1 q2 q3 q4 : Pos),
    K.lookup fI = some ⟨oc, od, .func (fnOf "__init__" q (iA arg p1 p2) (iB arg q1 q2 q3 q4) (iS arg) .none kV doc pm an cdv ct), osl⟩ ∧ codeIn K cdv q = true
theorem one_size (v : Value) : [v].length ≤ sizeLine := by
  rw [sizeLine_eq]
  exact (by decide : 1 ≤ 16777216)
theorem ldC {M : Model} {s : Shared} {name : Str} {scope : Scope} {L a : Addr} {cd : Value} {m : Str → Option Value} {x : Str} {pos : Pos} {v : Value} {Q : Value → Shared → Prop} {A : Around} {E : Value → Shared → Prop} (hn : s.heap.Ns L m) (hv : m x = some v) (h : Q v s)
    (hk : scope.kind = .function := by rfl) (hl : (envOfC name scope L a cd).kindOf x = some .local := by rfl) (hd : (x == ("__debug__" : Str)) = false := by decide) :
    wpAny M A (eval (.Name x pos) (envOfC name scope L a cd)) Q E s := wpAny_Name (wpAny_loadName_local hk hl hn hv h) hd
/-- what __init__ leaves of a fresh exception at x -/
structure InitEnd (h h' : Heap) (x C dx t1 : Addr) (arg : Str) (v : Value) : Prop where
  keep : ∀ b o, b ≠ x → h.get? b = some o → h'.get? b = some o
  obj : h'.get? x = some { cls := .ref C, dict := some dx, data := .fields #[.ref t1, .none, .none, .none, .bool false, .none] }
  dbig : h.objs.size ≤ dx
  dne : dx ≠ x
  ns : h'.Ns1 dx (fun y => if y = arg then some v else none)
/-- made -/
structure OwnMade (h h' : Heap) (e C d : Addr) (arg : Str) (v : Value) : Prop where
  keep : ∀ b o, h.get? b = some o → h'.get? b = some o
  new : h.objs.size ≤ e
  obj : ∃ oe vs, h'.get? e = some oe ∧ oe.cls = .ref C ∧ oe.dict = some d ∧ oe.data = .fields vs ∧ vs[1]? = some .none
  dbig : h.objs.size ≤ d
  dne : d ≠ e
  ns : h'.Ns1 d (fun y => if y = arg then some v else none)
section
variable {prog : Program} {w : World} {A : Around} {E : Value → Shared → Prop} {R : Result → Shared → Prop} {s : Shared} {K : Frag} {mg : Str → Option Value} {cx arg : Str} {C fI : Addr}
theorem ox_init (T : OxTxt K mg cx arg C fI) {x t0 : Addr} {v : Value} (X : K.In s.heap) (hlim : s.heap.NoLimit) (hx : s.heap.get? x = some (excO C t0)) (hroom : A.depth < recursionLimit)
    (hq : ∀ h' tk dx, InitEnd s.heap h' x C dx t0 arg v → R (.ok (.ret .none)) { s with heap := h', toks := tk }) :
    codeAny (model prog w) A (.call (.ref fI) ⟨[.ref x, v], []⟩) R s := by
  obtain ⟨q, oc, od, kV, doc, pm, an, cdv, ct, osl, p1, p2, q1, q2, q3, q4, ho, hcd⟩ := T.fn
  obtain ⟨B, newId, initId, bm, hB, hini, hov⟩ := T.base
  have noN := T.noN
  have sa := T.sa
  have hdC := T.hdC
  rcases T.arg_ with rfl | rfl
  · refine Att.call_fn (binds := [("self", .ref x), ("index", v)]) X hlim ho hcd hroom (BindsTo.of_eq (by first | rfl | with_unfolding_all rfl)) (by first | rfl | decide | with_unfolding_all rfl) (fun s₁ IC => ?_) rfl rfl rfl
    obtain ⟨h₁, tk₁, rfl⟩ := IC.toInCall.same
    have k : ∀ b o, s.heap.get? b = some o → h₁.get? b = some o := IC.toInCall.keep
    have hn := IC.toInCall.ns
    have X₁ : K.In h₁ := X.keeps k
    have hx₁ := k _ _ hx
    show wpAny _ _ (execs _ _) _ _ _
    refine wpAny_execs_cons (plainObj_wpAny_Assign_Attribute ?_)
    refine ldC (v := v) hn (by first | rfl | with_unfolding_all rfl | kernel_rfl) (ldC (v := .ref x) hn (by first | rfl | with_unfolding_all rfl | kernel_rfl) ?_)
    refine set_plain X₁ (ox := excO C t0) (od := none) ⟨hx₁, rfl, rfl, trivial⟩ sa ?_
    refine exc_osaG hB.st X₁ hx₁ hov hdC noN (fun h₃ tk₃ dx k₃ dn dne hx₃ hn₃ => ?_)
    show wpAny _ _ (execs _ _) _ _ _
    have z : s.heap.objs.size < h₁.objs.size := hn.lt
    exact wpAny_execs_nil (hq h₃ tk₃ dx ⟨fun b o hb e => k₃ b o hb (k b o e), hx₃, Nat.le_of_lt (Nat.lt_of_lt_of_le z dn), dne, hn₃⟩)
  · refine Att.call_fn (binds := [("self", .ref x), ("given", v)]) X hlim ho hcd hroom (BindsTo.of_eq (by first | rfl | with_unfolding_all rfl)) (by first | rfl | decide | with_unfolding_all rfl) (fun s₁ IC => ?_) rfl rfl rfl
    obtain ⟨h₁, tk₁, rfl⟩ := IC.toInCall.same
    have k : ∀ b o, s.heap.get? b = some o → h₁.get? b = some o := IC.toInCall.keep
    have hn := IC.toInCall.ns
    have X₁ : K.In h₁ := X.keeps k
    have hx₁ := k _ _ hx
    show wpAny _ _ (execs _ _) _ _ _
    refine wpAny_execs_cons (plainObj_wpAny_Assign_Attribute ?_)
    refine ldC (v := v) hn (by first | rfl | with_unfolding_all rfl | kernel_rfl) (ldC (v := .ref x) hn (by first | rfl | with_unfolding_all rfl | kernel_rfl) ?_)
    refine set_plain X₁ (ox := excO C t0) (od := none) ⟨hx₁, rfl, rfl, trivial⟩ sa ?_
    refine exc_osaG hB.st X₁ hx₁ hov hdC noN (fun h₃ tk₃ dx k₃ dn dne hx₃ hn₃ => ?_)
    show wpAny _ _ (execs _ _) _ _ _
    have z : s.heap.objs.size < h₁.objs.size := hn.lt
    exact wpAny_execs_nil (hq h₃ tk₃ dx ⟨fun b o hb e => k₃ b o hb (k b o e), hx₃, Nat.le_of_lt (Nat.lt_of_lt_of_le z dn), dne, hn₃⟩)
theorem ox_made (T : OxTxt K mg cx arg C fI) {v : Value} (X : K.In s.heap) (hlim : s.heap.NoLimit) (hroom : A.depth + 1 < recursionLimit)
    (hq : ∀ h' tk e d, OwnMade s.heap h' e C d arg v → R (.ok (.ret (.ref e))) { s with heap := h', toks := tk }) :
    codeAny (model prog w) A (.call (.ref C) ⟨[v], []⟩) R s := by
  obtain ⟨B, newId, initId, bm, hB, hini, hov⟩ := T.base
  obtain ⟨nm, N', qn, bs, bm', hdct, sn, sub, ab, col, dd, k0, k1, k2, k3, k5, hC, hT⟩ := excInit_of X hini
  obtain ⟨hp, g, dr, tk, os⟩ := s
  have k : ∀ b o, hp.get? b = some o → ((hp.push (kdv_tup [v])).push (excO C hp.objs.size)).get? b = some o := fun b o e => Heap.get?_push_of_some _ (Heap.get?_push_of_some _ e)
  have hget : ((hp.push (kdv_tup [v])).push (excO C hp.objs.size)).get? (hp.objs.size + 1) = some (excO C hp.objs.size) := by heap_get
  refine call_own hB.ex hT hC (looks_findIn X T.iC) (fun self => bind_fn X self T.tC) (one_size v) ?_
  refine ox_init (s := ⟨(hp.push (kdv_tup [v])).push (excO C hp.objs.size), g, dr, tk, os⟩) T (X.keeps k) (hlim.keeps k) hget ?_ fun h' tk' dx ⟨k', hx, dn, dne, hns⟩ => ?_
  · show A.depth + 1 < recursionLimit
    exact hroom
  · have old : ∀ b o, hp.get? b = some o → h'.get? b = some o := fun b o e => k' b o (Nat.ne_of_lt (Nat.lt_succ_of_lt (Heap.lt_size e))) (k b o e)
    have z : hp.objs.size + 1 + 1 ≤ dx := by
      first
        | (simpa only [Heap.size_push] using dn)
        | exact dn
        | (have q := dn; rw [Heap.size_push, Heap.size_push] at q; exact q)
    exact ⟨rfl, hq h' tk' (hp.objs.size + 1) dx ⟨old, Nat.le_succ _, ⟨_, _, hx, rfl, rfl, rfl, rfl⟩, Nat.le_trans (Nat.le_trans (Nat.le_succ _) (Nat.le_succ _)) z, dne, hns⟩⟩
end
end OxX
end PySem
namespace WH
open PySem PySem.Spec PyProof.Rows L2
theorem relO_one {v : V} {v' : Value} (arg : Str) (r : RelV v v') (f : Str) : RelO (List.lookup f [(arg, v)]) (if f = arg then some v' else none) := by
  by_cases hw : f = arg
  · subst hw
    rw [if_pos rfl]
    have q : List.lookup f [(f, v)] = some v := by simp [List.lookup]
    rw [q]
    exact r
  · rw [if_neg hw]
    have qw : (f == arg) = false := by simpa using hw
    have q2 : List.lookup f [(arg, v)] = none := by simp [List.lookup, qw]
    rw [q2]
    trivial
section
variable {X : Cx} {C fI : Addr} {cx arg : Str}
/-- X(e) -/
def tMkX (C : Addr) (arg : Str) (ta : TA) : L2.St → Hp → XK → Prop := fun σ H Q => ta σ H fun vs H1 => ∃ v, vs = [v] ∧ ∀ d, H1 d = none → Q (.ref C) (some d) (upd H1 d (.xd [(arg, v)]))
theorem pmk_X {a : Expr} {ta : TA} {p pos : Pos} {k : Nat} (T : PySem.OxX.OxTxt X.K X.mg cx arg C fI) (hr : Room k X.A) (ha : PA X [a] ta) (hg : Gl X cx) (hdb : (cx == ("__debug__" : Str)) = false)
    (he : starEach (a :: []) X.env = (false, eval a X.env) :: starEach [] X.env := by rfl) (hpl : (backTo pos (starEach [] X.env)).any (·.1) = false := by rfl) :
    PMk X (.Call (.Name cx p) [a] [] pos) (tMkX C arg ta) := by
  intro pins s σ H Q I h
  refine wpAny_Call_Name_kw (ld_glob I hg T.gC ?_ hdb)
  refine PySem.W.callWith_K (h₀ := X.base) I.ok.mod.kin T.kC (thn (ha.run pos pins s σ H _ I h) fun us s1 hh => ?_) he hpl
  obtain ⟨vs, H1, I1, r1, v, ev, q1⟩ := hh
  subst ev
  refine ⟨I1.kIn, ?_⟩
  cases r1 with
  | cons rv rn =>
    rename_i v' us'
    cases rn
    show wpAny _ _ (call (.ref C) [v']) _ _ _
    have hlim := I1.nolimit
    obtain ⟨hp, g, dr, tk, os⟩ := s1
    refine wpAny_call (PySem.OxX.ox_made T I1.kIn hlim (by have := hr.dp; omega) fun h' tk' e d M => ?_)
    show MkP X pins σ Q (.ref e) ⟨h', g, dr, tk', os⟩
    obtain ⟨oe, fv, hoe, hc, hd, hdat, h1⟩ := M.obj
    have hns := M.ns
    obtain ⟨G', g1, g2⟩ := restrict h' fun b => decide (b ≠ e)
    have gk : ∀ b, b ≠ e → G'.get? b = h'.get? b := fun b hb => g1 b (decide_eq_true hb)
    have ge : G'.get? e = none := g2 e (by simp)
    have old : ∀ b o, hp.get? b = some o → G'.get? b = some o := fun b o q => (gk b (Nat.ne_of_lt (Nat.lt_of_lt_of_le (Heap.lt_size q) M.new))).trans (M.keep b o q)
    have ob : ObjOk X.prog X.w (upd H1 d (.xd [(arg, v)])) G' d (.xd [(arg, v)]) :=
      ⟨_, hns.at (fun o q => (gk d M.dne).trans q), fun f => relO_one arg rv f⟩
    have J : Inv X pins σ (upd H1 d (.xd [(arg, v)])) ⟨G', g, dr, tk', os⟩ := I1.laid (t' := tk') old M.dbig ob
    refine ⟨e, oe, fv, ⟨G', g, dr, tk', os⟩, _, .ref C, some d, rfl, J, fun b o q => ?_, ge, hoe, ⟨hc, hd⟩, hdat, h1, ?_, rfl, I1.bare, raises_own T.exC T.tyC, q1 d (I1.hok.fresh M.dbig)⟩
    · by_cases hb : b = e
      · have q' : G'.get? b = some o := q
        rw [hb, ge] at q'; cases q'
      · exact (gk b hb).symm.trans q
    · rw [upd_ne (Ne.symm M.dne)]
      exact I1.hok.fresh M.new
/-- raise X(e) -/
def tRaiseX (C : Addr) (arg : Str) (W : WX) (ta : TA) : TS := fun _ σ H => tMkX C arg ta σ H fun cls d H' => W cls d σ H'
theorem ps_raiseX {a : Expr} {ta : TA} {W : WX} {p pos pos2 : Pos} {k : Nat} (T : PySem.OxX.OxTxt X.K X.mg cx arg C fI) (hr : Room k X.A) (tk : Takes X W) (ha : PA X [a] ta) (hc : X.calm = true := by rfl) (hg : Gl X cx := by rfl) (hdb : (cx == ("__debug__" : Str)) = false := by decide +kernel)
    (he : starEach (a :: []) X.env = (false, eval a X.env) :: starEach [] X.env := by rfl) (hpl : (backTo pos (starEach [] X.env)).any (·.1) = false := by rfl) :
    PS X (.Raise (some (.Call (.Name cx p) [a] [] pos)) none pos2) (tRaiseX C arg W ta) := ps_raise hc tk (pmk_X T hr ha hg hdb he hpl)
theorem w_raiseX {W : WX} {ta : TA} {D : Ends} {σ : L2.St} {H : Hp} (h : ta σ H fun vs H1 => ∃ v, vs = [v] ∧ ∀ d, H1 d = none → W (.ref C) (some d) σ (upd H1 d (.xd [(arg, v)]))) : tRaiseX C arg W ta D σ H := h
end
section
variable {w : World} {K : PySem.W.Frag} {mg : Str → Option Value}
theorem ox_of (T : Txt w K mg) {x arg q : Str} {B newId initId : String} {bm : List Value} (hB : PySem.OxX.Base B newId initId bm) (ha : arg = "index" ∨ arg = "given") (h : oxB K x arg bm newId = true) {p1 p2 q1 q2 q3 q4 : Pos}
    (hf : ∃ fd, FunD K "__init__" q (PySem.OxX.iA arg p1 p2) (PySem.OxX.iB arg q1 q2 q3 q4) (PySem.OxX.iS arg) [] [] (He.ma K (He.ga K x) "__init__") fd) : PySem.OxX.OxTxt K mg x arg (He.ga K x) (He.ma K (He.ga K x) "__init__") := by
  obtain ⟨h1, h⟩ := He.ba h
  obtain ⟨h2, h⟩ := He.ba h
  obtain ⟨h3, h⟩ := He.ba h
  obtain ⟨h4, h⟩ := He.ba h
  obtain ⟨h5, h⟩ := He.ba h
  obtain ⟨h6, h⟩ := He.ba h
  obtain ⟨h7, h⟩ := He.ba h
  obtain ⟨h8, h⟩ := He.ba h
  obtain ⟨h9, h⟩ := He.ba h
  obtain ⟨h10, h⟩ := He.ba h
  obtain ⟨h11, h⟩ := He.ba h
  obtain ⟨h12, h13⟩ := He.ba h
  obtain ⟨h0, XK, G⟩ := T.ns
  refine ⟨⟨B, newId, initId, bm, hB, h1, h2⟩, ha, PySem.W.mg_of XK G (He.eqO_ok h3), He.eqO_ok h4, He.eqO_ok h5, He.eqO_ok h6, He.eqO_ok h7, He.eqO_ok h8, of_decide_eq_true h9, h10, of_decide_eq_true h11, of_decide_eq_true h12, h13, ?_⟩
  obtain ⟨fd, ⟨oc, od, dV, kV, doc, pm, an, cdv, ct, osl, rfl, lk, hcd, hD, _⟩, _⟩ := hf
  rcases hD with ⟨_, rfl⟩ | ⟨e, _⟩
  · exact ⟨q, oc, od, kV, doc, pm, an, cdv, ct, osl, p1, p2, q1, q2, q3, q4, lk, hcd⟩
  · exact absurd rfl e
theorem Txt.exs (T : Txt w K mg) : exsB K = true := (He.ba (He.ba (He.ba T.more).2).2).1
theorem Txt.bkB (T : Txt w K mg) : bookB K = true := (He.ba (He.ba (He.ba T.more).2).2).2
theorem Txt.x_Broken (T : Txt w K mg) : PySem.OxX.OxTxt K mg "Broken" "index" (He.ga K "Broken") (He.ma K (He.ga K "Broken") "__init__") := ox_of T PySem.OxX.bAE (.inl rfl) (He.ba T.exs).1 T.f_Broken_init
theorem Txt.x_InUse (T : Txt w K mg) : PySem.OxX.OxTxt K mg "InUse" "index" (He.ga K "InUse") (He.ma K (He.ga K "InUse") "__init__") := ox_of T PySem.OxX.bAE (.inl rfl) (He.ba (He.ba T.exs).2).1 T.f_InUse_init
theorem Txt.x_UnknownName (T : Txt w K mg) : PySem.OxX.OxTxt K mg "UnknownName" "given" (He.ga K "UnknownName") (He.ma K (He.ga K "UnknownName") "__init__") := ox_of T PySem.OxX.bLE (.inr rfl) (He.ba (He.ba (He.ba T.exs).2).2).1 T.f_UnknownName_init
theorem Txt.x_InvalidIndex (T : Txt w K mg) : PySem.OxX.OxTxt K mg "InvalidIndex" "given" (He.ga K "InvalidIndex") (He.ma K (He.ga K "InvalidIndex") "__init__") := ox_of T PySem.OxX.bVE (.inr rfl) (He.ba (He.ba (He.ba (He.ba T.exs).2).2).2).1 T.f_InvalidIndex_init
/-- NothingToUndo() -/
structure NtuTxt (K : PySem.W.Frag) (mg : Str → Option Value) : Prop where
  xP : PySem.W.excIn K (He.ga K "NothingToUndo") bmAE "ArithmeticError.__new__" = true
  gP : mg "NothingToUndo" = some (.ref (He.ga K "NothingToUndo"))
  kP : PySem.W.keepIn K (.ref (He.ga K "NothingToUndo")) = true
  bP : PySem.W.subIn K (.ref (He.ga K "NothingToUndo")) (.type "BaseException") = some true
  tP : PySem.W.typeIn K (.ref (He.ga K "NothingToUndo")) = some (.type "type")
theorem Txt.x_NothingToUndo (T : Txt w K mg) : NtuTxt K mg := by
  obtain ⟨h1, h⟩ := He.ba (He.ba (He.ba (He.ba (He.ba T.exs).2).2).2).2
  obtain ⟨h2, h⟩ := He.ba h
  obtain ⟨h3, h⟩ := He.ba h
  obtain ⟨h4, h5⟩ := He.ba h
  obtain ⟨h0, XK, G⟩ := T.ns
  exact ⟨h1, PySem.W.mg_of XK G (He.eqO_ok h2), h3, of_decide_eq_true h4, of_decide_eq_true h5⟩
end
section
variable {X : Cx}
theorem pmk_own0 {C : Addr} {bmB : List Value} {B newId initId : String} {x : Str} {p pos : Pos} (F : ExcBaseFacts B newId initId bmB) (q : PySem.W.excIn X.K C bmB newId = true) (gC : X.mg x = some (.ref C)) (kC : PySem.W.keepIn X.K (.ref C) = true) (r : Raises X (.ref C)) (hg : Gl X x)
    (hdb : (x == ("__debug__" : Str)) = false := by decide +kernel) : PMk X (.Call (.Name x p) [] [] pos) (fun _ H Q => Q (.ref C) none H) := by
  intro pins s σ H Q I h
  refine wpAny_Call_Name_kw (ld_glob I hg gC ?_ hdb)
  refine PySem.W.callWith_K0 I.kIn kC ?_
  show wpAny _ _ (call (.ref C) []) _ _ _
  obtain ⟨bm, N, nm, qn, bs, hdct, sn, sub, ab, col, dd, k0, k1, k2, k3, k5, mN, hC, hN, hni, T⟩ := exc_obj I.kIn q
  refine wpAny_call_exc_subT F T hC hN hni (fun h' e hm => ?_) (by show 0 ≤ sizeLine; omega)
  exact mk_of I hm r h (I.hok.gone hm.new)
def tRaise0 (C : Addr) (W : WX) : TS := fun _ σ H => W (.ref C) none σ H
theorem ps_raiseX0 {p pos pos2 : Pos} {W : WX} (T : NtuTxt X.K X.mg) (tk : Takes X W) (hc : X.calm = true := by rfl) (hg : Gl X "NothingToUndo" := by rfl) :
    PS X (.Raise (some (.Call (.Name "NothingToUndo" p) [] [] pos)) none pos2) (tRaise0 (He.ga X.K "NothingToUndo") W) := ps_raise hc tk (pmk_own0 PySem.F.excBase_ArithmeticError T.xP T.gP T.kP (raises_own T.bP T.tP) hg)
end


/-! ### len(set(xs)) -/
def rLenSet (K : PySem.W.Frag) (x : V) (H : Hp) (Q : VK) : Prop := ∃ (l : Addr) (ns : List Int), x = .ref l ∧ SqL K H l (ns.map V.int) ∧ ns.length ≤ 4000 ∧ Q (.int ((PyProof.Rows.firstMet (fun i => ns.getD i 0) ns.length).length : Nat)) H
def tLenSetG (K : PySem.W.Frag) (ta : TE) : TE := fun σ H Q => ta σ H fun x H1 => rLenSet K x H1 Q
theorem fm_le (f : Nat → Int) : ∀ n, (PyProof.Rows.firstMet f n).length ≤ n
  | 0 => Nat.le_refl _
  | n + 1 => by
    rw [PyProof.Rows.firstMet_succ]
    have := fm_le f n
    show (if (PyProof.Rows.firstMet f n).any (· == f n) then PyProof.Rows.firstMet f n else PyProof.Rows.firstMet f n ++ [f n]).length ≤ n + 1
    split
    · omega
    · rw [List.length_append]; show _ + 1 ≤ _; omega
theorem pe_lenSetG {X : Cx} {a : Expr} {ta : TE} {p p2 q pos : Pos} (hg : Gl X "len") (hm : X.mg "len" = none) (hg2 : Gl X "set") (hm2 : X.mg "set" = none) (ha : PE X a ta) (hc : X.calm = true := by rfl)
    (na : starEach [a] X.env = (false, eval a X.env) :: starEach [] X.env := by rfl) : PE X (.Call (.Name "len" p) [.Call (.Name "set" p2) [a] [] q] [] pos) (tLenSetG X.K ta) := by
  refine ⟨fun pins s σ H Q I h => ?_⟩
  refine Call_ (ld_blt I hg hm boot_len ?_)
  refine PyProof.Rows.callWith_builtin1 (PyProof.Rows.args_cons ?_ rfl) rfl rfl
  refine Call_ (ld_blt I hg2 hm2 boot_set ?_)
  refine PyProof.Rows.callWith_type1 (PyProof.Rows.args_cons (thn (ha.run pins s σ H _ I h) fun v s1 ⟨x, H1, I1, r1, q1⟩ => PyProof.Rows.args_nil ?_) na) na rfl
  obtain ⟨l, ns, rfl, hq, hl, q1⟩ := q1
  cases r1
  obtain ⟨its, r, pl, hz⟩ := I1.list hq
  have hlen : its.toArray.size = ns.length := by rw [List.size_toArray, ← r.length, List.length_map]
  refine call_set_list (I1.ok.hd hc) pl.isList (by simpa using RZ.intsAre_vals r) (by rw [hlen]; unfold scanBound; omega) fun h' tk hS hk => ?_
  refine PyProof.Rows.args_nil ?_
  rw [hlen] at hS
  have hfl := fm_le (fun i => ns.getD i 0) ns.length
  obtain ⟨o, es, ep, t, ho, hex, hd, _, _, _, hf, hn⟩ := hS
  have I2 : Inv X pins σ H1 { s1 with heap := h', toks := tk } := I1.kept fun b o e => hk b o (Heap.lt_size e) e
  exact call_len_set ho hex hd hf (by rw [hn] <;> omega) ⟨.int _, H1, I2.tok _, ⟨_, by rw [hn]⟩, q1⟩
/-! ### d == {} -/
def rEqD0 : R2 := fun x y H Q => ∃ a b ks, x = .ref a ∧ y = .ref b ∧ H a = some (.dK ks) ∧ H b = some (.dK []) ∧ Q (.bl ks.isEmpty) H
theorem op_eqD0 {X : Cx} (hu : X.A.units < cLine) : OpR X (compareOp .Eq) rEqD0 := by
  intro pins s σ H x y v u Q I rx ry h
  obtain ⟨a, b, ks, rfl, rfl, ea, eb, q⟩ := h
  obtain rfl : v = Value.ref a := rx
  obtain rfl : u = Value.ref b := ry
  obtain ⟨_, ya, va, ra, da⟩ := (show ObjOk X.prog X.w H s.heap a (.dK ks) from I.hok a _ ea)
  obtain ⟨_, yb, vb, rb, db⟩ := (show ObjOk X.prog X.w H s.heap b (.dK []) from I.hok b _ eb)
  have hvb : vb.length = 0 := by rw [← rb.length]; rfl
  refine PySem.W.keq_eq (knd := mixKind X.prog X.w) (r := true) ya yb da db hu (fun hlen => ?_) (fin_bl I q ?_)
  · have hks : ks = [] := by
      have : ks.length = 0 := by rw [ra.length, hlen, hvb]
      exact List.eq_nil_of_length_eq_zero this
    subst hks
    exact hits_all rb ra (fun p hp => by cases hp)
  · rw [hvb, ← ra.length]
    cases ks <;> rfl
/-! ### calls that may raise -/
section
variable {X : Cx}
theorem passW {E : XK} (tk : Takes X (fun cls d _ H => E cls d H)) : Passes (L2.CX X.prog X.w) X E := fun pins σ H s e s' I h => passAt (W := fun cls d _ H => E cls d H) tk σ pins H s e s' I h
theorem cME {pl : Sem Bool} {f C : Addr} {k : Nat} {ps : List Str} {dvs : List V} {sp : Sp} {m : Str} {apos pos : Pos} {o e : Expr} {es : List Expr} {to : TE} {t : TA} {E : XK} (hx : Passes (L2.CX X.prog X.w) X E) (F : HasA X.prog X.w X.K X.mg X.base f k ps dvs sp) (c : Cls X.K C) (hm : Meth X.K C m f) (hr : Room k X.A)
    (ho : PE X o to) (ha : PA X (e :: es) t) (hst : starEach (e :: es) X.env = (false, eval e X.env) :: starEach es X.env := by rfl) (hpl : (backTo pos (starEach es X.env)).any (·.1) = false := by rfl)
    (ht : eval (.Call (.Attribute o m apos) (e :: es) [] pos) X.env = (do
      let ov ← eval o X.env
      standAt apos.atName
      let (f, first) ← holding [ov] (getMethod ov m pl)
      callWith pos f first (backTo pos (starEach (e :: es) X.env)) (backToKw pos (keywordEach [] X.env))) := by rfl) :
    PE X (.Call (.Attribute o m apos) (e :: es) [] pos) (tMeth C m sp dvs E to t) := by
  obtain ⟨fd, ds, F1, b1, r1⟩ := F.ok
  exact pe_meth (pl := pl) ho c hm F1 hr b1 r1 hx ha hst hpl ht
theorem cM0E {pl : Sem Bool} {f C : Addr} {k : Nat} {ps : List Str} {dvs : List V} {sp : Sp} {m : Str} {apos pos : Pos} {o : Expr} {to : TE} {E : XK} (hx : Passes (L2.CX X.prog X.w) X E) (F : HasA X.prog X.w X.K X.mg X.base f k ps dvs sp) (c : Cls X.K C) (hm : Meth X.K C m f) (hr : Room k X.A) (ho : PE X o to)
    (ht : eval (.Call (.Attribute o m apos) [] [] pos) X.env = (do
      let ov ← eval o X.env
      standAt apos.atName
      let (f, first) ← holding [ov] (getMethod ov m pl)
      callWith pos f first (backTo pos (starEach [] X.env)) (backToKw pos (keywordEach [] X.env))) := by rfl) :
    PE X (.Call (.Attribute o m apos) [] [] pos) (tMeth C m sp dvs E to tNil) := by
  obtain ⟨fd, ds, F1, b1, r1⟩ := F.ok
  exact pe_meth0 (pl := pl) ho c hm F1 hr b1 r1 hx ht
theorem cFE {f : Addr} {k : Nat} {ps : List Str} {dvs : List V} {sp : Sp} {x : Str} {p pos : Pos} {e : Expr} {es : List Expr} {t : TA} {E : XK} (hx : Passes (L2.CX X.prog X.w) X E) (F : HasA X.prog X.w X.K X.mg X.base f k ps dvs sp) (hr : Room k X.A) (hm : X.mg x = some (.ref f))
    (ha : PA X (e :: es) t) (hg : Gl X x := by rfl) (hdb : (x == ("__debug__" : Str)) = false := by decide +kernel) (he : starEach (e :: es) X.env = (false, eval e X.env) :: starEach es X.env := by rfl) (hpl : (backTo pos (starEach es X.env)).any (·.1) = false := by rfl) :
    PE X (.Call (.Name x p) (e :: es) [] pos) (tCall sp dvs E t) := by
  obtain ⟨fd, ds, F1, b1, r1⟩ := F.ok
  exact pe_call F1 hr hg hm F.kp b1 r1 hx ha hdb he hpl
/-- a call one level in -/
theorem run_in1 {CX : CXT} {k : Nat} {f : Addr} {fd : FuncData} {ps : List Str} {sp : Sp} {dvs : List V} {ds : List Value} {E : XK} {pins : List (Addr × Obj)} {σ : L2.St} {H : Hp} {s : Shared} {Q : VK} {us : List Value} {vs : List V} (F : FnOk X.prog X.w X.K X.mg X.base CX k f fd ps sp) (hr : Room (k + 1) X.A) (hb : Binds X.K fd ps ds) (hd : Vals dvs ds) (hx : Passes CX X E)
    (I : Inv X pins σ H s) (r : Vals vs us) (h : sp (vs ++ dvs) H Q E) : wpAny (model X.prog X.w) X.A.in1 (call (.ref f) us) (EP X pins σ Q) X.xe s := by
  have r2 : Vals (vs ++ dvs) (us ++ ds) := r.append hd
  have hl : (us ++ ds).length = ps.length := by rw [← r2.length]; exact F.len _ _ _ _ h
  refine wpAny_call (codeAny_mono (F.run X.A.in1 X.stack s H ⟨us, []⟩ (us ++ ds) (vs ++ dvs) Q E hr.in1 I.env0.in1 (hb s us I.kIn hl) r2 h) fun r s' hq => ?_)
  cases r with
  | error e => exact hx pins σ H s e s' I hq
  | ok fl =>
    cases fl with
    | ret u => exact I.after hq
    | next => exact False.elim hq
    | brk => exact False.elim hq
    | cont => exact False.elim hq
/-- len(o) of an own object -/
def rLenK (C : Addr) (sp : Sp) : List V → Hp → VK → Prop := fun xs H Q => ∃ a dx fs, xs = [.ref a] ∧ H a = some (.ins C dx fs) ∧ sp [.ref a] H (fun v H2 => ∃ n : Nat, v = .int n ∧ n < 2 ^ 62 ∧ Q (.int n) H2) (fun _ _ _ => False)
theorem ca_lenK {f C : Addr} {k : Nat} {ps : List Str} {sp : Sp} (F : HasA X.prog X.w X.K X.mg X.base f k ps [] sp) (hm : Meth X.K C "__len__" f) (hr : Room (k + 1) X.A) : CallR X (.builtin "len") (rLenK C sp) := by
  intro pins s σ H xs us Q I r h
  obtain ⟨a, dx, fs, rfl, ea, q⟩ := h
  obtain ⟨fd, ds, F1, b1, r1⟩ := F.ok
  rw [Vals.ref1 r]
  obtain ⟨mA, O, _, _, _, _⟩ := ins_get I.hok ea
  obtain ⟨od, J, _⟩ := O.look
  refine Calls.call_function_entry PySem.kind_len PySem.plain_len PySem.entry_len (PySem.args_len1 _) ?_
  unfold Builtin.«len»
  refine wpAny_bind (m := oneArg "len" _) (wpAny_pure ?_)
  refine wpAny_bind (m := callSpecial? (.ref a) (Str.ofString "__len__")) (PySem.W.special_fn I.kIn J hm.at_ (beq_iff_eq.mp hm.fn) (wpAny_mono (run_in1 F1 hr b1 r1 passE I (.cons (show RelV (V.ref a) (Value.ref a) from rfl) .nil) q) (fun r s' hr => ?_) fun _ _ y => y))
  obtain ⟨v, H2, I2, rv, n, rfl, hn, q2⟩ := hr
  obtain ⟨t, rfl⟩ := rv
  refine wpAny_bind (wpAny_holding (wpAny_pure ?_))
  refine wpAny_bind (wpAny_letGo ?_)
  show wpAny _ _ (if ((n : Nat) : Int) < 0 then _ else _) _ _ _
  rw [if_neg (by omega)]
  show wpAny _ _ (if ((n : Nat) : Int) ≥ 2 ^ 63 then _ else _) _ _ _
  rw [if_neg (by omega)]
  exact wpAny_bind (wpAny_mkInt (wpAny_pure ⟨_, rfl, .int n, H2, I2.tok _, ⟨_, rfl⟩, q2⟩))
/-- o[i] of an own object -/
def rIxK (C : Addr) (sp : Sp) (E : XK) : R2 := fun x y H Q => ∃ a dx fs, x = .ref a ∧ H a = some (.ins C dx fs) ∧ sp [x, y] H Q E
theorem pe_ixK {f C : Addr} {k : Nat} {ps : List Str} {sp : Sp} {E : XK} {a b : Expr} {ta tb : TE} {pos : Pos} (hx : Passes (L2.CX X.prog X.w) X E) (F : HasA X.prog X.w X.K X.mg X.base f k ps [] sp) (hm : Meth X.K C "__getitem__" f) (hf : PySem.W.fnIn X.K f = true) (hr : Room (k + 1) X.A) (ha : PE X a ta) (hb : PE X b tb)
    (hs : ∀ o i, subscripted b true o i = runValue (.builtin "lifetime.subscript" ⟨[o, i], []⟩)) : PE X (.Subscript a b pos) (tOp (rIxK C sp E) ta tb) := by
  refine ⟨fun pins s σ H Q I h => ?_⟩
  refine Subscript_ (binT ha hb I h fun v u s2 x y H2 I2 rx ry q => ?_)
  obtain ⟨c, dx, fs, rfl, ec, q⟩ := q
  obtain rfl : v = Value.ref c := rx
  obtain ⟨fd, ds, F1, b1, r1⟩ := F.ok
  obtain ⟨mA, O, _, _, _, _⟩ := ins_get I2.hok ec
  obtain ⟨od, J, _⟩ := O.look
  have X0 := I2.kIn
  unfold PySem.W.fnIn at hf
  split at hf
  · rename_i e
    unfold subscriptTail getitemInPython
    refine wpAny_bind (wpAny_bind (wpAny_bind (J.type.here ((PySem.W.looks_findIn X0 hm.at_).here ?_))))
    dsimp only
    refine wpAny_bind (wpAny_load (X0 _ _ e) (wpAny_pure ?_))
    dsimp only
    rw [hs]
    refine wpAny_bind (wpAny_runValue (codeAny_builtin PySem.W.entry_sub ?_))
    unfold Builtin.«lifetime.subscript»
    refine wpAny_bind (PySem.W.special_fn X0 J hm.at_ (beq_iff_eq.mp hm.fn) (wpAny_mono (run_in1 F1 hr b1 r1 hx I2 (.cons (show RelV (V.ref c) (Value.ref c) from rfl) (.cons ry .nil)) q) (fun v s' z => ?_) fun _ _ z => z))
    refine wpAny_pure ?_
    show wpAny (model X.prog X.w) X.A (letTemporaryGo a (.ref c) v >>= fun _ => pure v) _ _ s'
    exact wpAny_bind (wpAny_letTemporaryGo (wpAny_pure z))
  · cases hf
/-- o[i] = v of an own object -/
def rSetK (C : Addr) (sp : Sp) (E : XK) : TSet := fun o i v H Q => ∃ a dx fs, o = .ref a ∧ H a = some (.ins C dx fs) ∧ sp [o, i, v] H (fun _ H2 => Q H2) E
theorem set_K {f C : Addr} {k : Nat} {ps : List Str} {sp : Sp} {E : XK} (hx : Passes (L2.CX X.prog X.w) X E) (F : HasA X.prog X.w X.K X.mg X.base f k ps [] sp) (hm : Meth X.K C "__setitem__" f) (hq : PySem.W.noSeq X.K C = true) (hr : Room k X.A) : PSet X (rSetK C sp E) := by
  intro pins s σ H o i v ov iv u Q I ro ri rv h
  obtain ⟨c, dx, fs, rfl, ec, q⟩ := h
  obtain rfl : ov = Value.ref c := ro
  obtain ⟨fd, ds, F1, b1, r1⟩ := F.ok
  obtain ⟨mA, O, _, _, _, _⟩ := ins_get I.hok ec
  obtain ⟨od, J, _⟩ := O.look
  have X0 := I.kIn
  unfold setItem sequenceKey
  refine wpAny_holding (wpAny_bind (wpAny_bind (J.type.here ?_)))
  refine wpAny_bind ((PySem.W.anyM_none X0 hq).here ?_)
  rw [if_pos (show (!false) = true from rfl)]
  refine wpAny_pure (wpAny_bind (PySem.W.special_fn X0 J hm.at_ (beq_iff_eq.mp hm.fn) (wpAny_mono (run_fn (vs := [.ref c, i, v]) F1 hr b1 r1 hx I (.cons (show RelV (V.ref c) (Value.ref c) from rfl) (.cons ri (.cons rv .nil))) q) (fun _ s' z => wpAny_pure ?_) fun _ _ z => z)))
  obtain ⟨v2, H2, I2, _, q2⟩ := z
  exact ⟨H2, I2, q2⟩
end


local macro_rules | `(tactic| walk_at "w1") => `(tactic| first
  | with_reducible refine w_seq ?_ | with_reducible refine w_asg ?_ | with_reducible refine w_ret ?_ | with_reducible refine w_retN ?_ | with_reducible refine w_drop ?_ | with_reducible refine w_next ?_ | with_reducible refine w_ifS ?_
  | with_reducible refine w_var (by with_unfolding_all rfl) ?_
  | with_reducible refine w_c ?_ | with_reducible refine w_op ?_ | with_reducible refine w_un ?_ | with_reducible refine w_test ?_ | with_reducible refine w_tB ?_ | with_reducible refine w_k ?_ | with_reducible refine w_not ?_
  | with_reducible refine w_and ?_ | with_reducible refine w_or ?_ | with_reducible refine w_andV ?_ | with_reducible refine w_orV ?_ | with_reducible refine w_notV ?_ | with_reducible refine w_tIf ?_
  | with_reducible refine w_I0 ?_ | with_reducible refine w_U ?_ | with_reducible refine w_eqI ?_ | with_reducible refine w_neI ?_ | with_reducible refine w_eqS ?_ | with_reducible refine w_neS ?_ | with_reducible refine w_isN ?_ | with_reducible refine w_notN ?_
  | with_reducible refine w_chain ?_ | with_reducible refine w_cb ?_ | with_reducible refine w_call ?_ | with_reducible refine w_cons ?_ | with_reducible refine w_nil ?_
  | with_reducible refine isi_int ?_ | with_reducible refine isi_intB ?_ | with_reducible refine isi_nonI ?_ | with_reducible refine isi_str ?_ | with_reducible refine if_T ?_ | with_reducible refine if_F ?_
  | with_reducible refine w_forR ?_ | with_reducible refine w_forR2 ?_ | with_reducible refine w_forL ?_ | with_reducible refine w_forT ?_
  | with_reducible refine w_name ?_ | with_reducible refine w_forE ?_ | with_reducible refine w_forET ?_ | with_reducible refine w_tup ?_ | with_reducible refine w_lst ?_ | with_reducible refine w_prop ?_ | with_reducible refine w_meth ?_ | with_reducible refine w_make ?_ | with_reducible refine w_fld ?_
  | with_reducible refine w_lcS ?_ | with_reducible refine w_lcL ?_ | with_reducible refine w_lcT ?_ | with_reducible refine w_lcR ?_ | with_reducible refine w_unr ?_ | with_reducible refine w_sFld ?_ | with_reducible refine w_tDGet ?_ | with_reducible refine w_tDIn ?_ | with_reducible refine w_tDNotIn ?_ | with_reducible refine w_sDPut ?_ | with_reducible refine w_bm ?_ | with_reducible refine w_bm0 ?_ | with_reducible refine whB ?_ | with_reducible refine w_augS ?_ | with_reducible refine w_pgS ?_ | with_reducible refine w_ipI ?_ | with_reducible refine w_sl ?_ | with_reducible refine w_part ?_ | with_reducible refine w_noPart ?_ | with_reducible refine w_par ?_ | with_reducible refine w_par3 ?_ | with_reducible refine w_one ?_ | with_reducible refine w_two ?_ | with_reducible refine w_three ?_ | with_reducible refine w_int1 ?_ | with_reducible refine w_star ?_ | with_reducible refine w_yes ?_ | with_reducible refine w_rabs ?_ | with_reducible refine w_rmin2 ?_ | with_reducible refine w_rmax2 ?_ | with_reducible refine w_rint1 ?_ | with_reducible refine w_forSeq ?_ | with_reducible refine if_nT ?_ | with_reducible refine if_nF ?_)
local macro_rules | `(tactic| walk_at "w") => `(tactic| repeat walk_at "w1")


section
variable {w : World} {K : PySem.W.Frag} {mg : Str → Option Value} {base : Heap}
theorem sc_is_integer : FnScope ns_is_integer ps_is_integer (defScope s_is_integer) := ⟨rfl, rfl, rfl, by decide +kernel, rfl, by decide +kernel, by decide +kernel⟩
def sp_is_integer : Sp := fun vs H Q _ => (∃ i : Int, vs = [.int i] ∧ Q (.bl true) H) ∨ (vs = [.non] ∧ Q (.bl false) H)
theorem ok_is_integer (T : Txt w K mg) : Has PP w K mg base d_is_integer 1 ps_is_integer sp_is_integer := by
  refine mkHas T.f_is_integer sc_is_integer (fun _ _ _ _ _ _ us hl => match us, hl with | [_], _ => rfl) (fun vs H Q E h => ?_) (fun cdv A outer s H vs Q E hr h => ⟨_, (pss_one (ps_ret (pe_and (pe_callB call_isi rfl T.n_isinstance (by kernel_rfl) (pa_cons (pv 0) (pa_cons (pe_bltn (v := .ty "int") rfl T.n_int boot_int rfl) pa_nil))) (pe_one (pe_not (pe_callB call_isi rfl T.n_isinstance (by kernel_rfl) (pa_cons (pv 0) (pa_cons (pe_bltn (v := .ty "bool") rfl T.n_bool boot_bool rfl) pa_nil)))))))), ?_⟩)
  · rcases h with ⟨i, rfl, _⟩ | ⟨rfl, _⟩ <;> rfl
  · rcases h with ⟨i, rfl, q⟩ | ⟨rfl, q⟩
    · walk_at "w"
      exact q
    · walk_at "w"
      exact q
theorem sc_is_between : FnScope ns_is_between ps_is_between (defScope s_is_between) := ⟨rfl, rfl, rfl, by decide +kernel, rfl, by decide +kernel, by decide +kernel⟩
def sp_is_between : Sp := fun vs H Q _ => ∃ i l h : Int, vs = [.int i, .int l, .int h] ∧ Q (.bl (decide (l ≤ i ∧ i ≤ h))) H
theorem ok_is_between (T : Txt w K mg) : Has PP w K mg base d_is_between 2 ps_is_between sp_is_between := by
  refine mkHas T.f_is_between sc_is_between (fun _ _ _ _ _ _ us hl => match us, hl with | [_, _, _], _ => rfl) (fun vs H Q E h => ?_) (fun cdv A outer s H vs Q E hr h => ⟨_, (pss_one (ps_ret (pe_and (cF (ok_is_integer T) (hr.mono (by decide)) T.g_is_integer (pa_cons (pv 0) pa_nil)) (pe_one (pe_chain op_le op_le (pv 1) (pv 0) (pv 2)))))), ?_⟩)
  · obtain ⟨i, l, h, rfl, _⟩ := h
    rfl
  · obtain ⟨i, l, h, rfl, q⟩ := h
    walk_at "w"
    refine .inl ⟨i, rfl, ?_⟩
    walk_at "w"
    refine if_d (fun c => ?_) (fun c => ?_)
    · walk_at "w"
      exact q_bl (by simp [c]) q
    · exact q_bl (by simp [c]) q
theorem sc_power_of : FnScope ns_power_of ps_power_of (defScope s_power_of) := ⟨rfl, rfl, rfl, by decide +kernel, rfl, by decide +kernel, by decide +kernel⟩
def sp_power_of : Sp := fun vs H Q _ => ∃ (b : Int) (n : Nat), vs = [.int b, .int n] ∧ (-(2 ^ 64) < b ∧ b < 2 ^ 64) ∧ n ≤ 1000 ∧ Q (.int (b ^ n)) H
theorem ok_power_of (T : Txt w K mg) : Has PP w K mg base d_power_of 1 ps_power_of sp_power_of := by
  refine mkHas T.f_power_of sc_power_of (fun _ _ _ _ _ _ us hl => match us, hl with | [_, _], _ => rfl) (fun vs H Q E h => ?_) (fun cdv A outer s H vs Q E hr h => ⟨_, (pss_cons (ps_set (i := 2) sc_power_of.nd rfl (Or.inl rfl) pe_int)
 (pss_cons (ps_for (passes_of rfl) rfl (pi_range1 rfl T.n_range (pa_cons (pv 1) pa_nil)) (pg_name (i := 3) sc_power_of.nd rfl (Or.inl rfl))
 (pss_one (ps_set (i := 2) sc_power_of.nd rfl (Or.inl rfl) (pe_op op_mul (pv 2) (pv 0)))))
 (pss_one (ps_ret (pv 2))))), ?_⟩)
  · obtain ⟨i, l, rfl, _⟩ := h
    rfl
  · obtain ⟨b, n, rfl, hb, hn, q⟩ := h
    walk_at "w"
    refine ⟨(n : Int), rfl, by omega, by omega, for_range (lo := 0) (n := (n : Int).toNat) (fun i σ H' => H' = H ∧ ∃ z r, σ = [some (.int b), some (.int n), some (.int r), z] ∧ r = b ^ i) ⟨rfl, _, _, rfl, (Int.pow_zero b).symm⟩ ?_ ?_⟩
    · rintro i σ H' hi ⟨rfl, z, r, rfl, rfl⟩
      walk_at "w"
      refine w_I (.inr hb) ?_
      walk_at "w"
      exact ⟨rfl, _, _, rfl, (Int.pow_succ b i).symm⟩
    · rintro σ H' ⟨rfl, z, r, rfl, rfl⟩
      walk_at "w"
      exact q
theorem sc_size_of : FnScope ns_size_of ps_size_of (defScope s_size_of) := ⟨rfl, rfl, rfl, by decide +kernel, rfl, by decide +kernel, by decide +kernel⟩
def sp_size_of : Sp := fun vs H Q _ => ∃ n : Nat, vs = [.int n] ∧ n ≤ 64 ∧ Q (.int (2 ^ n)) H
theorem ok_size_of (T : Txt w K mg) : Has PP w K mg base d_size_of 2 ps_size_of sp_size_of := by
  refine mkHas T.f_size_of sc_size_of (fun _ _ _ _ _ _ us hl => match us, hl with | [_], _ => rfl) (fun vs H Q E h => ?_) (fun cdv A outer s H vs Q E hr h => ⟨_, (pss_one (ps_ret (cF (ok_power_of T) (hr.mono (by decide)) T.g_power_of (pa_cons pe_int (pa_cons (pv 0) pa_nil))))), ?_⟩)
  · obtain ⟨i, rfl, _⟩ := h
    rfl
  · obtain ⟨n, rfl, hn, q⟩ := h
    walk_at "w"
    exact ⟨2, n, rfl, by decide, by omega, q⟩
end


section
variable {w : World} {K : PySem.W.Frag} {mg : Str → Option Value} {base : Heap}
def NAMES : List Str := ["a", "b", "cc"]
theorem name_in {z : Str} (h : z ∈ NAMES) : z.cps.size ≤ 2 ∧ 1 ≤ z.cps.size ∧ ∀ (i c : Nat), z.cps[i]? = some c → c ∈ (Str.ofString "abcdefghijklmnopqrstuvwxyz").cps.toList := by
  simp only [NAMES, List.mem_cons, List.not_mem_nil, or_false] at h
  rcases h with rfl | rfl | rfl
  · refine ⟨by decide, by decide, fun i c e => ?_⟩
    match i, e with
    | 0, e => cases (show some 97 = some c from e); decide +kernel
    | i + 1, e => cases (show none = some c from e)
  · refine ⟨by decide, by decide, fun i c e => ?_⟩
    match i, e with
    | 0, e => cases (show some 98 = some c from e); decide +kernel
    | i + 1, e => cases (show none = some c from e)
  · refine ⟨by decide, by decide, fun i c e => ?_⟩
    match i, e with
    | 0, e => cases (show some 99 = some c from e); decide +kernel
    | 1, e => cases (show some 99 = some c from e); decide +kernel
    | i + 2, e => cases (show none = some c from e)
theorem sc_is_name : FnScope ns_is_name ps_is_name (defScope s_is_name) := ⟨rfl, rfl, rfl, by decide +kernel, rfl, by decide +kernel, by decide +kernel⟩
def sp_is_name : Sp := fun vs H Q _ => ∃ z ∈ NAMES, vs = [.str z] ∧ ∀ H', Same H H' → Q (.bl true) H'
theorem ok_is_name (T : Txt w K mg) : Has PP w K mg base d_is_name 1 ps_is_name sp_is_name := by
  refine mkHas T.f_is_name sc_is_name (fun _ _ _ _ _ _ us hl => match us, hl with | [_], _ => rfl) (fun vs H Q E h => ?_) (fun cdv A outer s H vs Q E hr h => ⟨_, (pss_one (ps_ret (pe_and (pe_callB call_isi rfl T.n_isinstance (by kernel_rfl) (pa_cons (pv 0) (pa_cons (pe_bltn (v := .ty "str") rfl T.n_str boot_str rfl) pa_nil))) (pe_and (pe_chain op_le op_le pe_int (pe_callB ca_lenS rfl T.n_len PySem.boot_len (pa_cons (pv 0) pa_nil)) (pe_gi rfl T.c_MOST_LETTERS)) (pe_one (pe_callB (cr_all rfl) rfl T.n_all (by kernel_rfl) (pa_cons (pe_lc rfl sc_is_name.nd (pi_str (pv 0)) (blkOk_by (own := [("sign", 1)]) (N := ns_is_name) (sc := defScope s_is_name) (by decide +kernel)) (fun _ _ _ _ _ => pg_name (i := 1) sc_is_name.nd rfl (Or.inl rfl)) (fun _ _ _ _ _ => pts_nil) (fun _ _ _ _ _ => (pe_cmpR op_insign (pv 1) (pe_gs rfl T.c_LETTERS) rfl))) pa_nil))))))), ?_⟩)
  · obtain ⟨z, _, rfl, _⟩ := h
    rfl
  · obtain ⟨z, hz, rfl, q⟩ := h
    obtain ⟨h2, h1, hc⟩ := name_in hz
    walk_at "w"
    have hl : z.length = z.cps.size := rfl
    refine ⟨z, rfl, by rw [sizeLine_eq]; omega, ?_⟩
    walk_at "w"
    refine if_dT (by omega) ?_
    walk_at "w"
    refine if_dT (by show (z.length : Int) ≤ 8; omega) ?_
    walk_at "w"
    refine ⟨z, rfl, lc_map walk_str (fun i => List.replicate i (.bl true)) rfl (fun _ _ => trivial) (fun i x H1 H' D hi hD p y => ?_) (fun D H' s1 _ hl => ?_)⟩
    · obtain ⟨rfl, c, e, rfl⟩ := y
      refine ⟨rfl, ?_⟩
      walk_at "w"
      refine ⟨c, _, rfl, rfl, ?_⟩
      refine p.yes hD (Same.refl _) (by rw [List.length_replicate, sizeLine_eq]; omega) ?_
      rw [decide_eq_true (hc i c e)]
      exact List.replicate_succ'
    · refine ⟨D, List.replicate z.cps.size true, rfl, sqL (by rw [List.map_replicate]; exact hl), ?_⟩
      have e : (List.replicate z.cps.size true).all id = true := by simp
      rw [e]
      exact q _ s1
theorem sc_is_number : FnScope ns_is_number ps_is_number (defScope s_is_number) := ⟨rfl, rfl, rfl, by decide +kernel, rfl, by decide +kernel, by decide +kernel⟩
def sp_is_number : Sp := fun vs H Q _ => ∃ i : Int, vs = [.int i] ∧ Q (.bl (decide (-10 ^ 30 ≤ i ∧ i ≤ 10 ^ 30))) H
theorem ok_is_number (T : Txt w K mg) : Has PP w K mg base d_is_number 3 ps_is_number sp_is_number := by
  refine mkHas T.f_is_number sc_is_number (fun _ _ _ _ _ _ us hl => match us, hl with | [_], _ => rfl) (fun vs H Q E h => ?_) (fun cdv A outer s H vs Q E hr h => ⟨_, (pss_one (ps_ret (cF (ok_is_between T) (hr.mono (by decide)) T.g_is_between (pa_cons (pv 0) (pa_cons (pe_un un_neg (pe_gi rfl T.c_MOST_NUMBER)) (pa_cons (pe_gi rfl T.c_MOST_NUMBER) pa_nil)))))), ?_⟩)
  · obtain ⟨i, rfl, _⟩ := h
    rfl
  · obtain ⟨i, rfl, q⟩ := h
    walk_at "w"
    exact ⟨_, _, _, rfl, q⟩
/-- numbers that a rule can have -/
structure Nums (ns : List Int) : Prop where
  pos : 0 < ns.length
  le : ns.length ≤ 13
  ok : ∀ n ∈ ns, -10 ^ 30 ≤ n ∧ n ≤ 10 ^ 30
  last : ns.length > 1 → ns.getLast? ≠ some 0
theorem sc_check_numbers : FnScope ns_check_numbers ps_check_numbers (defScope s_check_numbers) := ⟨rfl, rfl, rfl, by decide +kernel, rfl, by decide +kernel, by decide +kernel⟩
def sp_check_numbers (K : PySem.W.Frag) : Sp := fun vs H Q _ => ∃ t ns, vs = [.ref t] ∧ SqT K H t (ns.map V.int) ∧ Nums ns ∧ ∀ H', Same H H' → Q .non H'
theorem ok_check_numbers (T : Txt w K mg) : Has PP w K mg base d_check_numbers 4 ps_check_numbers (sp_check_numbers K) := by
  refine mkHas T.f_check_numbers sc_check_numbers (fun _ _ _ _ _ _ us hl => match us, hl with | [_], _ => rfl) (fun vs H Q E h => ?_) (fun cdv A outer s H vs Q E hr h => ⟨_, (pss_cons (ps_if (PW.pt (pw_or (pt_not (pt_val (pe_callB call_isi rfl T.n_isinstance (by kernel_rfl) (pa_cons (pv 0) (pa_cons (pe_bltn (v := .ty "tuple") rfl T.n_tuple boot_tuple rfl) pa_nil))))) (pw_or1 (pt_cmpR (op_eqD hr.units) (pv 0) (pe_tup pa_nil) (nomark _))))) (pss_one ps_never) pss_nil)
 (pss_cons (ps_for (passes_of rfl) rfl (pi_enumT rfl T.n_enumerate (pa_cons (pv 0) pa_nil)) (pg_tup rfl (pgs_cons (pg_name (i := 1) sc_check_numbers.nd rfl (Or.inl rfl)) (pgs_cons (pg_name (i := 2) sc_check_numbers.nd rfl (Or.inl rfl)) pgs_nil)))
 (pss_one (ps_if (PW.pt (pw_or (pt_cmpR op_eq (pv 1) (pe_gi rfl T.c_MOST_NUMBERS) (nomark _)) (pw_or1 (pt_not (pt_val (cF (ok_is_number T) (hr.mono (by decide)) T.g_is_number (pa_cons (pv 2) pa_nil))))))) (pss_one ps_never) pss_nil)))
 (pss_one (ps_if (PW.pt (pw_and (pt_cmpR op_gt (pe_callB ca_len rfl T.n_len PySem.boot_len (pa_cons (pv 0) pa_nil)) pe_int (nomark _)) (pw_and1 (pt_cmpR op_eq (pe_ix (r := rIxT K) ix_tup (pv 0) (pe_un un_neg pe_int) (fun _ _ => rfl)) pe_int (nomark _))))) (pss_one ps_never) pss_nil)))), ?_⟩)
  · obtain ⟨t, ns, rfl, _⟩ := h
    rfl
  · obtain ⟨t, ns, rfl, ht, N, q⟩ := h
    walk_at "w"
    refine isi_tuple ht ?_
    walk_at "w"
    refine ⟨Nat.zero_le _, fun p hp => ?_⟩
    refine ⟨_, _, .tup ((sameU hp).tq ht) (dpInts ns), .tup sqTu .nil, shInts ns, shInts [], ?_⟩
    have e0 : PyData.eqv (.tuple (ns.map PyData.int)) (.tuple []) = false := by
      have := N.pos
      cases ns with
      | nil => exact absurd this (Nat.lt_irrefl 0)
      | cons n ns => rfl
    rw [e0]
    walk_at "w"
    have s0 : Same H (upd H p (.tup [])) := sameU hp
    refine ⟨t, _, rfl, s0.tq ht, for_enumT rfl (fun i σ H' => Same H H' ∧ ∃ a b, σ = [some (.ref t), a, b]) ⟨s0, _, _, rfl⟩ (fun i σ H' _ q => q.1.tq ht) ?_ ?_⟩
    · rintro k v σ H' p' hv ⟨s1, a, b, rfl⟩ hp'
      obtain ⟨z, hz, rfl⟩ := mapInt_at hv
      have hk : k < ns.length := (List.getElem?_eq_some_iff.mp hz).1
      have hm := N.ok z (List.mem_of_getElem? hz)
      have hle := N.le
      walk_at "w"
      refine if_dF (by omega) ?_
      walk_at "w"
      refine ⟨z, rfl, ?_⟩
      walk_at "w"
      refine if_dnF hm ?_
      walk_at "w"
      exact ⟨s1.u hp', _, _, rfl⟩
    · rintro σ H' ⟨s1, a, b, rfl⟩
      walk_at "w"
      refine w_rlenT (s1.tq ht) ?_
      walk_at "w"
      rw [List.length_map]
      refine if_d (fun c => ?_) (fun c => ?_)
      · obtain ⟨l, z, rfl⟩ : ∃ l z, ns = l ++ [z] := ⟨ns.dropLast, ns.getLast (fun e => by rw [e] at c; exact absurd c (by decide)), (List.dropLast_concat_getLast _).symm⟩
        have hz : z ≠ 0 := fun e => N.last (by omega) (by rw [e]; simp)
        walk_at "w"
        rw [List.map_append] at ht
        refine w_ixT (s1.tq ht) (atI_last _ _) ?_
        walk_at "w"
        refine if_dF hz ?_
        walk_at "w"
        exact q _ s1
      · walk_at "w"
        exact q _ s1
theorem sc_value_of : FnScope ns_value_of ps_value_of (defScope s_value_of) := ⟨rfl, rfl, rfl, by decide +kernel, rfl, by decide +kernel, by decide +kernel⟩
def valOf (ns : List Int) (x : Int) : Int := ns.foldr (fun n a => a * x + n) 0
theorem valOf_fold (ns : List Int) (x : Int) : valOf ns x = ns.reverse.foldl (fun a n => a * x + n) 0 := by rw [List.foldl_reverse]; rfl
def sp_value_of (K : PySem.W.Frag) : Sp := fun vs H Q _ => ∃ t ns x, vs = [.ref t, .int x] ∧ SqA K H t (ns.map V.int) ∧ (-(2 ^ 64) < x ∧ x < 2 ^ 64) ∧ ∀ H', Same H H' → Q (.int (valOf ns x)) H'
theorem ok_value_of (T : Txt w K mg) : Has PP w K mg base d_value_of 1 ps_value_of (sp_value_of K) := by
  refine mkHas T.f_value_of sc_value_of (fun _ _ _ _ _ _ us hl => match us, hl with | [_, _], _ => rfl) (fun vs H Q E h => ?_) (fun cdv A outer s H vs Q E hr h => ⟨_, (pss_cons (ps_set (i := 2) sc_value_of.nd rfl (Or.inl rfl) pe_int)
 (pss_cons (ps_for (passes_of rfl) rfl (pi_seq (pe_rev (pv 0))) (pg_name (i := 3) sc_value_of.nd rfl (Or.inl rfl))
 (pss_one (ps_set (i := 2) sc_value_of.nd rfl (Or.inl rfl) (pe_op op_add (pe_op op_mul (pv 2) (pv 1)) (pv 3)))))
 (pss_one (ps_ret (pv 2))))), ?_⟩)
  · obtain ⟨t, ns, x, rfl, _⟩ := h
    rfl
  · obtain ⟨t, ns, x, rfl, ht, hx, q⟩ := h
    rw [valOf_fold] at q
    walk_at "w"
    refine w_rev ht fun p H1 s1 hp => ⟨p, rfl, for_seq hp (fun i σ H' => Same H1 H' ∧ ∃ z, σ = [some (.ref t), some (.int x), some (.int ((ns.reverse.take i).foldl (fun a n => a * x + n) 0)), z]) ⟨Same.refl _, _, rfl⟩ (fun i σ H' q => q.1) ?_ ?_⟩
    · rintro i v σ H' hv ⟨s2, z, rfl⟩
      rw [← List.map_reverse] at hv
      obtain ⟨n, hn, rfl⟩ := mapInt_at hv
      walk_at "w"
      refine w_I (.inr hx) ?_
      walk_at "w"
      refine ⟨s2, some (.int n), ?_⟩
      rw [take_at hn, List.foldl_append]
      rfl
    · rintro σ H' ⟨s2, z, rfl⟩
      rw [← List.map_reverse, List.length_map, List.take_length]
      walk_at "w"
      exact q _ (s1.trans s2)
end


section
variable {w : World} {K : PySem.W.Frag} {mg : Str → Option Value} {base : Heap}
theorem sc_check_bits : FnScope ns_check_bits ps_check_bits (defScope s_check_bits) := ⟨rfl, rfl, rfl, by decide +kernel, rfl, by decide +kernel, by decide +kernel⟩
def sp_check_bits : Sp := fun vs H Q _ => ∃ b : Int, vs = [.int b, .int 64] ∧ (1 ≤ b ∧ b ≤ 64) ∧ Q .non H
theorem ok_check_bits (T : Txt w K mg) : HasA PP w K mg base (He.fAd K d_check_bits.at_) 3 ps_check_bits [.int 64] sp_check_bits := by
  refine mkHasD T.f_check_bits sc_check_bits 1 (by simp) rfl (fun T kV doc pm an cdv ct us its h1 h2 => match us, its, h1, h2 with | [_], [_], _, _ => ⟨_, rfl, rfl⟩) (fun vs H Q E h => ?_) (fun cdv A outer s H vs Q E hr h => ⟨_, (pss_one (ps_if (pt_not (pt_val (cF (ok_is_between T) (hr.mono (by decide)) T.g_is_between (pa_cons (pv 0) (pa_cons pe_int (pa_cons (pv 1) pa_nil)))))) (pss_one ps_never) pss_nil)), ?_⟩)
  · obtain ⟨i, rfl, _⟩ := h
    rfl
  · obtain ⟨i, rfl, hi, q⟩ := h
    walk_at "w"
    refine ⟨_, _, _, rfl, ?_⟩
    walk_at "w"
    refine if_dnF hi ?_
    walk_at "w"
    exact q
theorem sc_check_word : FnScope ns_check_word ps_check_word (defScope s_check_word) := ⟨rfl, rfl, rfl, by decide +kernel, rfl, by decide +kernel, by decide +kernel⟩
def sp_check_word : Sp := fun vs H Q _ => ∃ (x : Int) (n : Nat), vs = [.int x, .int n] ∧ n ≤ 64 ∧ (0 ≤ x ∧ x < 2 ^ n) ∧ Q .non H
theorem ok_check_word (T : Txt w K mg) : Has PP w K mg base d_check_word 3 ps_check_word sp_check_word := by
  refine mkHas T.f_check_word sc_check_word (fun _ _ _ _ _ _ us hl => match us, hl with | [_, _], _ => rfl) (fun vs H Q E h => ?_) (fun cdv A outer s H vs Q E hr h => ⟨_, (pss_one (ps_if (pt_not (pt_val (cF (ok_is_between T) (hr.mono (by decide)) T.g_is_between (pa_cons (pv 0) (pa_cons pe_int (pa_cons (pe_op op_sub (cF (ok_size_of T) (hr.mono (by decide)) T.g_size_of (pa_cons (pv 1) pa_nil)) pe_int) pa_nil)))))) (pss_one ps_never) pss_nil)), ?_⟩)
  · obtain ⟨i, n, rfl, _⟩ := h
    rfl
  · obtain ⟨x, n, rfl, hn, hx, q⟩ := h
    walk_at "w"
    refine ⟨n, rfl, hn, ?_⟩
    walk_at "w"
    refine ⟨_, _, _, rfl, ?_⟩
    walk_at "w"
    refine if_dnF (by omega) ?_
    walk_at "w"
    exact q
theorem sc_Rule_init : FnScope ns_Rule_init ps_Rule_init (defScope s_Rule_init) := ⟨rfl, rfl, rfl, by decide +kernel, rfl, by decide +kernel, by decide +kernel⟩
def sp_Rule_init (K : PySem.W.Frag) : Sp := fun vs H Q _ => ∃ x t ns dx, vs = [.ref x, .ref t] ∧ H x = some (.ins (He.ga K "Rule") dx []) ∧ SqT K H t (ns.map V.int) ∧ Nums ns ∧ ∀ H', (∀ b o, b ≠ x → H b = some o → H' b = some o) → H' x = some (.ins (He.ga K "Rule") dx [("row", .ref t)]) → Q .non H'
theorem ok_Rule_init (T : Txt w K mg) : Has PP w K mg base d_Rule_init 5 ps_Rule_init (sp_Rule_init K) := by
  refine mkHas T.f_Rule_init sc_Rule_init (fun _ _ _ _ _ _ us hl => match us, hl with | [_, _], _ => rfl) (fun vs H Q E h => ?_) (fun cdv A outer s H vs Q E hr h => ⟨_, (pss_cons (ps_expr (cF (ok_check_numbers T) (hr.mono (by decide)) T.g_check_numbers (pa_cons (pv 1) pa_nil)))
 (pss_one (ps_fld (pv 0) (pv 1) rfl))), ?_⟩)
  · obtain ⟨x, t, ns, dx, rfl, _⟩ := h
    rfl
  · obtain ⟨x, t, ns, dx, rfl, hx, ht, N, q⟩ := h
    walk_at "w"
    refine ⟨t, ns, rfl, ht, N, fun H' s1 => ?_⟩
    walk_at "w"
    refine w_setF (s1 _ _ hx) T.clR T.na_row (by decide) ?_
    exact q _ (fun b o hb e => by rw [upd_ne hb]; exact s1 b o e) upd_same
/-- Rule(t) -/
theorem w_mkRule {σ : L2.St} {H : Hp} {Q : VK} {E : XK} {t : Addr} {ns : List Int} (ht : SqT K H t (ns.map V.int)) (N : Nums ns) (q : ∀ r H', H r = none → Same H H' → IsRule K H' r ns → Q (.ref r) H') : rMake (He.ga K "Rule") (sp_Rule_init K) [] E [.ref t] H Q := by
  intro x dx hx hdx hne
  have hx' : (upd H dx (.own x)) x = none := by rw [upd_ne (Ne.symm hne)]; exact hx
  have s1 : Same H (upd (upd H dx (.own x)) x (.ins (He.ga K "Rule") dx [])) := (sameU hdx).u hx'
  refine ⟨x, t, ns, dx, rfl, upd_same, s1.tq ht, N, fun H' k h => ⟨rfl, ?_⟩⟩
  have s2 : Same H H' := fun b o e => k b o (ne_of_none e hx) (s1 b o e)
  exact q x H' hx s2 ⟨dx, t, h, s2.tq ht⟩
theorem sc_Rule_numbers : FnScope ns_Rule_numbers ps_Rule_numbers (defScope s_Rule_numbers) := ⟨rfl, rfl, rfl, by decide +kernel, rfl, by decide +kernel, by decide +kernel⟩
def sp_Rule_numbers (K : PySem.W.Frag) : Sp := fun vs H Q _ => ∃ r dx t, vs = [.ref r] ∧ H r = some (.ins (He.ga K "Rule") dx [("row", .ref t)]) ∧ Q (.ref t) H
theorem ok_Rule_numbers (T : Txt w K mg) : HasA PP w K mg base (gAd K d_Rule_numbers) 1 ps_Rule_numbers [] (sp_Rule_numbers K) := by
  refine mkHas T.f_Rule_numbers sc_Rule_numbers (fun _ _ _ _ _ _ us hl => match us, hl with | [_], _ => rfl) (fun vs H Q E h => ?_) (fun cdv A outer s H vs Q E hr h => ⟨_, (pss_one (ps_ret (pe_fld (pv 0) rfl))), ?_⟩)
  · obtain ⟨x, dx, t, rfl, _⟩ := h
    rfl
  · obtain ⟨r, dx, t, rfl, hx, q⟩ := h
    walk_at "w"
    exact w_attr hx T.clR T.na_row rfl q
/-- r.numbers -/
theorem w_numbers {H : Hp} {Q : VK} {E : XK} {r : Addr} {ns : List Int} (h : IsRule K H r ns) (q : ∀ t, SqT K H t (ns.map V.int) → Q (.ref t) H) : rProp (He.ga K "Rule") (sp_Rule_numbers K) [] E (.ref r) H Q := by
  obtain ⟨dx, t, h1, h2⟩ := h
  exact ⟨r, dx, _, rfl, h1, r, dx, t, rfl, h1, q t h2⟩
/-- the word behind a word -/
def nx (ns : List Int) (n : Nat) (x : Int) : Int := valOf ns x % 2 ^ n
theorem pow_pos2 (n : Nat) : (0 : Int) < 2 ^ n := Int.pow_pos (by decide)
theorem pow_le64 {n : Nat} (h : n ≤ 64) : (2 : Int) ^ n ≤ 2 ^ 64 := two_pow_le h
theorem sc_Rule_next_of : FnScope ns_Rule_next_of ps_Rule_next_of (defScope s_Rule_next_of) := ⟨rfl, rfl, rfl, by decide +kernel, rfl, by decide +kernel, by decide +kernel⟩
def sp_Rule_next_of (K : PySem.W.Frag) : Sp := fun vs H Q _ => ∃ (r : Addr) (ns : List Int) (n : Nat) (x : Int), vs = [.ref r, .int n, .int x] ∧ IsRule K H r ns ∧ n ≤ 64 ∧ (0 ≤ x ∧ x < 2 ^ n) ∧ ∀ H', Same H H' → Q (.int (nx ns n x)) H'
theorem ok_Rule_next_of (T : Txt w K mg) : Has PP w K mg base d_Rule_next_of 3 ps_Rule_next_of (sp_Rule_next_of K) := by
  refine mkHas T.f_Rule_next_of sc_Rule_next_of (fun _ _ _ _ _ _ us hl => match us, hl with | [_, _, _], _ => rfl) (fun vs H Q E h => ?_) (fun cdv A outer s H vs Q E hr h => ⟨_, (pss_one (ps_ret (pe_op op_mod (cF (ok_value_of T) (hr.mono (by decide)) T.g_value_of (pa_cons (pe_fld (pv 0) rfl) (pa_cons (pv 2) pa_nil))) (cF (ok_size_of T) (hr.mono (by decide)) T.g_size_of (pa_cons (pv 1) pa_nil))))), ?_⟩)
  · obtain ⟨r, ns, n, x, rfl, _⟩ := h
    rfl
  · obtain ⟨r, ns, n, x, rfl, ⟨dx, t, h1, h2⟩, hn, hx, q⟩ := h
    walk_at "w"
    refine w_attr h1 T.clR T.na_row rfl ?_
    walk_at "w"
    have := pow_le64 hn
    refine ⟨t, ns, x, rfl, .inl h2, by omega, fun H' s1 => ?_⟩
    walk_at "w"
    refine ⟨n, rfl, hn, ?_⟩
    exact w_I (pow_pos2 n) (q _ s1)
theorem sc_check_rule : FnScope ns_check_rule ps_check_rule (defScope s_check_rule) := ⟨rfl, rfl, rfl, by decide +kernel, rfl, by decide +kernel, by decide +kernel⟩
def sp_check_rule (K : PySem.W.Frag) : Sp := fun vs H Q _ => ∃ r ns, vs = [.ref r] ∧ IsRule K H r ns ∧ Q .non H
theorem ok_check_rule (T : Txt w K mg) : Has PP w K mg base d_check_rule 1 ps_check_rule (sp_check_rule K) := by
  refine mkHas T.f_check_rule sc_check_rule (fun _ _ _ _ _ _ us hl => match us, hl with | [_], _ => rfl) (fun vs H Q E h => ?_) (fun cdv A outer s H vs Q E hr h => ⟨_, (pss_one (ps_if (pt_not (pt_val (pe_callB call_isi rfl T.n_isinstance (by kernel_rfl) (pa_cons (pv 0) (pa_cons (pe_gr rfl T.g_Rule) pa_nil))))) (pss_one ps_never) pss_nil)), ?_⟩)
  · obtain ⟨r, ns, rfl, _⟩ := h
    rfl
  · obtain ⟨r, ns, rfl, ⟨dx, t, h1, _⟩, q⟩ := h
    walk_at "w"
    refine T.isR h1 ?_
    walk_at "w"
    exact q
end


section
variable {w : World} {K : PySem.W.Frag} {mg : Str → Option Value} {base : Heap}
theorem sc_round_by : FnScope ns_round_by ps_round_by (defScope s_round_by) := ⟨rfl, rfl, rfl, by decide +kernel, rfl, by decide +kernel, by decide +kernel⟩
def sp_round_by (K : PySem.W.Frag) : Sp := fun vs H Q _ => ∃ (r t : Addr) (ns : List Int) (n : Nat) (x : Int), vs = [.ref r, .int (2 ^ n), .int x] ∧ SqL K H r [.ref t] ∧ SqT K H t (ns.map V.int) ∧ n ≤ 64 ∧ (0 ≤ x ∧ x < 2 ^ n) ∧ ∀ H', Same H H' → Q (.int (nx ns n x)) H'
theorem ok_round_by (T : Txt w K mg) : Has PP w K mg base d_round_by 2 ps_round_by (sp_round_by K) := by
  refine mkHas T.f_round_by sc_round_by (fun _ _ _ _ _ _ us hl => match us, hl with | [_, _, _], _ => rfl) (fun vs H Q E h => ?_) (fun cdv A outer s H vs Q E hr h => ⟨_, (pss_cons (ps_for (passes_of rfl) rfl (pi_list (pv 0)) (pg_name (i := 3) sc_round_by.nd rfl (Or.inl rfl))
 (pss_one (ps_set (i := 2) sc_round_by.nd rfl (Or.inl rfl) (pe_op op_mod (cF (ok_value_of T) (hr.mono (by decide)) T.g_value_of (pa_cons (pv 3) (pa_cons (pv 2) pa_nil))) (pv 1)))))
 (pss_one (ps_ret (pv 2)))), ?_⟩)
  · obtain ⟨r, t, ns, n, x, rfl, _⟩ := h
    rfl
  · obtain ⟨r, t, ns, n, x, rfl, h1, h2, hn, hx, q⟩ := h
    have := pow_le64 hn
    walk_at "w"
    refine ⟨r, rfl, ⟨_, h1⟩, for_oneL h1 ?_⟩
    walk_at "w"
    refine ⟨t, ns, x, rfl, .inl h2, by omega, fun H' s1 => ?_⟩
    walk_at "w"
    refine w_I (pow_pos2 n) ?_
    walk_at "w"
    refine ⟨s1.sq h1, ?_⟩
    walk_at "w"
    exact q _ s1
theorem sc_product : FnScope ns_product ps_product (defScope s_product) := ⟨rfl, rfl, rfl, by decide +kernel, rfl, by decide +kernel, by decide +kernel⟩
def sp_product (K : PySem.W.Frag) : Sp := fun vs H Q _ => ∃ (a b : Addr) (c d s : Int), vs = [.ref a, .ref b, .int s] ∧ SqL K H a [.int c] ∧ SqL K H b [.int d] ∧ (0 < s ∧ s ≤ 2 ^ 32) ∧ (0 ≤ d ∧ d < 2 ^ 32) ∧ ∀ p H', Same H H' → H' p = some (.lst [.int (c * d % s)]) → Q (.ref p) H'
theorem ok_product (T : Txt w K mg) : Has PP w K mg base d_product 1 ps_product (sp_product K) := by
  refine mkHas T.f_product sc_product (fun _ _ _ _ _ _ us hl => match us, hl with | [_, _, _], _ => rfl) (fun vs H Q E h => ?_) (fun cdv A outer s H vs Q E hr h => ⟨_, (pss_cons (ps_setLc (i := 3) rfl sc_product.nd rfl rfl (sw_true rfl rfl rfl (by decide +kernel)) (pi_list (pv 0)) (blkOk_by (own := [("number", 4)]) (N := ns_product) (sc := defScope s_product) (by decide +kernel)) (fun _ _ _ _ _ => pg_name (i := 4) sc_product.nd rfl (Or.inl rfl)) (fun _ _ _ _ _ => pts_nil) (fun _ _ _ _ _ => pe_int))
 (pss_cons (ps_for (passes_of rfl) rfl (pi_enum rfl T.n_enumerate (pa_cons (pv 0) pa_nil)) (pg_tup rfl (pgs_cons (pg_name (i := 5) sc_product.nd rfl (Or.inl rfl)) (pgs_cons (pg_name (i := 4) sc_product.nd rfl (Or.inl rfl)) pgs_nil)))
 (pss_one (ps_for (passes_of rfl) rfl (pi_range1 rfl T.n_range (pa_cons (pe_op op_sub (pe_callB ca_len rfl T.n_len PySem.boot_len (pa_cons (pv 0) pa_nil)) (pv 5)) pa_nil)) (pg_name (i := 6) sc_product.nd rfl (Or.inl rfl))
 (pss_one (ps_augS (pv 3) (pe_op op_add (pv 5) (pv 6)) pg_getL (pe_op op_mul (pv 4) (pe_ix (r := rIxL K) ix_list (pv 1) (pv 6) (fun _ _ => rfl))) ip_add set_list)))))
 (pss_one (ps_ret (pe_lc rfl sc_product.nd (pi_list (pv 3)) (blkOk_by (own := [("number", 4)]) (N := ns_product) (sc := defScope s_product) (by decide +kernel)) (fun _ _ _ _ _ => pg_name (i := 4) sc_product.nd rfl (Or.inl rfl)) (fun _ _ _ _ _ => pts_nil) (fun _ _ _ _ _ => (pe_op op_mod (pv 4) (pv 2)))))))), ?_⟩)
  · obtain ⟨a, b, c, d, s, rfl, _⟩ := h
    rfl
  · obtain ⟨a, b, c, d, s, rfl, h1, h2, hs, hd, q⟩ := h
    walk_at "w"
    refine ⟨a, rfl, ⟨_, h1⟩, lc_oneL h1 fun D hD => ⟨rfl, ?_⟩⟩
    walk_at "w"
    refine lc1 hD (Same.refl _) ?_
    walk_at "w"
    rw [upd_upd]
    have s1 : Same H (upd H D (.lst [.int 0])) := sameU hD
    refine ⟨a, _, rfl, s1.sq h1, for_oneE rfl (s1.sq h1) fun T hT => ?_⟩
    have s2 := s1.u (o := .tup [.int 0, .int c]) hT
    have hD2 : (upd (upd H D (.lst [.int 0])) T (.tup [.int 0, .int c])) D = some (.lst [.int 0]) := by rw [upd_ne (ne_of_none upd_same hT)]; exact upd_same
    walk_at "w"
    refine w_rlenL (s2.sq h1) ?_
    walk_at "w"
    refine ⟨_, rfl, by show -(2 ^ 62) ≤ ((1 : Nat) : Int) - 0; decide, by show ((1 : Nat) : Int) - 0 < 2 ^ 62; decide, for_oneR rfl ?_⟩
    walk_at "w"
    refine w_ixL (sqL hD2) rfl ?_
    walk_at "w"
    refine w_ixL (s2.sq h2) rfl ?_
    walk_at "w"
    refine w_I (.inr (by omega)) ?_
    walk_at "w"
    refine w_setL hD2 rfl ⟨trivial, ?_⟩
    have s3 : Same H (upd (upd (upd H D (.lst [.int 0])) T (.tup [.int 0, .int c])) D (.lst [.int (0 + c * d)])) := s2.w hD
    refine ⟨s3.sq h1, ?_⟩
    walk_at "w"
    refine ⟨D, rfl, ⟨_, sqLu⟩, lc_oneL sqLu fun D2 hD2 => ⟨rfl, ?_⟩⟩
    walk_at "w"
    refine w_I hs.1 ?_
    refine lc1 hD2 (Same.refl _) ?_
    refine q D2 _ ((s3.u hD2).w (s3.free hD2)) ?_
    rw [show 0 + c * d = c * d from Int.zero_add _]
    exact upd_same
/-- one sum of powers at a number, rest by rest -/
theorem fold_mod (c s : Int) (hs : 0 < s) : ∀ (l : List Int) (a b : Int), a = b % s → l.foldl (fun a n => ((a * c) % s + n) % s) a = (l.foldl (fun a n => a * c + n) b) % s
  | [], a, b, h => h
  | n :: l, a, b, h => by
    refine fold_mod c s hs l _ _ ?_
    show ((a * c) % s + n) % s = (b * c + n) % s
    rw [h, Int.add_emod, Int.add_emod (b * c), Int.emod_emod, Int.mul_emod (b % s), Int.emod_emod, ← Int.mul_emod]
theorem sc_put_into : FnScope ns_put_into ps_put_into (defScope s_put_into) := ⟨rfl, rfl, rfl, by decide +kernel, rfl, by decide +kernel, by decide +kernel⟩
def sp_put_into (K : PySem.W.Frag) : Sp := fun vs H Q _ => ∃ (t a : Addr) (ns : List Int) (c s : Int), vs = [.ref t, .ref a, .int s] ∧ SqA K H t (ns.map V.int) ∧ SqL K H a [.int c] ∧ (0 < s ∧ s ≤ 2 ^ 32) ∧ (0 ≤ c ∧ c < 2 ^ 32) ∧ ∀ p H', Same H H' → H' p = some (.lst [.int (valOf ns c % s)]) → Q (.ref p) H'
theorem ok_put_into (T : Txt w K mg) : Has PP w K mg base d_put_into 2 ps_put_into (sp_put_into K) := by
  refine mkHas T.f_put_into sc_put_into (fun _ _ _ _ _ _ us hl => match us, hl with | [_, _, _], _ => rfl) (fun vs H Q E h => ?_) (fun cdv A outer s H vs Q E hr h => ⟨_, (pss_cons (ps_setLc (i := 3) rfl sc_put_into.nd rfl rfl (sw_true rfl rfl rfl (by decide +kernel)) (pi_list (pv 1)) (blkOk_by (own := [("number", 4)]) (N := ns_put_into) (sc := defScope s_put_into) (by decide +kernel)) (fun _ _ _ _ _ => pg_name (i := 4) sc_put_into.nd rfl (Or.inl rfl)) (fun _ _ _ _ _ => pts_nil) (fun _ _ _ _ _ => pe_int))
 (pss_cons (ps_for (passes_of rfl) rfl (pi_seq (pe_rev (pv 0))) (pg_name (i := 4) sc_put_into.nd rfl (Or.inl rfl))
 (pss_cons (ps_set (i := 5) sc_put_into.nd rfl (Or.inl rfl) (cF (ok_product T) (hr.mono (by decide)) T.g_product (pa_cons (pv 3) (pa_cons (pv 1) (pa_cons (pv 2) pa_nil)))))
 (pss_one (ps_set (i := 3) sc_put_into.nd rfl (Or.inl rfl) (pe_lst (pa_cons (pe_op op_mod (pe_op op_add (pe_ix (r := rIxL K) ix_list (pv 5) pe_int (fun _ _ => rfl)) (pv 4)) (pv 2)) (StX.pa_star (pe_slice sl_list (pv 5) (po_some pe_int) po_none) pa_nil)))))))
 (pss_one (ps_ret (pv 3))))), ?_⟩)
  · obtain ⟨t, a, ns, c, s, rfl, _⟩ := h
    rfl
  · obtain ⟨t, a, ns, c, s, rfl, h1, h2, hs, hc, q⟩ := h
    walk_at "w"
    refine ⟨a, rfl, ⟨_, h2⟩, lc_oneL h2 fun D hD => ⟨rfl, ?_⟩⟩
    walk_at "w"
    refine lc1 hD (Same.refl _) ?_
    walk_at "w"
    rw [upd_upd]
    have s1 : Same H (upd H D (.lst [.int 0])) := sameU hD
    refine w_rev (s1.aq h1) fun p H1 s2 hp => ⟨p, rfl, for_seq hp (fun i σ H' => Same H1 H' ∧ ∃ f z y, σ = [some (.ref t), some (.ref a), some (.int s), some (.ref f), z, y] ∧ H' f = some (.lst [.int ((ns.reverse.take i).foldl (fun a n => ((a * c) % s + n) % s) 0)])) ⟨Same.refl _, D, _, _, rfl, s2 _ _ upd_same⟩ (fun i σ H' q => q.1) ?_ ?_⟩
    · rintro i v σ H' hv ⟨s3, f, z, y, rfl, hf⟩
      rw [← List.map_reverse] at hv
      obtain ⟨n, hn, rfl⟩ := mapInt_at hv
      have s4 := (s1.trans s2).trans s3
      walk_at "w"
      refine ⟨f, a, _, c, s, rfl, sqL hf, s4.sq h2, hs, hc, fun g H2 s5 hg => ?_⟩
      walk_at "w"
      refine w_ixL (sqL hg) rfl ?_
      walk_at "w"
      refine w_I hs.1 ?_
      walk_at "w"
      refine w_slL (sqL hg) fun l hl => ?_
      refine ⟨l, _, rfl, .inr sqLu, ?_⟩
      walk_at "w"
      refine ⟨by show 1 ≤ sizeLine; rw [sizeLine_eq]; decide, fun f2 hf2 => ⟨(s3.trans (s5.u hl)).u hf2, f2, _, _, rfl, ?_⟩⟩
      rw [upd_same, take_at hn, List.foldl_append]
      rfl
    · rintro σ H' ⟨s3, f, z, y, rfl, hf⟩
      rw [← List.map_reverse, List.length_map, List.take_length] at hf
      walk_at "w"
      refine q f _ ((s1.trans s2).trans s3) ?_
      rw [hf, fold_mod c s hs.1 _ 0 0 (by simp), ← valOf_fold]
theorem sc_part_of : FnScope ns_part_of ps_part_of (defScope s_part_of) := ⟨rfl, rfl, rfl, by decide +kernel, rfl, by decide +kernel, by decide +kernel⟩
def sp_part_of : Sp := fun vs H Q _ => ∃ n : Nat, vs = [.int n] ∧ n ≤ 6 ∧ Q (.int (2 ^ n)) H
theorem ok_part_of (T : Txt w K mg) : Has PP w K mg base d_part_of 3 ps_part_of sp_part_of := by
  refine mkHas T.f_part_of sc_part_of (fun _ _ _ _ _ _ us hl => match us, hl with | [_], _ => rfl) (fun vs H Q E h => ?_) (fun cdv A outer s H vs Q E hr h => ⟨_, (pss_one (ps_ret (cF (ok_size_of T) (hr.mono (by decide)) T.g_size_of (pa_cons (pe_callB (ca_min2 rfl) rfl T.n_min (by kernel_rfl) (pa_cons (pv 0) (pa_cons (pe_gi rfl T.c_LOW) pa_nil))) pa_nil)))), ?_⟩)
  · obtain ⟨n, rfl, _⟩ := h
    rfl
  · obtain ⟨n, rfl, hn, q⟩ := h
    walk_at "w"
    rw [if_neg (show ¬ ((6 : Int) < (n : Int)) by omega)]
    exact ⟨n, rfl, by omega, q⟩
end


def itn (ns : List Int) (n : Nat) : Nat → Int → Int
  | 0, x => x
  | k + 1, x => nx ns n (itn ns n k x)
theorem nx_range (ns : List Int) (n : Nat) (x : Int) : 0 ≤ nx ns n x ∧ nx ns n x < 2 ^ n := ⟨Int.emod_nonneg _ (by have := pow_pos2 n; omega), Int.emod_lt_of_pos _ (pow_pos2 n)⟩
theorem itn_range {ns : List Int} {n : Nat} {x : Int} (h : 0 ≤ x ∧ x < 2 ^ n) : ∀ k, 0 ≤ itn ns n k x ∧ itn ns n k x < 2 ^ n
  | 0 => h
  | k + 1 => nx_range ..
/-- the words from x on: L of them, then the j-th again -/
structure Cyc (ns : List Int) (n : Nat) (x : Int) (L j : Nat) : Prop where
  lt : j < L
  inj : ∀ a b, a < b → b < L → itn ns n a x ≠ itn ns n b x
  back : itn ns n L x = itn ns n j x
  le : L ≤ 32
theorem Cyc.per {ns : List Int} {n : Nat} {x : Int} {L j : Nat} (c : Cyc ns n x L j) : ∀ k, itn ns n (L + k) x = itn ns n (j + k) x
  | 0 => c.back
  | k + 1 => by show nx ns n (itn ns n (L + k) x) = nx ns n (itn ns n (j + k) x); rw [c.per k]
theorem Cyc.per' {ns : List Int} {n : Nat} {x : Int} {L j : Nat} (c : Cyc ns n x L j) : ∀ (q k : Nat), itn ns n (j + k + q * (L - j)) x = itn ns n (j + k) x
  | 0, k => by rw [Nat.zero_mul, Nat.add_zero]
  | q + 1, k => by
    have h := c.lt
    have e : j + k + (q + 1) * (L - j) = L + (k + q * (L - j)) := by rw [Nat.succ_mul]; omega
    rw [e, c.per, ← Nat.add_assoc]
    exact c.per' q k
/-- the words far on -/
theorem Cyc.far {ns : List Int} {n : Nat} {x : Int} {L j : Nat} (c : Cyc ns n x L j) (m : Nat) (h : L ≤ m) : itn ns n m x = itn ns n (L + (m - L) % (L - j)) x := by
  have h0 := c.lt
  rw [c.per]
  have h1 := Nat.div_add_mod (m - L) (L - j)
  have e : m = L + (((m - L) % (L - j)) + ((m - L) / (L - j)) * (L - j)) := by rw [Nat.mul_comm] at h1; omega
  rw [show itn ns n m x = itn ns n (L + (((m - L) % (L - j)) + ((m - L) / (L - j)) * (L - j))) x from by rw [← e], c.per, ← Nat.add_assoc, c.per']
theorem itn_add (ns : List Int) (n : Nat) (x : Int) (b : Nat) : ∀ a, itn ns n a (itn ns n b x) = itn ns n (b + a) x
  | 0 => rfl
  | a + 1 => by show nx ns n (itn ns n a (itn ns n b x)) = nx ns n (itn ns n (b + a) x); rw [itn_add ns n x b a]
theorem Cyc.hop {ns : List Int} {n : Nat} {x : Int} {L j : Nat} (c : Cyc ns n x L j) : (itn ns n (L - j) (itn ns n L x) - itn ns n L x) / 2 ^ n = 0 := by
  have h := c.lt
  rw [itn_add, c.per, show j + (L - j) = L from by omega, Int.sub_self, Int.zero_ediv]
section
variable {w : World} {K : PySem.W.Frag} {mg : Str → Option Value} {base : Heap}
theorem sc_hop_of : FnScope ns_hop_of ps_hop_of (defScope s_hop_of) := ⟨rfl, rfl, rfl, by decide +kernel, rfl, by decide +kernel, by decide +kernel⟩
def sp_hop_of (K : PySem.W.Frag) : Sp := fun vs H Q _ => ∃ (r t : Addr) (ns : List Int) (n : Nat) (x : Int) (m : Nat), vs = [.ref r, .int n, .int x, .int m] ∧ SqL K H r [.ref t] ∧ SqT K H t (ns.map V.int) ∧ (1 ≤ n ∧ n ≤ 6) ∧ (0 ≤ x ∧ x < 2 ^ n) ∧ m ≤ 1000 ∧
  ∀ p H', Same H H' → H' p = some (.lst [.int ((itn ns n m x - x) / 2 ^ n)]) → Q (.ref p) H'
theorem ok_hop_of (T : Txt w K mg) : Has PP w K mg base d_hop_of 4 ps_hop_of (sp_hop_of K) := by
  refine mkHas T.f_hop_of sc_hop_of (fun _ _ _ _ _ _ us hl => match us, hl with | [_, _, _, _], _ => rfl) (fun vs H Q E h => ?_) (fun cdv A outer s H vs Q E hr h => ⟨_, (pss_cons (ps_asg (pe_tup (pa_cons (cF (ok_size_of T) (hr.mono (by decide)) T.g_size_of (pa_cons (pv 1) pa_nil)) (pa_cons (cF (ok_part_of T) (hr.mono (by decide)) T.g_part_of (pa_cons (pv 1) pa_nil)) pa_nil))) (pg_tup rfl (pgs_cons (pg_name (i := 4) sc_hop_of.nd rfl (Or.inl rfl)) (pgs_cons (pg_name (i := 5) sc_hop_of.nd rfl (Or.inr rfl)) pgs_nil))))
 (pss_cons (ps_set (i := 6) sc_hop_of.nd rfl (Or.inl rfl) (pe_op op_fdiv (pe_op op_sub (pe_op op_add (pv 1) (pe_gi rfl T.c_LOW)) pe_int) (pe_gi rfl T.c_LOW)))
 (pss_cons (ps_set (i := 7) sc_hop_of.nd rfl (Or.inl rfl) (pe_slice sl_list (pe_lst (pa_cons (pv 2) (pa_cons (pv 5) (StX.pa_star (pe_lc rfl sc_hop_of.nd (pi_range1 rfl T.n_range (pa_cons (pv 6) pa_nil)) (blkOk_by (own := [("power", 8)]) (N := ns_hop_of) (sc := defScope s_hop_of) (by decide +kernel)) (fun _ _ _ _ _ => pg_name (i := 8) sc_hop_of.nd rfl (Or.inl rfl)) (fun _ _ _ _ _ => pts_nil) (fun _ _ _ _ _ => pe_int)) pa_nil)))) po_none (po_some (pv 6))))
 (pss_cons (ps_for (passes_of rfl) rfl (pi_range1 rfl T.n_range (pa_cons (pv 3) pa_nil)) (pg_name (i := 9) sc_hop_of.nd rfl (Or.inl rfl))
 (pss_one (ps_for (passes_of rfl) rfl (pi_list (pv 0)) (pg_name (i := 10) sc_hop_of.nd rfl (Or.inl rfl))
 (pss_one (ps_set (i := 7) sc_hop_of.nd rfl (Or.inl rfl) (cF (ok_put_into T) (hr.mono (by decide)) T.g_put_into (pa_cons (pv 10) (pa_cons (pv 7) (pa_cons (pv 4) pa_nil)))))))))
 (pss_one (ps_ret (pe_lst (pa_cons (pe_op op_fdiv (pe_op op_sub (pe_ix (r := rIxL K) ix_list (pv 7) pe_int (fun _ _ => rfl)) (pv 2)) (pv 5)) (StX.pa_star (pe_lc rfl sc_hop_of.nd (pi_list (pe_slice sl_list (pv 7) (po_some pe_int) po_none)) (blkOk_by (own := [("number", 11)]) (N := ns_hop_of) (sc := defScope s_hop_of) (by decide +kernel)) (fun _ _ _ _ _ => pg_name (i := 11) sc_hop_of.nd rfl (Or.inl rfl)) (fun _ _ _ _ _ => pts_nil) (fun _ _ _ _ _ => (pe_op op_fdiv (pv 11) (pv 5)))) pa_nil))))))))), ?_⟩)
  · obtain ⟨r, t, ns, n, x, m, rfl, _⟩ := h
    rfl
  · obtain ⟨r, t, ns, n, x, m, rfl, h1, h2, hn, hx, hm, q⟩ := h
    have hp1 := pow_pos2 n
    have hp2 := two_pow_le (m := n) (n := 6) hn.2
    walk_at "w"
    refine ⟨n, rfl, by omega, ?_⟩
    walk_at "w"
    refine ⟨n, rfl, by omega, ?_⟩
    walk_at "w"
    refine ⟨le_line (by simp), fun p0 hp0 => w_tg2 rfl sqTu ?_⟩
    have s0 : Same H (upd H p0 (.tup [.int (2 ^ n), .int (2 ^ n)])) := sameU hp0
    generalize upd H p0 (.tup [.int (2 ^ n), .int (2 ^ n)]) = H0 at s0
    walk_at "w"
    refine w_div (by decide) (by decide) ?_
    walk_at "w"
    rw [show ((n : Int) + 6 - 1) / 6 = 1 from by omega]
    refine ⟨_, rfl, by decide, by decide, lc_oneR rfl fun D hD => ⟨rfl, ?_⟩⟩
    walk_at "w"
    refine lc1 hD (Same.refl _) ?_
    rw [upd_upd]
    refine ⟨D, [.int 0], rfl, .inr sqLu, ?_⟩
    have s1 := s0.u (o := .lst [.int 0]) hD
    walk_at "w"
    refine ⟨le_line (by simp), fun p1 hq1 => ?_⟩
    have s2 := s1.u (o := .lst [.int x, .int (2 ^ n), .int 0]) hq1
    walk_at "w"
    refine w_slL (sqLu (xs := [.int x, .int (2 ^ n), .int 0])) fun l hl => ?_
    rw [show cutV [V.int x, V.int (2 ^ n), V.int 0] none (some 1) = [V.int x] from rfl]
    have s3 := s2.u (o := .lst [.int x]) hl
    walk_at "w"
    refine ⟨_, rfl, by omega, by omega, for_rng rfl (fun i σ H' => Same H H' ∧ ∃ f z0 z1 z2 z3, σ = [some (.ref r), some (.int n), some (.int x), some (.int m), some (.int (2 ^ n)), some (.int (2 ^ n)), some (.int 1), some (.ref f), z0, z1, z2, z3] ∧ H' f = some (.lst [.int (itn ns n i x)])) ⟨s3, l, _, _, _, _, rfl, upd_same⟩ ?_ ?_⟩
    · rintro i σ H' hi ⟨s4, f, z0, z1, z2, z3, rfl, hf⟩
      walk_at "w"
      refine ⟨r, rfl, ⟨_, s4.sq h1⟩, for_oneL (s4.sq h1) ?_⟩
      have hr := itn_range (ns := ns) hx i
      walk_at "w"
      refine ⟨t, f, ns, _, _, rfl, .inl (s4.tq h2), sqL hf, by omega, by omega, fun p H2 s5 hp => ?_⟩
      walk_at "w"
      exact ⟨(s4.trans s5).sq h1, s4.trans s5, p, _, _, _, _, rfl, hp⟩
    · rintro σ H' ⟨s4, f, z0, z1, z2, z3, rfl, hf⟩
      walk_at "w"
      refine w_ixL (sqL hf) rfl ?_
      walk_at "w"
      refine w_div hp1 (by omega) ?_
      walk_at "w"
      refine w_slL (sqL hf) fun l2 hl2 => ?_
      rw [show cutV [V.int (itn ns n m x)] (some 1) none = [] from rfl]
      walk_at "w"
      refine ⟨l2, rfl, ⟨_, sqLu⟩, lc_none (walk_list (xs := [])) rfl (fun H' s => s.sq sqLu) fun D2 hD2 => ?_⟩
      refine ⟨D2, [], rfl, .inr sqLu, ?_⟩
      walk_at "w"
      refine ⟨le_line (by simp), fun p2 hp2 => ?_⟩
      exact q p2 _ (((s4.u hl2).u hD2).u hp2) upd_same
end


section
variable {w : World} {K : PySem.W.Frag} {mg : Str → Option Value} {base : Heap}
/-- what cycle_from knows behind m turns -/
def Known (ns : List Int) (n : Nat) (x : Int) (m : Nat) (kvs : List (Key × V)) : Prop := kvs.length ≤ m + 1 ∧ (∀ i, i ≤ m → valV kvs (.inl (itn ns n i x)) = some (.int i)) ∧ ∀ z : Int, (∀ i, i ≤ m → itn ns n i x ≠ z) → valV kvs (.inl z) = none
theorem Known.more {ns : List Int} {n : Nat} {x : Int} {m L j : Nat} {kvs : List (Key × V)} (k : Known ns n x m kvs) (c : Cyc ns n x L j) (h : m + 1 < L) : Known ns n x (m + 1) (putK kvs (.inl (itn ns n (m + 1) x)) (.int ((m + 1 : Nat) : Int))) := by
  obtain ⟨k1, k2, k3⟩ := k
  refine ⟨Nat.le_trans (length_putK ..) (by omega), fun i hi => ?_, fun z hz => ?_⟩
  · rw [valV_put]
    by_cases e : i = m + 1
    · subst e
      rw [if_pos rfl]
    · rw [if_neg (fun z => c.inj i (m + 1) (by omega) h (Sum.inl.inj z))]
      exact k2 i (by omega)
  · rw [valV_put, if_neg (fun q => hz (m + 1) (Nat.le_refl _) (Sum.inl.inj q).symm)]
    exact k3 z fun i hi => hz i (by omega)
def orb (ns : List Int) (n : Nat) (x : Int) (m : Nat) : List V := (List.range m).map fun i => V.int (itn ns n i x)
theorem orb_succ (ns : List Int) (n : Nat) (x : Int) (m : Nat) : orb ns n x (m + 1) = orb ns n x m ++ [.int (itn ns n m x)] := by unfold orb; rw [List.range_succ, List.map_append]; rfl
theorem orb_len (ns : List Int) (n : Nat) (x : Int) (m : Nat) : (orb ns n x m).length = m := by simp [orb]
theorem orb_at {ns : List Int} {n : Nat} {x : Int} {m i : Nat} (h : i < m) : (orb ns n x m)[i]? = some (.int (itn ns n i x)) := by unfold orb; rw [List.getElem?_map, List.getElem?_range h]; rfl
theorem orb_last (ns : List Int) (n : Nat) (x : Int) (m : Nat) : atI (orb ns n x (m + 1)) (-1) = some (.int (itn ns n m x)) := by rw [orb_succ]; exact atI_last ..
theorem sc_cycle_from : FnScope ns_cycle_from ps_cycle_from (defScope s_cycle_from) := ⟨rfl, rfl, rfl, by decide +kernel, rfl, by decide +kernel, by decide +kernel⟩
def sp_cycle_from (K : PySem.W.Frag) : Sp := fun vs H Q _ => ∃ (r t : Addr) (ns : List Int) (n : Nat) (x : Int) (L j : Nat), vs = [.ref r, .int n, .int x] ∧ SqL K H r [.ref t] ∧ SqT K H t (ns.map V.int) ∧ n ≤ 6 ∧ (0 ≤ x ∧ x < 2 ^ n) ∧ Cyc ns n x L j ∧
  ∀ p q H', Same H H' → H' p = some (.tup [.ref q, .int j]) → H' q = some (.lst (orb ns n x (L + 1))) → Q (.ref p) H'
theorem ok_cycle_from (T : Txt w K mg) : Has PP w K mg base d_cycle_from 4 ps_cycle_from (sp_cycle_from K) := by
  refine mkHas T.f_cycle_from sc_cycle_from (fun _ _ _ _ _ _ us hl => match us, hl with | [_, _, _], _ => rfl) (fun vs H Q E h => ?_) (fun cdv A outer s H vs Q E hr h => ⟨_, (pss_cons (ps_par (i := 3) (j := 4) rfl sc_cycle_from.nd rfl rfl (by decide) rfl rfl (pa_cons (cF (ok_size_of T) (hr.mono (by decide)) T.g_size_of (pa_cons (pv 1) pa_nil)) (pa_cons (cF (ok_part_of T) (hr.mono (by decide)) T.g_part_of (pa_cons (pv 1) pa_nil)) pa_nil)) rfl)
 (pss_cons (ps_set (i := 5) sc_cycle_from.nd rfl (Or.inl rfl) (pe_lst (pa_cons (pv 2) pa_nil)))
 (pss_cons (ps_set (i := 6) sc_cycle_from.nd rfl (Or.inl rfl) (pe_disp (pps_cons (pe_op op_mod (pv 2) (pv 4)) pe_int pps_nil) rfl rfl (by simp) (by decide)))
 (pss_one (ps_while (passes_of rfl) (pt_val pe_bl)
 (pss_cons (ps_set (i := 7) sc_cycle_from.nd rfl (Or.inl rfl) (cF (ok_round_by T) (hr.mono (by decide)) T.g_round_by (pa_cons (pv 0) (pa_cons (pv 3) (pa_cons (pe_ix (r := rIxL K) ix_list (pv 5) (pe_un un_neg pe_int) (fun _ _ => rfl)) pa_nil)))))
 (pss_cons (ps_expr (pe_bm PySem.F.plainAttrs_list PySem.F.slot_list_append PySem.F.type_list_append mt_append (pv 5) (pa_cons (pv 7) pa_nil)))
 (pss_cons (ps_if (pt_cmp (pc_din (hu_of hr) (pe_op op_mod (pv 7) (pv 4)) (pv 6)) rfl) (pss_one (ps_ret (pe_tup (pa_cons (pv 5) (pa_cons (pe_dget (hu_of hr) (pv 6) (pe_op op_mod (pv 7) (pv 4)) (fun _ _ => rfl)) pa_nil))))) pss_nil)
 (pss_one (ps_dput (hu_of hr) (pv 6) (pe_op op_mod (pv 7) (pv 4)) (pe_op op_sub (pe_callB ca_len rfl T.n_len PySem.boot_len (pa_cons (pv 5) pa_nil)) pe_int) rfl)))))))))), ?_⟩)
  · obtain ⟨r, t, ns, n, x, L, j, rfl, _⟩ := h
    rfl
  · obtain ⟨r, t, ns, n, x, L, j, rfl, h1, h2, hn, hx, c, q⟩ := h
    have hc := c.le
    have hlt := c.lt
    walk_at "w"
    refine ⟨n, rfl, by omega, ?_⟩
    walk_at "w"
    refine ⟨n, rfl, by omega, ?_⟩
    walk_at "w"
    refine ⟨le_line (by simp), fun f hf => ?_⟩
    walk_at "w"
    refine w_disp1 fun d hd => ?_
    have s1 : Same H (upd H f (.lst [.int x])) := sameU hf
    have s2 := s1.u (o := .dK []) hd
    walk_at "w"
    refine w_I (pow_pos2 n) ?_
    walk_at "w"
    rw [Int.emod_eq_of_lt hx.1 hx.2]
    refine w_d1 (k := .inl x) rfl upd_same ?_
    rw [upd_upd]
    have s3 := s1.u (o := .dK [(.inl x, .int 0)]) hd
    have hfd : f ≠ d := ne_of_none upd_same hd
    walk_at "w"
    refine w_while (fun k σ H' => ∃ m z, k = L - m ∧ m < L ∧ Same H H' ∧ σ = [some (.ref r), some (.int n), some (.int x), some (.int (2 ^ n)), some (.int (2 ^ n)), some (.ref f), some (.ref d), z] ∧ H' f = some (.lst (orb ns n x (m + 1))) ∧ ∃ kvs, H' d = some (.dK kvs) ∧ Known ns n x m kvs) L ⟨0, _, rfl, by omega, s3, rfl, by rw [upd_ne hfd]; exact upd_same, _, upd_same, by simp, fun i hi => ?_, fun z hz => ?_⟩ ?_
    · have : i = 0 := by omega
      subst this
      exact valV_pos rfl
    · rw [valV_neg fun e => hz 0 (Nat.le_refl _) (Sum.inl.inj e)]
      rfl
    · rintro k σ H' ⟨m, z, rfl, hm, s4, rfl, h3, kvs, h4, kn⟩
      walk_at "w"
      have hr := itn_range (ns := ns) hx m
      refine w_ixL (sqL h3) (orb_last ..) ?_
      walk_at "w"
      refine ⟨r, t, ns, n, _, rfl, s4.sq h1, s4.tq h2, by omega, hr, fun H2 s5 => ?_⟩
      have hr1 := nx_range ns n (itn ns n m x)
      walk_at "w"
      refine ⟨tyL (sqL (s5 _ _ h3)), ?_⟩
      walk_at "w"
      refine w_app (s5 _ _ h3) (by rw [orb_len]; exact lt_line (by omega)) ?_
      rw [show nx ns n (itn ns n m x) = itn ns n (m + 1) x from rfl] at hr1 ⊢
      rw [← orb_succ]
      have s6 : Same H (upd H2 f (.lst (orb ns n x (m + 1 + 1)))) := (s4.trans s5).w hf
      have h5 : (upd H2 f (.lst (orb ns n x (m + 1 + 1)))) d = some (.dK kvs) := by rw [upd_ne (Ne.symm hfd)]; exact s5 _ _ h4
      have h6 : (upd H2 f (.lst (orb ns n x (m + 1 + 1)))) f = some (.lst (orb ns n x (m + 1 + 1))) := upd_same
      generalize upd H2 f (.lst (orb ns n x (m + 1 + 1))) = H3 at s6 h5 h6
      walk_at "w"
      refine w_I (pow_pos2 n) ?_
      rw [Int.emod_eq_of_lt hr1.1 hr1.2]
      walk_at "w"
      refine w_dinI h5 ?_
      by_cases e : m + 1 = L
      · have e1 : valV kvs (.inl (itn ns n (m + 1) x)) = some (.int j) := by
          rw [e, c.back]
          exact kn.2.1 j (by omega)
        rw [e1, Option.isSome_some]
        walk_at "w"
        refine w_I (pow_pos2 n) ?_
        rw [Int.emod_eq_of_lt hr1.1 hr1.2]
        walk_at "w"
        refine w_dgetI h5 e1 ?_
        walk_at "w"
        refine ⟨le_line (by simp), fun p hp => ?_⟩
        rw [e] at h6
        exact q p f _ (s6.u hp) upd_same (by rw [upd_ne (ne_of_none h6 hp)]; exact h6)
      · have e1 : valV kvs (.inl (itn ns n (m + 1) x)) = none := kn.2.2 _ fun i hi => c.inj i (m + 1) (by omega) (by omega)
        rw [e1, Option.isSome_none]
        walk_at "w"
        refine w_rlenL (sqL h6) ?_
        rw [orb_len]
        walk_at "w"
        refine w_I (pow_pos2 n) ?_
        rw [Int.emod_eq_of_lt hr1.1 hr1.2]
        walk_at "w"
        refine w_dputI h5 (Nat.lt_of_le_of_lt kn.1 (lt_line (by omega))) ?_
        have e2 : ((m + 1 + 1 : Nat) : Int) - 1 = ((m + 1 : Nat) : Int) := by omega
        rw [e2]
        have hdn : H d = none := s1.free hd
        exact ⟨_, by omega, m + 1, _, rfl, by omega, s6.w hdn, rfl, by rw [upd_ne hfd]; exact h6, _, upd_same, kn.more c (by omega)⟩
end


section
variable {w : World} {K : PySem.W.Frag} {mg : Str → Option Value} {base : Heap}
theorem sc_hopped : FnScope ns_hopped ps_hopped (defScope s_hopped) := ⟨rfl, rfl, rfl, by decide +kernel, rfl, by decide +kernel, by decide +kernel⟩
def sp_hopped (K : PySem.W.Frag) : Sp := fun vs H Q _ => ∃ (a : Addr) (m : Nat), vs = [.ref a, .int 1, .int 0, .int m] ∧ SqL K H a [.int 0] ∧ ∀ H', Same H H' → Q (.int 0) H'
theorem ok_hopped (T : Txt w K mg) : Has PP w K mg base d_hopped 3 ps_hopped (sp_hopped K) := by
  refine mkHas T.f_hopped sc_hopped (fun _ _ _ _ _ _ us hl => match us, hl with | [_, _, _, _], _ => rfl) (fun vs H Q E h => ?_) (fun cdv A outer s H vs Q E hr h => ⟨_, (pss_cons (ps_while (passes_of rfl) (pt_cmpR op_gt (pv 3) pe_int (nomark _))
 (pss_cons (ps_if (pt_cmpR op_eq (pe_op op_mod (pv 3) pe_int) pe_int (nomark _)) (pss_one (ps_set (i := 2) sc_hopped.nd rfl (Or.inl rfl) (pe_op op_mod (cF (ok_value_of T) (hr.mono (by decide)) T.g_value_of (pa_cons (pv 0) (pa_cons (pv 2) pa_nil))) (pv 1)))) pss_nil)
 (pss_one (ps_par (i := 0) (j := 3) rfl sc_hopped.nd rfl rfl (by decide) rfl rfl (pa_cons (cF (ok_put_into T) (hr.mono (by decide)) T.g_put_into (pa_cons (pv 0) (pa_cons (pv 0) (pa_cons (pv 1) pa_nil)))) (pa_cons (pe_op op_fdiv (pv 3) pe_int) pa_nil)) rfl))))
 (pss_one (ps_ret (pv 2)))), ?_⟩)
  · obtain ⟨a, m, rfl, _⟩ := h
    rfl
  · obtain ⟨a, m, rfl, h1, q⟩ := h
    have hz : valOf [0] 0 % 1 = 0 := by decide
    walk_at "w"
    refine w_while (fun k σ H' => Same H H' ∧ ∃ p, σ = [some (.ref p), some (.int 1), some (.int 0), some (.int k)] ∧ SqL K H' p [.int 0]) m ⟨Same.refl _, a, rfl, h1⟩ ?_
    rintro k σ H' ⟨s1, p, rfl, h2⟩
    walk_at "w"
    refine if_d (fun c => ?_) (fun c => ?_)
    · walk_at "w"
      refine w_I (show (0 : Int) < 2 by decide) ?_
      walk_at "w"
      refine if_d (fun c2 => ?_) (fun c2 => ?_)
      · walk_at "w"
        refine ⟨p, [0], 0, rfl, .inr h2, by decide, fun H2 s2 => ?_⟩
        walk_at "w"
        refine w_I (show (0 : Int) < 1 by decide) ?_
        rw [hz]
        walk_at "w"
        have h3 := s2.sq h2
        refine ⟨p, p, [0], 0, 1, rfl, .inr h3, h3, by decide, by decide, fun p2 H3 s3 hp2 => ?_⟩
        rw [hz] at hp2
        walk_at "w"
        refine w_div (by decide) (by decide) ?_
        walk_at "w"
        exact ⟨k / 2, by omega, (s1.trans s2).trans s3, p2, by rw [show ((k / 2 : Nat) : Int) = (k : Int) / 2 from by omega]; rfl, sqL hp2⟩
      · walk_at "w"
        refine ⟨p, p, [0], 0, 1, rfl, .inr h2, h2, by decide, by decide, fun p2 H3 s3 hp2 => ?_⟩
        rw [hz] at hp2
        walk_at "w"
        refine w_div (by decide) (by decide) ?_
        walk_at "w"
        exact ⟨k / 2, by omega, s1.trans s3, p2, by rw [show ((k / 2 : Nat) : Int) = (k : Int) / 2 from by omega]; rfl, sqL hp2⟩
    · walk_at "w"
      exact q _ s1
theorem sc_word_after : FnScope ns_word_after ps_word_after (defScope s_word_after) := ⟨rfl, rfl, rfl, by decide +kernel, rfl, by decide +kernel, by decide +kernel⟩
def sp_word_after (K : PySem.W.Frag) : Sp := fun vs H Q _ => ∃ (r t : Addr) (ns : List Int) (n : Nat) (x : Int) (L j m : Nat), vs = [.ref r, .int n, .int x, .int m] ∧ SqL K H r [.ref t] ∧ SqT K H t (ns.map V.int) ∧ (1 ≤ n ∧ n ≤ 6) ∧ (0 ≤ x ∧ x < 2 ^ n) ∧ Cyc ns n x L j ∧
  ∀ H', Same H H' → Q (.int (itn ns n m x)) H'
theorem ok_word_after (T : Txt w K mg) : Has PP w K mg base d_word_after 5 ps_word_after (sp_word_after K) := by
  refine mkHas T.f_word_after sc_word_after (fun _ _ _ _ _ _ us hl => match us, hl with | [_, _, _, _], _ => rfl) (fun vs H Q E h => ?_) (fun cdv A outer s H vs Q E hr h => ⟨_, (pss_cons (ps_asg (cF (ok_cycle_from T) (hr.mono (by decide)) T.g_cycle_from (pa_cons (pv 0) (pa_cons (pv 1) (pa_cons (pv 2) pa_nil)))) (pg_tup rfl (pgs_cons (pg_name (i := 4) sc_word_after.nd rfl (Or.inl rfl)) (pgs_cons (pg_name (i := 5) sc_word_after.nd rfl (Or.inl rfl)) pgs_nil))))
 (pss_cons (ps_if (pt_cmpR op_lt (pv 3) (pe_callB ca_len rfl T.n_len PySem.boot_len (pa_cons (pv 4) pa_nil)) (nomark _)) (pss_one (ps_ret (pe_ix (r := rIxL K) ix_list (pv 4) (pv 3) (fun _ _ => rfl)))) pss_nil)
 (pss_cons (ps_par3 (i := 6) (j := 7) (l := 8) rfl sc_word_after.nd rfl rfl rfl (by decide) (by decide) (by decide) rfl rfl rfl (pa_cons (cF (ok_size_of T) (hr.mono (by decide)) T.g_size_of (pa_cons (pv 1) pa_nil)) (pa_cons (cF (ok_part_of T) (hr.mono (by decide)) T.g_part_of (pa_cons (pv 1) pa_nil)) (pa_cons (pe_op op_sub (pe_op op_sub (pe_callB ca_len rfl T.n_len PySem.boot_len (pa_cons (pv 4) pa_nil)) pe_int) (pv 5)) pa_nil))) rfl)
 (pss_cons (ps_par (i := 9) (j := 10) rfl sc_word_after.nd rfl rfl (by decide) rfl rfl (pa_cons (pe_op op_fdiv (pe_op op_add (pe_op op_sub (pv 3) (pe_callB ca_len rfl T.n_len PySem.boot_len (pa_cons (pv 4) pa_nil))) pe_int) (pv 8)) (pa_cons (pe_op op_mod (pe_op op_add (pe_op op_sub (pv 3) (pe_callB ca_len rfl T.n_len PySem.boot_len (pa_cons (pv 4) pa_nil))) pe_int) (pv 8)) pa_nil)) rfl)
 (pss_cons (ps_set (i := 11) sc_word_after.nd rfl (Or.inl rfl) (pe_op op_mod (pe_ix (r := rIxL K) ix_list (pv 4) (pe_un un_neg pe_int) (fun _ _ => rfl)) (pv 7)))
 (pss_cons (ps_set (i := 12) sc_word_after.nd rfl (Or.inl rfl) (cF (ok_hop_of T) (hr.mono (by decide)) T.g_hop_of (pa_cons (pv 0) (pa_cons (pv 1) (pa_cons (pv 11) (pa_cons (pv 8) pa_nil))))))
 (pss_cons (ps_set (i := 13) sc_word_after.nd rfl (Or.inl rfl) (pe_op op_add (pv 11) (pe_op op_mul (pv 7) (cF (ok_hopped T) (hr.mono (by decide)) T.g_hopped (pa_cons (pv 12) (pa_cons (pe_op op_fdiv (pv 6) (pv 7)) (pa_cons (pe_op op_fdiv (pe_ix (r := rIxL K) ix_list (pv 4) (pe_un un_neg pe_int) (fun _ _ => rfl)) (pv 7)) (pa_cons (pv 9) pa_nil))))))))
 (pss_cons (ps_for (passes_of rfl) rfl (pi_range1 rfl T.n_range (pa_cons (pv 10) pa_nil)) (pg_name (i := 14) sc_word_after.nd rfl (Or.inl rfl))
 (pss_one (ps_set (i := 13) sc_word_after.nd rfl (Or.inl rfl) (cF (ok_round_by T) (hr.mono (by decide)) T.g_round_by (pa_cons (pv 0) (pa_cons (pv 6) (pa_cons (pv 13) pa_nil)))))))
 (pss_one (ps_ret (pv 13))))))))))), ?_⟩)
  · obtain ⟨r, t, ns, n, x, L, j, m, rfl, _⟩ := h
    rfl
  · obtain ⟨r, t, ns, n, x, L, j, m, rfl, h1, h2, hn, hx, c, q⟩ := h
    have hc := c.le
    have hlt := c.lt
    have hp1 := pow_pos2 n
    have hp2 := two_pow_le (m := n) (n := 6) hn.2
    walk_at "w"
    refine ⟨r, t, ns, n, x, L, j, rfl, h1, h2, hn.2, hx, c, fun p a H1 s1 hp ha => ?_⟩
    refine w_tg2 rfl (sqT hp) ?_
    walk_at "w"
    refine w_rlenL (sqL ha) ?_
    rw [orb_len]
    walk_at "w"
    refine if_d (fun c1 => ?_) (fun c1 => ?_)
    · walk_at "w"
      refine w_ixL (sqL ha) (atI_nat (orb_at (by omega))) ?_
      exact q _ s1
    · walk_at "w"
      refine ⟨n, rfl, by omega, ?_⟩
      walk_at "w"
      refine ⟨n, rfl, by omega, ?_⟩
      walk_at "w"
      refine w_rlenL (sqL ha) ?_
      rw [orb_len]
      walk_at "w"
      refine w_rlenL (sqL ha) ?_
      rw [orb_len]
      walk_at "w"
      refine w_div (by omega) (by omega) ?_
      walk_at "w"
      refine w_rlenL (sqL ha) ?_
      rw [orb_len]
      walk_at "w"
      refine w_I (by omega) ?_
      walk_at "w"
      have hl := itn_range (ns := ns) hx L
      refine w_ixL (sqL ha) (orb_last ..) ?_
      walk_at "w"
      refine w_I hp1 ?_
      rw [Int.emod_eq_of_lt hl.1 hl.2]
      walk_at "w"
      have e1 : ((L - j : Nat) : Int) = ((L + 1 : Nat) : Int) - 1 - j := by omega
      have e2 : ((m - L : Nat) : Int) = (m : Int) - ((L + 1 : Nat) : Int) + 1 := by omega
      refine ⟨r, t, ns, n, itn ns n L x, L - j, by rw [e1]; rfl, s1.sq h1, s1.tq h2, hn, hl, by omega, fun p3 H2 s2 hp3 => ?_⟩
      rw [c.hop] at hp3
      walk_at "w"
      refine w_div hp1 (by omega) ?_
      rw [Int.ediv_self (by omega)]
      walk_at "w"
      refine w_ixL (sqL (s2 _ _ ha)) (orb_last ..) ?_
      walk_at "w"
      refine w_div hp1 (by omega) ?_
      rw [Int.ediv_eq_zero_of_lt hl.1 hl.2]
      walk_at "w"
      refine ⟨p3, (m - L) / (L - j), by rw [Int.natCast_ediv, e1, e2]; rfl, sqL hp3, fun H3 s3 => ?_⟩
      walk_at "w"
      refine w_I (.inr (by decide)) ?_
      walk_at "w"
      rw [Int.mul_zero, Int.add_zero]
      have e3 : ((m : Int) - ((L + 1 : Nat) : Int) + 1) % (((L + 1 : Nat) : Int) - 1 - j) = (((m - L) % (L - j) : Nat) : Int) := by rw [← e1, ← e2, Int.natCast_emod]
      have hml : (m - L) % (L - j) < 64 := Nat.lt_of_lt_of_le (Nat.mod_lt _ (by omega)) (by omega)
      have s4 : Same H H3 := (s1.trans s2).trans s3
      refine ⟨_, rfl, by rw [e3]; omega, by rw [e3]; omega, for_rng e3 (fun i σ H' => Same H H' ∧ ∃ z1 z2 z3 z4 z5 z7 z8 z9 z10 z11 z12 z14, σ = [some (.ref r), z1, z2, z3, z4, z5, some (.int (2 ^ n)), z7, z8, z9, z10, z11, z12, some (.int (itn ns n (L + i) x)), z14]) ⟨s4, _, _, _, _, _, _, _, _, _, _, _, _, rfl⟩ ?_ ?_⟩
      · rintro i σ H' hi ⟨s5, z1, z2, z3, z4, z5, z7, z8, z9, z10, z11, z12, z14, rfl⟩
        walk_at "w"
        refine ⟨r, t, ns, n, _, rfl, s5.sq h1, s5.tq h2, by omega, itn_range hx _, fun H6 s6 => ?_⟩
        walk_at "w"
        exact ⟨s5.trans s6, _, _, _, _, _, _, _, _, _, _, _, _, rfl⟩
      · rintro σ H' ⟨s5, z1, z2, z3, z4, z5, z7, z8, z9, z10, z11, z12, z14, rfl⟩
        walk_at "w"
        rw [← c.far m (by omega)]
        exact q _ s5
theorem sc_ring_size : FnScope ns_ring_size ps_ring_size (defScope s_ring_size) := ⟨rfl, rfl, rfl, by decide +kernel, rfl, by decide +kernel, by decide +kernel⟩
def sp_ring_size (K : PySem.W.Frag) : Sp := fun vs H Q _ => ∃ (r t : Addr) (ns : List Int) (n : Nat) (x : Int) (L j : Nat), vs = [.ref r, .int n, .int x] ∧ SqL K H r [.ref t] ∧ SqT K H t (ns.map V.int) ∧ (1 ≤ n ∧ n ≤ 6) ∧ (0 ≤ x ∧ x < 2 ^ n) ∧ Cyc ns n x L j ∧ ∀ H', Same H H' → Q (.int L) H'
theorem ok_ring_size (T : Txt w K mg) : Has PP w K mg base d_ring_size 5 ps_ring_size (sp_ring_size K) := by
  refine mkHas T.f_ring_size sc_ring_size (fun _ _ _ _ _ _ us hl => match us, hl with | [_, _, _], _ => rfl) (fun vs H Q E h => ?_) (fun cdv A outer s H vs Q E hr h => ⟨_, (pss_cons (ps_asg (cF (ok_cycle_from T) (hr.mono (by decide)) T.g_cycle_from (pa_cons (pv 0) (pa_cons (pv 1) (pa_cons (pv 2) pa_nil)))) (pg_tup rfl (pgs_cons (pg_name (i := 3) sc_ring_size.nd rfl (Or.inl rfl)) (pgs_cons (pg_name (i := 4) sc_ring_size.nd rfl (Or.inl rfl)) pgs_nil))))
 (pss_cons (ps_par3 (i := 5) (j := 6) (l := 7) rfl sc_ring_size.nd rfl rfl rfl (by decide) (by decide) (by decide) rfl rfl rfl (pa_cons (cF (ok_part_of T) (hr.mono (by decide)) T.g_part_of (pa_cons (pv 1) pa_nil)) (pa_cons (pe_op op_sub (pe_callB ca_len rfl T.n_len PySem.boot_len (pa_cons (pv 3) pa_nil)) pe_int) (pa_cons (pe_op op_fdiv (pv 2) (cF (ok_part_of T) (hr.mono (by decide)) T.g_part_of (pa_cons (pv 1) pa_nil))) pa_nil))) rfl)
 (pss_cons (ps_par3 (i := 8) (j := 9) (l := 10) rfl sc_ring_size.nd rfl rfl rfl (by decide) (by decide) (by decide) rfl rfl rfl (pa_cons (cF (ok_hop_of T) (hr.mono (by decide)) T.g_hop_of (pa_cons (pv 0) (pa_cons (pv 1) (pa_cons (pe_op op_mod (pv 2) (pv 5)) (pa_cons (pv 6) pa_nil))))) (pa_cons (pe_op op_fdiv (cF (ok_size_of T) (hr.mono (by decide)) T.g_size_of (pa_cons (pv 1) pa_nil)) (pv 5)) (pa_cons pe_int pa_nil))) rfl)
 (pss_cons (ps_while (passes_of rfl) (pt_cmpR op_le (pv 10) (pv 9) (nomark _))
 (pss_cons (ps_if (pt_cmpR op_ne (pe_op op_mod (pe_op op_sub (cF (ok_value_of T) (hr.mono (by decide)) T.g_value_of (pa_cons (pv 8) (pa_cons (pv 7) pa_nil))) (pv 7)) (pv 10)) pe_int (nomark _)) (pss_one (ps_par (i := 8) (j := 6) rfl sc_ring_size.nd rfl rfl (by decide) rfl rfl (pa_cons (cF (ok_put_into T) (hr.mono (by decide)) T.g_put_into (pa_cons (pv 8) (pa_cons (pv 8) (pa_cons (pv 9) pa_nil)))) (pa_cons (pe_op op_mul pe_int (pv 6)) pa_nil)) rfl)) pss_nil)
 (pss_one (ps_set (i := 10) sc_ring_size.nd rfl (Or.inl rfl) (pe_op op_mul pe_int (pv 10))))))
 (pss_one (ps_ret (pv 6))))))), ?_⟩)
  · obtain ⟨r, t, ns, n, x, L, j, rfl, _⟩ := h
    rfl
  · obtain ⟨r, t, ns, n, x, L, j, rfl, h1, h2, hn, hx, c, q⟩ := h
    have hc := c.le
    have hlt := c.lt
    have hp1 := pow_pos2 n
    have hp2 := two_pow_le (m := n) (n := 6) hn.2
    walk_at "w"
    refine ⟨r, t, ns, n, x, L, j, rfl, h1, h2, hn.2, hx, c, fun p a H1 s1 hp ha => ?_⟩
    refine w_tg2 rfl (sqT hp) ?_
    walk_at "w"
    refine ⟨n, rfl, by omega, ?_⟩
    walk_at "w"
    refine w_rlenL (sqL ha) ?_
    rw [orb_len]
    walk_at "w"
    refine ⟨n, rfl, by omega, ?_⟩
    walk_at "w"
    refine w_div hp1 (by omega) ?_
    walk_at "w"
    refine w_I hp1 ?_
    rw [Int.emod_eq_of_lt hx.1 hx.2]
    walk_at "w"
    have e1 : ((L + 1 : Nat) : Int) - 1 = L := by omega
    refine ⟨r, t, ns, n, x, L, by rw [e1]; rfl, s1.sq h1, s1.tq h2, hn, hx, by omega, fun p3 H2 s2 hp3 => ?_⟩
    walk_at "w"
    refine ⟨n, rfl, by omega, ?_⟩
    walk_at "w"
    refine w_div hp1 (by omega) ?_
    rw [Int.ediv_self (by omega)]
    walk_at "w"
    refine w_while (fun _ σ H' => Same H H' ∧ ∃ z1 z2 z3 z4 z5 z6 z7 z8, σ = [z1, z2, z3, z4, z5, z6, some (.int L), z7, z8, some (.int 1), some (.int 2)]) 0 ⟨s1.trans s2, _, _, _, _, _, _, _, _, by rw [e1]; rfl⟩ ?_
    rintro _ σ H' ⟨s3, z1, z2, z3, z4, z5, z6, z7, z8, rfl⟩
    walk_at "w"
    refine if_dF (by decide) ?_
    walk_at "w"
    exact q _ s3
end


section
variable {w : World} {K : PySem.W.Frag} {mg : Str → Option Value} {base : Heap}
/-- the turns at which a word comes, among the first m -/
def spots (ns : List Int) (n : Nat) (x y : Int) (m : Nat) : List Nat := (List.range m).filter fun i => decide (itn ns n i x = y)
theorem spots_succ (ns : List Int) (n : Nat) (x y : Int) (m : Nat) : spots ns n x y (m + 1) = spots ns n x y m ++ (if itn ns n m x = y then [m] else []) := by
  unfold spots
  rw [List.range_succ, List.filter_append]
  congr 1
  by_cases e : itn ns n m x = y
  · rw [if_pos e]; simp [e]
  · rw [if_neg e]; simp [e]
theorem spots_len (ns : List Int) (n : Nat) (x y : Int) (m : Nat) : (spots ns n x y m).length ≤ m := by
  have := List.length_filter_le (fun i => decide (itn ns n i x = y)) (List.range m)
  unfold spots
  simpa using this
def optV : Option Nat → V
  | none => .non
  | some k => .int k
theorem sc_rounds_between : FnScope ns_rounds_between ps_rounds_between (defScope s_rounds_between) := ⟨rfl, rfl, rfl, by decide +kernel, rfl, by decide +kernel, by decide +kernel⟩
def sp_rounds_between (K : PySem.W.Frag) : Sp := fun vs H Q _ => ∃ (r t : Addr) (ns : List Int) (n : Nat) (x y : Int) (L j : Nat), vs = [.ref r, .int n, .int x, .int y] ∧ SqL K H r [.ref t] ∧ SqT K H t (ns.map V.int) ∧ (1 ≤ n ∧ n ≤ 6) ∧ (0 ≤ x ∧ x < 2 ^ n) ∧ (0 ≤ y ∧ y < 2 ^ n) ∧ Cyc ns n x L j ∧
  ∀ H', Same H H' → Q (optV (spots ns n x y L).head?) H'
theorem ok_rounds_between (T : Txt w K mg) : Has PP w K mg base d_rounds_between 5 ps_rounds_between (sp_rounds_between K) := by
  refine mkHas T.f_rounds_between sc_rounds_between (fun _ _ _ _ _ _ us hl => match us, hl with | [_, _, _, _], _ => rfl) (fun vs H Q E h => ?_) (fun cdv A outer s H vs Q E hr h => ⟨_, (pss_cons (ps_asg (cF (ok_cycle_from T) (hr.mono (by decide)) T.g_cycle_from (pa_cons (pv 0) (pa_cons (pv 1) (pa_cons (pv 2) pa_nil)))) (pg_tup rfl (pgs_cons (pg_name (i := 4) sc_rounds_between.nd rfl (Or.inr rfl)) (pgs_cons (pg_name (i := 5) sc_rounds_between.nd rfl (Or.inl rfl)) pgs_nil))))
 (pss_cons (ps_asg (pe_tup (pa_cons (cF (ok_part_of T) (hr.mono (by decide)) T.g_part_of (pa_cons (pv 1) pa_nil)) (pa_cons (pe_op op_sub (pe_callB ca_len rfl T.n_len PySem.boot_len (pa_cons (pv 4) pa_nil)) pe_int) pa_nil))) (pg_tup rfl (pgs_cons (pg_name (i := 6) sc_rounds_between.nd rfl (Or.inr rfl)) (pgs_cons (pg_name (i := 7) sc_rounds_between.nd rfl (Or.inl rfl)) pgs_nil))))
 (pss_cons (ps_setLc (i := 8) rfl sc_rounds_between.nd rfl rfl (sw_true rfl rfl rfl (by decide +kernel)) (pi_range1 rfl T.n_range (pa_cons (pv 7) pa_nil)) (blkOk_by (own := [("at", 9)]) (N := ns_rounds_between) (sc := defScope s_rounds_between) (by decide +kernel)) (fun _ _ _ _ _ => pg_name (i := 9) sc_rounds_between.nd rfl (Or.inl rfl)) (fun _ _ _ _ _ => (pts_one (pt_cmpR op_eq (pe_op op_mod (pe_ix (r := rIxL K) ix_list (pv 4) (pv 9) (fun _ _ => rfl)) (pv 6)) (pe_op op_mod (pv 3) (pv 6)) (nomark _)))) (fun _ _ _ _ _ => (pv 9)))
 (pss_cons (ps_if (pt_cmpR (op_eqD hr.units) (pv 8) (pe_lst pa_nil) (nomark _)) (pss_one (ps_ret pe_non)) pss_nil)
 (pss_cons (ps_par3 (i := 10) (j := 11) (l := 12) rfl sc_rounds_between.nd rfl rfl rfl (by decide) (by decide) (by decide) rfl rfl rfl (pa_cons (pe_ix (r := rIxL K) ix_list (pv 8) pe_int (fun _ _ => rfl)) (pa_cons (pe_op op_fdiv (pe_ix (r := rIxL K) ix_list (pv 4) (pe_ix (r := rIxL K) ix_list (pv 8) pe_int (fun _ _ => rfl)) (fun _ _ => rfl)) (pv 6)) (pa_cons (pe_op op_fdiv (pv 3) (pv 6)) pa_nil))) rfl)
 (pss_cons (ps_par3 (i := 13) (j := 14) (l := 15) rfl sc_rounds_between.nd rfl rfl rfl (by decide) (by decide) (by decide) rfl rfl rfl (pa_cons (cF (ok_hop_of T) (hr.mono (by decide)) T.g_hop_of (pa_cons (pv 0) (pa_cons (pv 1) (pa_cons (pe_op op_mod (pv 3) (pv 6)) (pa_cons (pv 7) pa_nil))))) (pa_cons (pe_op op_fdiv (cF (ok_size_of T) (hr.mono (by decide)) T.g_size_of (pa_cons (pv 1) pa_nil)) (pv 6)) (pa_cons pe_int pa_nil))) rfl)
 (pss_cons (ps_while (passes_of rfl) (pt_cmpR op_le (pv 15) (pv 14) (nomark _))
 (pss_cons (ps_set (i := 16) sc_rounds_between.nd rfl (Or.inl rfl) (pe_op op_mod (cF (ok_value_of T) (hr.mono (by decide)) T.g_value_of (pa_cons (pv 13) (pa_cons (pv 11) pa_nil))) (pv 14)))
 (pss_cons (ps_if (pt_cmpR op_ne (pe_op op_mod (pe_op op_sub (pv 11) (pv 12)) (pv 15)) pe_int (nomark _)) (pss_cons (ps_if (pt_cmpR op_eq (pe_op op_mod (pe_op op_sub (pv 16) (pv 11)) (pv 15)) pe_int (nomark _)) (pss_one (ps_ret pe_non)) pss_nil)
 (pss_one (ps_par (i := 11) (j := 10) rfl sc_rounds_between.nd rfl rfl (by decide) rfl rfl (pa_cons (pv 16) (pa_cons (pe_op op_add (pv 10) (pv 7)) pa_nil)) rfl))) pss_nil)
 (pss_cons (ps_if (pt_cmpR op_ne (pe_op op_mod (pe_op op_sub (cF (ok_value_of T) (hr.mono (by decide)) T.g_value_of (pa_cons (pv 13) (pa_cons (pv 11) pa_nil))) (pv 11)) (pv 15)) pe_int (nomark _)) (pss_one (ps_par (i := 13) (j := 7) rfl sc_rounds_between.nd rfl rfl (by decide) rfl rfl (pa_cons (cF (ok_put_into T) (hr.mono (by decide)) T.g_put_into (pa_cons (pv 13) (pa_cons (pv 13) (pa_cons (pv 14) pa_nil)))) (pa_cons (pe_op op_mul pe_int (pv 7)) pa_nil)) rfl)) pss_nil)
 (pss_one (ps_set (i := 15) sc_rounds_between.nd rfl (Or.inl rfl) (pe_op op_mul pe_int (pv 15))))))))
 (pss_one (ps_ret (pv 10)))))))))), ?_⟩)
  · obtain ⟨r, t, ns, n, x, y, L, j, rfl, _⟩ := h
    rfl
  · obtain ⟨r, t, ns, n, x, y, L, j, rfl, h1, h2, hn, hx, hy, c, q⟩ := h
    have hc := c.le
    have hlt := c.lt
    have hp1 := pow_pos2 n
    have hp2 := two_pow_le (m := n) (n := 6) hn.2
    walk_at "w"
    refine ⟨r, t, ns, n, x, L, j, rfl, h1, h2, hn.2, hx, c, fun p a H1 s1 hp ha => ?_⟩
    refine w_tg2 rfl (sqT hp) ?_
    walk_at "w"
    refine ⟨n, rfl, by omega, ?_⟩
    walk_at "w"
    refine w_rlenL (sqL ha) ?_
    rw [orb_len]
    walk_at "w"
    have e1 : ((L + 1 : Nat) : Int) - 1 = L := by omega
    rw [e1]
    refine ⟨le_line (by simp), fun p2 hq2 => w_tg2 rfl sqTu ?_⟩
    have s2 := s1.u (o := .tup [.int (2 ^ n), .int L]) hq2
    have ha2 := sameU (o := .tup [.int (2 ^ n), .int L]) hq2 _ _ ha
    generalize upd H1 p2 (.tup [.int (2 ^ n), .int L]) = H2 at s2 ha2
    walk_at "w"
    refine ⟨_, rfl, by omega, by omega, ?_⟩
    rw [Int.toNat_natCast]
    refine lc_map walk_range (fun i => (spots ns n x y i).map fun (k : Nat) => V.int k) rfl (fun _ _ => trivial) (fun i z H3 H4 D hi hD pp yy => ?_) (fun D H3 s3 hD hl => ?_)
    · obtain ⟨rfl, rfl⟩ := yy
      refine ⟨rfl, ?_⟩
      have hz := itn_range (ns := ns) hx i
      dsimp only
      rw [Int.zero_add]
      walk_at "w"
      refine w_ixL (sqL (pp.1 _ _ ha2)) (atI_nat (orb_at (by omega))) ?_
      walk_at "w"
      refine w_I hp1 ?_
      walk_at "w"
      refine w_I hp1 ?_
      rw [Int.emod_eq_of_lt hz.1 hz.2, Int.emod_eq_of_lt hy.1 hy.2]
      walk_at "w"
      have hs := spots_len ns n x y i
      refine if_d (fun e => ?_) (fun e => ?_)
      · walk_at "w"
        refine pp.yes hD (Same.refl _) (by rw [List.length_map]; exact lt_line (by omega)) ?_
        rw [spots_succ, if_pos e, List.map_append]
        rfl
      · refine pp.no (Same.refl _) ?_
        rw [spots_succ, if_neg e, List.append_nil]
    · have s4 := s2.trans s3
      have ha4 := s3 _ _ ha2
      have hs := spots_len ns n x y L
      walk_at "w"
      refine ⟨le_line (by simp), fun p3 hp3 => ?_⟩
      have s5 := sameU (o := .lst []) hp3
      have e2 : (spots ns n x y L).map (fun (k : Nat) => V.int k) = ((spots ns n x y L).map fun (k : Nat) => (k : Int)).map V.int := by rw [List.map_map]; rfl
      refine ⟨_, _, .lst (s5.sq (sqL hl)) (by rw [e2]; exact dpInts _), .lst sqLu .nil, shIntsL _, shIntsL [], ?_⟩
      cases hsp : spots ns n x y L with
      | nil =>
        rw [show PyData.eqv (.list (List.map PyData.int (List.map (fun (k : Nat) => (k : Int)) ([] : List Nat)))) (.list []) = true from rfl]
        walk_at "w"
        rw [hsp] at q
        exact q _ (s4.u hp3)
      | cons k ks =>
        rw [show PyData.eqv (.list (List.map PyData.int (List.map (fun (k : Nat) => (k : Int)) (k :: ks)))) (.list []) = false from rfl]
        rw [hsp] at hl q
        have hk : k < L ∧ itn ns n k x = y := by
          have : k ∈ spots ns n x y L := by rw [hsp]; exact List.mem_cons_self ..
          unfold spots at this
          rw [List.mem_filter, List.mem_range] at this
          exact ⟨this.1, of_decide_eq_true this.2⟩
        have hl5 := s5 _ _ hl
        have ha5 := s5 _ _ ha4
        walk_at "w"
        refine w_ixL (sqL hl5) (atI_nat (j := 0) rfl) ?_
        walk_at "w"
        refine w_ixL (sqL hl5) (atI_nat (j := 0) rfl) ?_
        walk_at "w"
        refine w_ixL (sqL ha5) (atI_nat (orb_at (by omega))) ?_
        walk_at "w"
        refine w_div hp1 (by omega) ?_
        walk_at "w"
        refine w_div hp1 (by omega) ?_
        walk_at "w"
        refine w_I hp1 ?_
        rw [Int.emod_eq_of_lt hy.1 hy.2]
        walk_at "w"
        refine ⟨r, t, ns, n, y, L, rfl, (s4.u hp3).sq h1, (s4.u hp3).tq h2, hn, hy, by omega, fun p6 H6 s6 hp6 => ?_⟩
        walk_at "w"
        refine ⟨n, rfl, by omega, ?_⟩
        walk_at "w"
        refine w_div hp1 (by omega) ?_
        rw [Int.ediv_self (by omega)]
        walk_at "w"
        refine w_while (fun _ σ H' => Same H H' ∧ ∃ z0 z1 z2 z3 z4 z5 z6 z7 z8 z9 z11 z12 z13 z16, σ = [z0, z1, z2, z3, z4, z5, z6, z7, z8, z9, some (.int k), z11, z12, z13, some (.int 1), some (.int 2), z16]) 0 ⟨(s4.u hp3).trans s6, _, _, _, _, _, _, _, _, _, _, _, _, _, _, rfl⟩ ?_
        rintro _ σ H' ⟨s7, z0, z1, z2, z3, z4, z5, z6, z7, z8, z9, z11, z12, z13, z16, rfl⟩
        walk_at "w"
        refine if_dF (by decide) ?_
        walk_at "w"
        exact q _ s7
end


section
variable {w : World} {K : PySem.W.Frag} {mg : Str → Option Value} {base : Heap}
/-- what is_shuffle_for answers -/
def isSh (ns : List Int) (n : Nat) : Bool := if n = 1 then decide ((ns.drop 1).sum % 2 = 1) else decide ((ns.drop 1).headD 0 % 2 = 1) && (decide ((evs (ns.drop 2)).sum % 2 = 0) && decide ((evs (ns.drop 3)).sum % 2 = 0))
theorem cut_drop (ns : List Int) (k : Nat) : cutV (ns.map V.int) (some (k : Int)) none = (ns.drop k).map V.int := by
  unfold cutV
  rw [HT.sIx_nat, HT.sIx_none, List.length_map, List.map_drop]
  by_cases h : k ≤ ns.length
  · rw [Nat.min_eq_left h, List.take_of_length_le (by rw [List.length_drop, List.length_map]; exact Nat.le_refl _)]
  · rw [Nat.min_eq_right (by omega), Nat.sub_self, List.take_zero, List.drop_eq_nil_of_le (by rw [List.length_map]; omega)]
theorem sc_is_shuffle_for : FnScope ns_is_shuffle_for ps_is_shuffle_for (defScope s_is_shuffle_for) := ⟨rfl, rfl, rfl, by decide +kernel, rfl, by decide +kernel, by decide +kernel⟩
def sp_is_shuffle_for (K : PySem.W.Frag) : Sp := fun vs H Q _ => ∃ (t : Addr) (ns : List Int) (n : Nat), vs = [.ref t, .int n] ∧ SqT K H t (ns.map V.int) ∧ ∀ H', Same H H' → Q (.bl (isSh ns n)) H'
theorem ok_is_shuffle_for (T : Txt w K mg) : Has PP w K mg base d_is_shuffle_for 1 ps_is_shuffle_for (sp_is_shuffle_for K) := by
  refine mkHas T.f_is_shuffle_for sc_is_shuffle_for (fun _ _ _ _ _ _ us hl => match us, hl with | [_, _], _ => rfl) (fun vs H Q E h => ?_) (fun cdv A outer s H vs Q E hr h => ⟨_, (pss_cons (ps_if (pt_cmpR op_eq (pv 1) pe_int (nomark _)) (pss_one (ps_ret (pe_cmpR op_eq (pe_op op_mod (pe_callB (ca_sumT rfl) rfl T.n_sum (by kernel_rfl) (pa_cons (pe_slice sl_tupA (pv 0) (po_some pe_int) po_none) pa_nil)) pe_int) pe_int (nomark _)))) pss_nil)
 (pss_cons (ps_set (i := 2) sc_is_shuffle_for.nd rfl (Or.inl rfl) (pe_ifExp (pt_cmpR op_gt (pe_callB ca_len rfl T.n_len PySem.boot_len (pa_cons (pv 0) pa_nil)) pe_int (nomark _)) (pe_ix (r := rIxT K) ix_tup (pv 0) pe_int (fun _ _ => rfl)) pe_int))
 (pss_one (ps_ret (pe_and (pe_cmpR op_eq (pe_op op_mod (pv 2) pe_int) pe_int (nomark _)) (pe_and (pe_cmpR op_eq (pe_op op_mod (pe_callB (ca_sumT rfl) rfl T.n_sum (by kernel_rfl) (pa_cons (pe_stp2 (a := 2) (pv 0)) pa_nil)) pe_int) pe_int (nomark _)) (pe_one (pe_cmpR op_eq (pe_op op_mod (pe_callB (ca_sumT rfl) rfl T.n_sum (by kernel_rfl) (pa_cons (pe_stp2 (a := 3) (pv 0)) pa_nil)) pe_int) pe_int (nomark _))))))))), ?_⟩)
  · obtain ⟨t, ns, n, rfl, _⟩ := h
    rfl
  · obtain ⟨t, ns, n, rfl, ht, q⟩ := h
    unfold isSh at q
    walk_at "w"
    refine if_d (fun c => ?_) (fun c => ?_)
    · have c' : n = 1 := by omega
      rw [if_pos c'] at q
      walk_at "w"
      refine w_slT ht fun p H1 s1 hp => ?_
      have e := cut_drop ns 1
      rw [show ((1 : Nat) : Int) = 1 from rfl] at e
      rw [e] at hp
      walk_at "w"
      refine w_rsumT hp ?_
      walk_at "w"
      refine w_I (show (0 : Int) < 2 by decide) ?_
      walk_at "w"
      exact q _ s1
    · have c' : ¬ n = 1 := by omega
      rw [if_neg c'] at q
      walk_at "w"
      refine w_rlenT ht ?_
      rw [List.length_map]
      walk_at "w"
      have e3 : (ns.map V.int).drop 3 = (ns.drop 3).map V.int := (List.map_drop ..).symm
      have e2 : (ns.map V.int).drop 2 = (ns.drop 2).map V.int := (List.map_drop ..).symm
      refine if_d (fun c1 => ?_) (fun c1 => ?_)
      · obtain ⟨a, ha⟩ : ∃ a, ns[1]? = some a := ⟨ns[1]'(by omega), List.getElem?_eq_getElem _⟩
        have hh : (ns.drop 1).headD 0 = a := by
          cases ns with
          | nil => cases ha
          | cons b ns =>
            cases ns with
            | nil => cases ha
            | cons d ns => cases ha; rfl
        rw [hh] at q
        clear hh
        walk_at "w"
        refine w_ixT ht (atI_nat (j := 1) (v := .int a) (by rw [List.getElem?_map, ha]; rfl)) ?_
        walk_at "w"
        refine w_I (show (0 : Int) < 2 by decide) ?_
        walk_at "w"
        refine if_d (fun d1 => ?_) (fun d1 => ?_)
        · rw [decide_eq_true d1, Bool.true_and] at q
          walk_at "w"
          refine w_stp2T ht fun p1 hp1 => ?_
          rw [show (((2 : Nat) : Int)).toNat = 2 from rfl, e2, evs_map]
          have s1 := sameU (o := .tup ((evs (ns.drop 2)).map V.int)) hp1
          walk_at "w"
          refine w_rsumT sqTu ?_
          walk_at "w"
          refine w_I (show (0 : Int) < 2 by decide) ?_
          walk_at "w"
          refine if_d (fun d2 => ?_) (fun d2 => ?_)
          · rw [decide_eq_true d2, Bool.true_and] at q
            walk_at "w"
            refine w_stp2T (s1.tq ht) fun p2 hp2 => ?_
            rw [show (((3 : Nat) : Int)).toNat = 3 from rfl, e3, evs_map]
            have s2 := s1.u (o := .tup ((evs (ns.drop 3)).map V.int)) hp2
            walk_at "w"
            refine w_rsumT sqTu ?_
            walk_at "w"
            refine w_I (show (0 : Int) < 2 by decide) ?_
            walk_at "w"
            exact q _ s2
          · rw [decide_eq_false d2, Bool.false_and] at q
            exact q _ s1
        · rw [decide_eq_false d1, Bool.false_and] at q
          exact q _ (Same.refl _)
      · have hh : (ns.drop 1).headD 0 = 0 := by rw [List.drop_eq_nil_of_le (by omega)]; rfl
        rw [hh] at q
        walk_at "w"
        refine w_I (show (0 : Int) < 2 by decide) ?_
        walk_at "w"
        refine if_dF (by decide) ?_
        exact q _ (Same.refl _)
theorem sc_check_shuffle : FnScope ns_check_shuffle ps_check_shuffle (defScope s_check_shuffle) := ⟨rfl, rfl, rfl, by decide +kernel, rfl, by decide +kernel, by decide +kernel⟩
def sp_check_shuffle (K : PySem.W.Frag) : Sp := fun vs H Q _ => ∃ (r : Addr) (ns : List Int) (n : Nat), vs = [.ref r, .int n] ∧ IsRule K H r ns ∧ isSh ns n = true ∧ ∀ H', Same H H' → Q .non H'
theorem ok_check_shuffle (T : Txt w K mg) : Has PP w K mg base d_check_shuffle 3 ps_check_shuffle (sp_check_shuffle K) := by
  refine mkHas T.f_check_shuffle sc_check_shuffle (fun _ _ _ _ _ _ us hl => match us, hl with | [_, _], _ => rfl) (fun vs H Q E h => ?_) (fun cdv A outer s H vs Q E hr h => ⟨_, (pss_one (ps_if (pt_not (pt_val (cF (ok_is_shuffle_for T) (hr.mono (by decide)) T.g_is_shuffle_for (pa_cons (cP (ok_Rule_numbers T) T.clR T.p_Rule_numbers (hr.mono (by decide)) (pv 0)) (pa_cons (pv 1) pa_nil))))) (pss_one ps_never) pss_nil)), ?_⟩)
  · obtain ⟨t, ns, n, rfl, _⟩ := h
    rfl
  · obtain ⟨r, ns, n, rfl, h1, h2, q⟩ := h
    walk_at "w"
    refine w_numbers h1 fun t ht => ?_
    walk_at "w"
    refine ⟨t, ns, n, rfl, ht, fun H' s1 => ?_⟩
    rw [h2]
    walk_at "w"
    exact q _ s1
theorem sc_check_asked : FnScope ns_check_asked ps_check_asked (defScope s_check_asked) := ⟨rfl, rfl, rfl, by decide +kernel, rfl, by decide +kernel, by decide +kernel⟩
def sp_check_asked (K : PySem.W.Frag) : Sp := fun vs H Q _ => ∃ (r : Addr) (ns : List Int) (n : Nat) (x : Int), vs = [.ref r, .int n, .int x] ∧ IsRule K H r ns ∧ (1 ≤ n ∧ n ≤ 64) ∧ (0 ≤ x ∧ x < 2 ^ n) ∧ Q .non H
theorem ok_check_asked (T : Txt w K mg) : Has PP w K mg base d_check_asked 4 ps_check_asked (sp_check_asked K) := by
  refine mkHas T.f_check_asked sc_check_asked (fun _ _ _ _ _ _ us hl => match us, hl with | [_, _, _], _ => rfl) (fun vs H Q E h => ?_) (fun cdv A outer s H vs Q E hr h => ⟨_, (pss_cons (ps_expr (cF (ok_check_rule T) (hr.mono (by decide)) T.g_check_rule (pa_cons (pv 0) pa_nil)))
 (pss_cons (ps_expr (cF (ok_check_bits T) (hr.mono (by decide)) T.g_check_bits (pa_cons (pv 1) pa_nil)))
 (pss_one (ps_expr (cF (ok_check_word T) (hr.mono (by decide)) T.g_check_word (pa_cons (pv 2) (pa_cons (pv 1) pa_nil))))))), ?_⟩)
  · obtain ⟨t, ns, n, x, rfl, _⟩ := h
    rfl
  · obtain ⟨r, ns, n, x, rfl, h1, hn, hx, q⟩ := h
    walk_at "w"
    refine ⟨r, ns, rfl, h1, ?_⟩
    walk_at "w"
    refine ⟨n, rfl, by omega, ?_⟩
    walk_at "w"
    refine ⟨x, n, rfl, hn.2, hx, ?_⟩
    walk_at "w"
    exact q
theorem sc_walked : FnScope ns_walked ps_walked (defScope s_walked) := ⟨rfl, rfl, rfl, by decide +kernel, rfl, by decide +kernel, by decide +kernel⟩
def sp_walked (K : PySem.W.Frag) : Sp := fun vs H Q _ => ∃ (r : Addr) (ns : List Int) (n : Nat) (x : Int) (L : Nat), vs = [.ref r, .int n, .int x] ∧ IsRule K H r ns ∧ n ≤ 64 ∧ (0 ≤ x ∧ x < 2 ^ n) ∧ Cyc ns n x L 0 ∧ ∀ p H', Same H H' → H' p = some (.lst (orb ns n x L)) → Q (.ref p) H'
theorem ok_walked (T : Txt w K mg) : Has PP w K mg base d_walked 4 ps_walked (sp_walked K) := by
  refine mkHas T.f_walked sc_walked (fun _ _ _ _ _ _ us hl => match us, hl with | [_, _, _], _ => rfl) (fun vs H Q E h => ?_) (fun cdv A outer s H vs Q E hr h => ⟨_, (pss_cons (ps_par (i := 3) (j := 4) rfl sc_walked.nd rfl rfl (by decide) rfl rfl (pa_cons (pe_lst (pa_cons (pv 2) pa_nil)) (pa_cons (cM (ok_Rule_next_of T) T.clR T.mR_next_of (hr.mono (by decide)) (pv 0) (pa_cons (pv 1) (pa_cons (pv 2) pa_nil))) pa_nil)) rfl)
 (pss_cons (ps_while (passes_of rfl) (pt_cmpR op_ne (pv 4) (pv 2) (nomark _))
 (pss_cons (ps_expr (pe_bm PySem.F.plainAttrs_list PySem.F.slot_list_append PySem.F.type_list_append mt_append (pv 3) (pa_cons (pv 4) pa_nil)))
 (pss_one (ps_set (i := 4) sc_walked.nd rfl (Or.inl rfl) (cM (ok_Rule_next_of T) T.clR T.mR_next_of (hr.mono (by decide)) (pv 0) (pa_cons (pv 1) (pa_cons (pv 4) pa_nil)))))))
 (pss_one (ps_ret (pv 3))))), ?_⟩)
  · obtain ⟨t, ns, n, x, L, rfl, _⟩ := h
    rfl
  · obtain ⟨r, ns, n, x, L, rfl, h1, hn, hx, c, q⟩ := h
    have hc := c.le
    have hlt := c.lt
    have hm : ∃ dx fs, H r = some (.ins (He.ga K "Rule") dx fs) ∧ fs.lookup ("next_of" : Str) = none := by
      obtain ⟨dx, t, e, _⟩ := h1
      exact ⟨dx, _, e, rfl⟩
    obtain ⟨dx, fs, hm1, hm2⟩ := hm
    walk_at "w"
    refine ⟨le_line (by simp), fun f hf => ?_⟩
    have s1 := sameU (o := .lst [.int x]) hf
    walk_at "w"
    refine ⟨r, dx, fs, rfl, s1 _ _ hm1, hm2, ?_⟩
    walk_at "w"
    refine ⟨r, ns, n, x, rfl, h1.at s1, hn, hx, fun H2 s2 => ?_⟩
    have s3 := s1.trans s2
    walk_at "w"
    refine w_while (fun k σ H' => ∃ m, k = L - m ∧ m < L ∧ Same H H' ∧ σ = [some (.ref r), some (.int n), some (.int x), some (.ref f), some (.int (itn ns n (m + 1) x))] ∧ H' f = some (.lst (orb ns n x (m + 1)))) L ⟨0, by omega, by omega, s3, rfl, s2 _ _ upd_same⟩ ?_
    rintro k σ H' ⟨m, rfl, hm, s4, rfl, hf4⟩
    have hr4 := itn_range (ns := ns) hx (m + 1)
    walk_at "w"
    by_cases e : m + 1 = L
    · have e1 : itn ns n (m + 1) x = x := by rw [e]; exact c.back
      refine if_dnF e1 ?_
      walk_at "w"
      rw [e] at hf4
      exact q f _ s4 hf4
    · have e1 : ¬ itn ns n (m + 1) x = x := fun z => c.inj 0 (m + 1) (by omega) (by omega) z.symm
      refine if_dnT e1 ?_
      walk_at "w"
      refine ⟨tyL (sqL hf4), ?_⟩
      walk_at "w"
      refine w_app hf4 (by rw [orb_len]; exact lt_line (by omega)) ?_
      rw [← orb_succ]
      have s5 := s4.w (o := .lst (orb ns n x (m + 1 + 1))) hf
      have h5 : (upd H' f (.lst (orb ns n x (m + 1 + 1)))) f = some (.lst (orb ns n x (m + 1 + 1))) := upd_same
      generalize upd H' f (.lst (orb ns n x (m + 1 + 1))) = H5 at s5 h5
      walk_at "w"
      refine ⟨r, dx, fs, rfl, s5 _ _ hm1, hm2, ?_⟩
      walk_at "w"
      refine ⟨r, ns, n, _, rfl, h1.at s5, hn, hr4, fun H6 s6 => ?_⟩
      walk_at "w"
      exact ⟨_, by omega, m + 1, rfl, by omega, s5.trans s6, rfl, s6 _ _ h5⟩
theorem sc_is_ring_for : FnScope ns_is_ring_for ps_is_ring_for (defScope s_is_ring_for) := ⟨rfl, rfl, rfl, by decide +kernel, rfl, by decide +kernel, by decide +kernel⟩
def sp_is_ring_for (K : PySem.W.Frag) : Sp := fun vs H Q _ => ∃ (r : Addr) (ns : List Int) (L : Nat), vs = [.ref r, .int 3] ∧ IsRule K H r ns ∧ (isSh ns 3 = true → Cyc ns 3 0 L 0) ∧ ∀ H', Same H H' → Q (.bl (isSh ns 3 && decide (L = 8))) H'
theorem ok_is_ring_for (T : Txt w K mg) : Has PP w K mg base d_is_ring_for 5 ps_is_ring_for (sp_is_ring_for K) := by
  refine mkHas T.f_is_ring_for sc_is_ring_for (fun _ _ _ _ _ _ us hl => match us, hl with | [_, _], _ => rfl) (fun vs H Q E h => ?_) (fun cdv A outer s H vs Q E hr h => ⟨_, (pss_cons (ps_set (i := 2) sc_is_ring_for.nd rfl (Or.inl rfl) (pe_callB (ca_min2 rfl) rfl T.n_min (by kernel_rfl) (pa_cons (pv 1) (pa_cons (pe_gi rfl T.c_MOST_ASKED) pa_nil))))
 (pss_cons (ps_if (pt_not (pt_val (cF (ok_is_shuffle_for T) (hr.mono (by decide)) T.g_is_shuffle_for (pa_cons (cP (ok_Rule_numbers T) T.clR T.p_Rule_numbers (hr.mono (by decide)) (pv 0)) (pa_cons (pv 2) pa_nil))))) (pss_one (ps_ret pe_bl)) pss_nil)
 (pss_one (ps_ret (pe_cmpR op_eq (pe_callB ca_len rfl T.n_len PySem.boot_len (pa_cons (cF (ok_walked T) (hr.mono (by decide)) T.g_walked (pa_cons (pv 0) (pa_cons (pv 2) (pa_cons pe_int pa_nil)))) pa_nil)) (cF (ok_size_of T) (hr.mono (by decide)) T.g_size_of (pa_cons (pv 2) pa_nil)) (nomark _)))))), ?_⟩)
  · obtain ⟨t, ns, L, rfl, _⟩ := h
    rfl
  · obtain ⟨r, ns, L, rfl, h1, h2, q⟩ := h
    walk_at "w"
    rw [show (if (3 : Int) < 3 then (3 : Int) else 3) = ((3 : Nat) : Int) from rfl]
    refine w_numbers h1 fun t ht => ?_
    walk_at "w"
    refine ⟨t, ns, 3, rfl, ht, fun H1 s1 => ?_⟩
    walk_at "w"
    cases e : isSh ns 3 with
    | false =>
      rw [e, Bool.false_and] at q
      walk_at "w"
      exact q _ s1
    | true =>
      rw [e, Bool.true_and] at q
      walk_at "w"
      refine ⟨r, ns, 3, 0, L, rfl, h1.at s1, by decide, by decide, h2 e, fun p H2 s2 hp => ?_⟩
      walk_at "w"
      refine w_rlenL (sqL hp) ?_
      rw [orb_len]
      walk_at "w"
      refine ⟨3, rfl, by decide, ?_⟩
      walk_at "w"
      refine q_bl ?_ (q _ (s1.trans s2))
      rw [show (2 : Int) ^ 3 = ((8 : Nat) : Int) from rfl]
      exact decide_eq_decide.mpr (by omega)
theorem sc_check_turns : FnScope ns_check_turns ps_check_turns (defScope s_check_turns) := ⟨rfl, rfl, rfl, by decide +kernel, rfl, by decide +kernel, by decide +kernel⟩
def sp_check_turns : Sp := fun vs H Q _ => ∃ m : Nat, vs = [.int m] ∧ m ≤ 10 ^ 30 ∧ Q .non H
theorem ok_check_turns (T : Txt w K mg) : Has PP w K mg base d_check_turns 3 ps_check_turns sp_check_turns := by
  refine mkHas T.f_check_turns sc_check_turns (fun _ _ _ _ _ _ us hl => match us, hl with | [_], _ => rfl) (fun vs H Q E h => ?_) (fun cdv A outer s H vs Q E hr h => ⟨_, (pss_one (ps_if (pt_not (pt_val (cF (ok_is_between T) (hr.mono (by decide)) T.g_is_between (pa_cons (pv 0) (pa_cons (pe_un un_neg (pe_gi rfl T.c_MOST_NUMBER)) (pa_cons (pe_gi rfl T.c_MOST_NUMBER) pa_nil)))))) (pss_one ps_never) pss_nil)), ?_⟩)
  · obtain ⟨m, rfl, _⟩ := h
    rfl
  · obtain ⟨m, rfl, hm, q⟩ := h
    walk_at "w"
    refine ⟨_, _, _, rfl, ?_⟩
    walk_at "w"
    refine if_dnF (by omega) ?_
    walk_at "w"
    exact q
theorem sc_check_back : FnScope ns_check_back ps_check_back (defScope s_check_back) := ⟨rfl, rfl, rfl, by decide +kernel, rfl, by decide +kernel, by decide +kernel⟩
def sp_check_back : Sp := fun vs H Q _ => ∃ (a b : V) (m : Nat), vs = [a, b, .int m] ∧ Q .non H
theorem ok_check_back (T : Txt w K mg) : Has PP w K mg base d_check_back 4 ps_check_back sp_check_back := by
  refine mkHas T.f_check_back sc_check_back (fun _ _ _ _ _ _ us hl => match us, hl with | [_, _, _], _ => rfl) (fun vs H Q E h => ?_) (fun cdv A outer s H vs Q E hr h => ⟨_, (pss_one (ps_if (pt_cmpR op_lt (pv 2) pe_int (nomark _)) (pss_one (ps_expr (cF (ok_check_shuffle T) (hr.mono (by decide)) T.g_check_shuffle (pa_cons (pv 0) (pa_cons (pv 1) pa_nil))))) pss_nil)), ?_⟩)
  · obtain ⟨a, b, m, rfl, _⟩ := h
    rfl
  · obtain ⟨a, b, m, rfl, q⟩ := h
    walk_at "w"
    refine if_dF (by omega) ?_
    walk_at "w"
    exact q
theorem sc_reached : FnScope ns_reached ps_reached (defScope s_reached) := ⟨rfl, rfl, rfl, by decide +kernel, rfl, by decide +kernel, by decide +kernel⟩
def sp_reached (K : PySem.W.Frag) : Sp := fun vs H Q _ => ∃ (r : Addr) (ns : List Int) (n : Nat) (x : Int) (L j m : Nat), vs = [.ref r, .int n, .int x, .int m] ∧ IsRule K H r ns ∧ (1 ≤ n ∧ n ≤ 6) ∧ (0 ≤ x ∧ x < 2 ^ n) ∧ Cyc ns n x L j ∧ ∀ H', Same H H' → Q (.int (itn ns n m x)) H'
theorem ok_reached (T : Txt w K mg) : Has PP w K mg base d_reached 6 ps_reached (sp_reached K) := by
  refine mkHas T.f_reached sc_reached (fun _ _ _ _ _ _ us hl => match us, hl with | [_, _, _, _], _ => rfl) (fun vs H Q E h => ?_) (fun cdv A outer s H vs Q E hr h => ⟨_, (pss_cons (ps_set (i := 4) sc_reached.nd rfl (Or.inl rfl) (pe_lst (pa_cons (cP (ok_Rule_numbers T) T.clR T.p_Rule_numbers (hr.mono (by decide)) (pv 0)) pa_nil)))
 (pss_cons (ps_if (pt_cmpR op_lt (pv 3) pe_int (nomark _)) (pss_one (ps_set (i := 3) sc_reached.nd rfl (Or.inl rfl) (pe_op op_mod (pv 3) (cF (ok_ring_size T) (hr.mono (by decide)) T.g_ring_size (pa_cons (pv 4) (pa_cons (pv 1) (pa_cons (pv 2) pa_nil))))))) pss_nil)
 (pss_one (ps_ret (cF (ok_word_after T) (hr.mono (by decide)) T.g_word_after (pa_cons (pv 4) (pa_cons (pv 1) (pa_cons (pv 2) (pa_cons (pv 3) pa_nil))))))))), ?_⟩)
  · obtain ⟨r, ns, n, x, L, j, m, rfl, _⟩ := h
    rfl
  · obtain ⟨r, ns, n, x, L, j, m, rfl, h1, hn, hx, c, q⟩ := h
    walk_at "w"
    refine w_numbers h1 fun t ht => ?_
    walk_at "w"
    refine ⟨le_line (by simp), fun p hp => ?_⟩
    have s1 := sameU (o := .lst [.ref t]) hp
    walk_at "w"
    refine if_dF (by omega) ?_
    walk_at "w"
    exact ⟨p, t, ns, n, x, L, j, m, rfl, sqLu, s1.tq ht, hn, hx, c, fun H' s2 => q _ (s1.trans s2)⟩
theorem sc_after : FnScope ns_after ps_after (defScope s_after) := ⟨rfl, rfl, rfl, by decide +kernel, rfl, by decide +kernel, by decide +kernel⟩
def sp_after (K : PySem.W.Frag) : Sp := fun vs H Q _ => ∃ (r : Addr) (ns : List Int) (n : Nat) (x : Int) (L j m : Nat), vs = [.ref r, .int n, .int x, .int m] ∧ IsRule K H r ns ∧ (1 ≤ n ∧ n ≤ 6) ∧ (0 ≤ x ∧ x < 2 ^ n) ∧ m ≤ 10 ^ 30 ∧ Cyc ns n x L j ∧ ∀ H', Same H H' → Q (.int (itn ns n m x)) H'
theorem ok_after (T : Txt w K mg) : Has PP w K mg base d_after 7 ps_after (sp_after K) := by
  refine mkHas T.f_after sc_after (fun _ _ _ _ _ _ us hl => match us, hl with | [_, _, _, _], _ => rfl) (fun vs H Q E h => ?_) (fun cdv A outer s H vs Q E hr h => ⟨_, (pss_cons (ps_expr (cF (ok_check_asked T) (hr.mono (by decide)) T.g_check_asked (pa_cons (pv 0) (pa_cons (pv 1) (pa_cons (pv 2) pa_nil)))))
 (pss_cons (ps_expr (cF (ok_check_turns T) (hr.mono (by decide)) T.g_check_turns (pa_cons (pv 3) pa_nil)))
 (pss_cons (ps_expr (cF (ok_check_back T) (hr.mono (by decide)) T.g_check_back (pa_cons (pv 0) (pa_cons (pv 1) (pa_cons (pv 3) pa_nil)))))
 (pss_one (ps_ret (cF (ok_reached T) (hr.mono (by decide)) T.g_reached (pa_cons (pv 0) (pa_cons (pv 1) (pa_cons (pv 2) (pa_cons (pv 3) pa_nil)))))))))), ?_⟩)
  · obtain ⟨r, ns, n, x, L, j, m, rfl, _⟩ := h
    rfl
  · obtain ⟨r, ns, n, x, L, j, m, rfl, h1, hn, hx, hm, c, q⟩ := h
    walk_at "w"
    refine ⟨r, ns, n, x, rfl, h1, by omega, hx, ?_⟩
    walk_at "w"
    refine ⟨m, rfl, hm, ?_⟩
    walk_at "w"
    refine ⟨_, _, m, rfl, ?_⟩
    walk_at "w"
    exact ⟨r, ns, n, x, L, j, m, rfl, h1, hn, hx, c, q⟩
theorem sc_turns_to : FnScope ns_turns_to ps_turns_to (defScope s_turns_to) := ⟨rfl, rfl, rfl, by decide +kernel, rfl, by decide +kernel, by decide +kernel⟩
def sp_turns_to (K : PySem.W.Frag) : Sp := fun vs H Q _ => ∃ (r : Addr) (ns : List Int) (n : Nat) (x y : Int) (L j : Nat), vs = [.ref r, .int n, .int x, .int y] ∧ IsRule K H r ns ∧ (1 ≤ n ∧ n ≤ 6) ∧ (0 ≤ x ∧ x < 2 ^ n) ∧ (0 ≤ y ∧ y < 2 ^ n) ∧ isSh ns n = true ∧ Cyc ns n x L j ∧ ∀ H', Same H H' → Q (optV (spots ns n x y L).head?) H'
theorem ok_turns_to (T : Txt w K mg) : Has PP w K mg base d_turns_to 6 ps_turns_to (sp_turns_to K) := by
  refine mkHas T.f_turns_to sc_turns_to (fun _ _ _ _ _ _ us hl => match us, hl with | [_, _, _, _], _ => rfl) (fun vs H Q E h => ?_) (fun cdv A outer s H vs Q E hr h => ⟨_, (pss_cons (ps_expr (cF (ok_check_asked T) (hr.mono (by decide)) T.g_check_asked (pa_cons (pv 0) (pa_cons (pv 1) (pa_cons (pv 2) pa_nil)))))
 (pss_cons (ps_expr (cF (ok_check_word T) (hr.mono (by decide)) T.g_check_word (pa_cons (pv 3) (pa_cons (pv 1) pa_nil))))
 (pss_cons (ps_expr (cF (ok_check_shuffle T) (hr.mono (by decide)) T.g_check_shuffle (pa_cons (pv 0) (pa_cons (pv 1) pa_nil))))
 (pss_one (ps_ret (cF (ok_rounds_between T) (hr.mono (by decide)) T.g_rounds_between (pa_cons (pe_lst (pa_cons (cP (ok_Rule_numbers T) T.clR T.p_Rule_numbers (hr.mono (by decide)) (pv 0)) pa_nil)) (pa_cons (pv 1) (pa_cons (pv 2) (pa_cons (pv 3) pa_nil)))))))))), ?_⟩)
  · obtain ⟨r, ns, n, x, y, L, j, rfl, _⟩ := h
    rfl
  · obtain ⟨r, ns, n, x, y, L, j, rfl, h1, hn, hx, hy, hs, c, q⟩ := h
    walk_at "w"
    refine ⟨r, ns, n, x, rfl, h1, by omega, hx, ?_⟩
    walk_at "w"
    refine ⟨y, n, rfl, by omega, hy, ?_⟩
    walk_at "w"
    refine ⟨r, ns, n, rfl, h1, hs, fun H1 s1 => ?_⟩
    walk_at "w"
    refine w_numbers (h1.at s1) fun t ht => ?_
    walk_at "w"
    refine ⟨le_line (by simp), fun p hp => ?_⟩
    have s2 := s1.u (o := .lst [.ref t]) hp
    walk_at "w"
    exact ⟨p, t, ns, n, x, y, L, j, rfl, sqLu, (sameU hp).tq ht, hn, hx, hy, c, fun H' s3 => q _ (s2.trans s3)⟩
end


/-! ### wishes -/
inductive Wish where
  | ring (nm : Str)
  | noring (nm : Str)
  | shuffle (nm : Str)
  | length (nm : Str) (n : Nat) (x : Int) (m : Nat)
  | after (nm : Str) (n : Nat) (x : Int) (m : Nat) (y : Int)
  | comes (nm : Str) (n : Nat) (x y : Int)
deriving DecidableEq
def wk : Wish → Str
  | .ring _ => "ring"
  | .noring _ => "no ring"
  | .shuffle _ => "shuffle"
  | .length .. => "length"
  | .after .. => "after"
  | .comes .. => "comes"
def wn : Wish → Str
  | .ring nm => nm
  | .noring nm => nm
  | .shuffle nm => nm
  | .length nm .. => nm
  | .after nm .. => nm
  | .comes nm .. => nm
def wa : Wish → List Int
  | .ring _ => []
  | .noring _ => []
  | .shuffle _ => []
  | .length _ n x m => [n, x, m]
  | .after _ n x m y => [n, x, m, y]
  | .comes _ n x y => [n, x, y]
def wishV (wi : Wish) : List V := .str (wk wi) :: .str (wn wi) :: (wa wi).map V.int
def wishD (wi : Wish) : PyData := .tuple (.str (wk wi) :: .str (wn wi) :: (wa wi).map PyData.int)
structure WishOk (wi : Wish) : Prop where
  nm : wn wi ∈ NAMES
  ok : match wi with
    | .length _ n x m => (1 ≤ n ∧ n ≤ 5) ∧ (0 ≤ x ∧ x < 2 ^ n) ∧ m ≤ 10 ^ 30
    | .after _ n x m y => (1 ≤ n ∧ n ≤ 5) ∧ (0 ≤ x ∧ x < 2 ^ n) ∧ m ≤ 10 ^ 30 ∧ (0 ≤ y ∧ y < 2 ^ n)
    | .comes _ n x y => (1 ≤ n ∧ n ≤ 5) ∧ (0 ≤ x ∧ x < 2 ^ n) ∧ (0 ≤ y ∧ y < 2 ^ n)
    | _ => True
theorem wk_len : ∀ wi : Wish, (wk wi, He.Dv.int ((wishV wi).length : Nat)) ∈ lenKV
  | .ring _ => .head _
  | .noring _ => .tail _ (.head _)
  | .shuffle _ => .tail _ (.tail _ (.head _))
  | .length .. => .tail _ (.tail _ (.tail _ (.head _)))
  | .after .. => .tail _ (.tail _ (.tail _ (.tail _ (.head _))))
  | .comes .. => .tail _ (.tail _ (.tail _ (.tail _ (.tail _ (.head _)))))
theorem name_ok {z : Str} (h : z ∈ NAMES) : PyData.canLay0 (.str z) = true := by
  simp only [NAMES, List.mem_cons, List.not_mem_nil, or_false] at h
  rcases h with rfl | rfl | rfl <;> decide +kernel
theorem kind_ok : ∀ wi : Wish, PyData.canLay0 (.str (wk wi)) = true
  | .ring _ => (by decide +kernel : PyData.canLay0 (.str "ring") = true)
  | .noring _ => (by decide +kernel : PyData.canLay0 (.str "no ring") = true)
  | .shuffle _ => (by decide +kernel : PyData.canLay0 (.str "shuffle") = true)
  | .length .. => (by decide +kernel : PyData.canLay0 (.str "length") = true)
  | .after .. => (by decide +kernel : PyData.canLay0 (.str "after") = true)
  | .comes .. => (by decide +kernel : PyData.canLay0 (.str "comes") = true)
theorem shWish {wi : Wish} (h : WishOk wi) : SeqAt.shaped (wishD wi) = true := by
  show ((PyData.canLay0 (.str (wk wi)) && (PyData.canLay0 (.str (wn wi)) && PyData.canLayAll0 ((wa wi).map PyData.int))) && decide (max 0 (max 0 (PyData.depthAll ((wa wi).map PyData.int))) + 1 ≤ 64)) = true
  rw [kind_ok, name_ok h.nm, canInts, depInts]
  rfl
theorem dpWish {K : PySem.W.Frag} {H : Hp} {a : Addr} {wi : Wish} (h : SqT K H a (wishV wi)) : Dp K H (.ref a) (wishD wi) := .tup h (.cons (.str _) (.cons (.str _) (dpInts _)))
section
variable {w : World} {K : PySem.W.Frag} {mg : Str → Option Value} {base : Heap}
theorem sc_is_word : FnScope ns_is_word ps_is_word (defScope s_is_word) := ⟨rfl, rfl, rfl, by decide +kernel, rfl, by decide +kernel, by decide +kernel⟩
def sp_is_word : Sp := fun vs H Q _ => ∃ (x : Int) (n : Nat), vs = [.int x, .int n] ∧ n ≤ 64 ∧ (0 ≤ x ∧ x < 2 ^ n) ∧ Q (.bl true) H
theorem ok_is_word (T : Txt w K mg) : Has PP w K mg base d_is_word 3 ps_is_word sp_is_word := by
  refine mkHas T.f_is_word sc_is_word (fun _ _ _ _ _ _ us hl => match us, hl with | [_, _], _ => rfl) (fun vs H Q E h => ?_) (fun cdv A outer s H vs Q E hr h => ⟨_, (pss_one (ps_ret (cF (ok_is_between T) (hr.mono (by decide)) T.g_is_between (pa_cons (pv 0) (pa_cons pe_int (pa_cons (pe_op op_sub (cF (ok_size_of T) (hr.mono (by decide)) T.g_size_of (pa_cons (pv 1) pa_nil)) pe_int) pa_nil)))))), ?_⟩)
  · obtain ⟨x, n, rfl, _⟩ := h
    rfl
  · obtain ⟨x, n, rfl, hn, hx, q⟩ := h
    walk_at "w"
    refine ⟨n, rfl, hn, ?_⟩
    walk_at "w"
    exact ⟨_, _, _, rfl, q_bl (by rw [decide_eq_true (by omega)]) q⟩
theorem sc_are_bits_and_words : FnScope ns_are_bits_and_words ps_are_bits_and_words (defScope s_are_bits_and_words) := ⟨rfl, rfl, rfl, by decide +kernel, rfl, by decide +kernel, by decide +kernel⟩
def sp_are_bits_and_words (K : PySem.W.Frag) : Sp := fun vs H Q _ => ∃ (t : Addr) (xs : List Int) (n : Nat), vs = [.int n, .ref t] ∧ SqT K H t (xs.map V.int) ∧ xs.length ≤ 10 ∧ (1 ≤ n ∧ n ≤ 64) ∧ (∀ x ∈ xs, 0 ≤ x ∧ x < 2 ^ n) ∧ ∀ H', Same H H' → Q (.bl true) H'
theorem ok_are_bits_and_words (T : Txt w K mg) : Has PP w K mg base d_are_bits_and_words 4 ps_are_bits_and_words (sp_are_bits_and_words K) := by
  refine mkHas T.f_are_bits_and_words sc_are_bits_and_words (fun _ _ _ _ _ _ us hl => match us, hl with | [_, _], _ => rfl) (fun vs H Q E h => ?_) (fun cdv A outer s H vs Q E hr h => ⟨_, (pss_one (ps_ret (pe_and (cF (ok_is_between T) (hr.mono (by decide)) T.g_is_between (pa_cons (pv 0) (pa_cons pe_int (pa_cons (pe_gi rfl T.c_MOST_BITS) pa_nil)))) (pe_one (pe_callB (cr_all rfl) rfl T.n_all (by kernel_rfl) (pa_cons (pe_lc rfl sc_are_bits_and_words.nd (pi_tup (pv 1)) (blkOk_by (own := [("word", 2)]) (N := ns_are_bits_and_words) (sc := defScope s_are_bits_and_words) (by decide +kernel)) (fun _ _ _ _ _ => pg_name (i := 2) sc_are_bits_and_words.nd rfl (Or.inl rfl)) (fun _ _ _ _ _ => pts_nil) (fun _ _ _ _ _ => (cF (ok_is_word T) (hr.mono (by decide)) T.g_is_word (pa_cons (pv 2) (pa_cons (pv 0) pa_nil))))) pa_nil)))))), ?_⟩)
  · obtain ⟨t, xs, n, rfl, _⟩ := h
    rfl
  · obtain ⟨t, xs, n, rfl, ht, hl, hn, hx, q⟩ := h
    walk_at "w"
    refine ⟨_, _, _, rfl, ?_⟩
    rw [decide_eq_true (by omega)]
    walk_at "w"
    refine ⟨t, rfl, ⟨_, ht⟩, lc_map walk_tup (fun i => List.replicate i (.bl true)) rfl (fun H' s => s.tq ht) (fun i x H1 H' D hi hD p y => ?_) (fun D H' s1 _ hl => ?_)⟩
    · obtain ⟨rfl, e⟩ := y
      obtain ⟨z, hz, rfl⟩ := mapInt_at e
      refine ⟨rfl, ?_⟩
      rw [List.length_map] at hi
      walk_at "w"
      refine ⟨z, n, rfl, hn.2, hx z (List.mem_of_getElem? hz), ?_⟩
      exact p.yes hD (Same.refl _) (by rw [List.length_replicate]; exact lt_line (by omega)) List.replicate_succ'
    · walk_at "w"
      refine ⟨D, List.replicate (xs.map V.int).length true, rfl, sqL (by rw [List.map_replicate]; exact hl), ?_⟩
      have e : (List.replicate (xs.map V.int).length true).all id = true := by simp
      rw [e]
      exact q _ s1
theorem sc_is_many : FnScope ns_is_many ps_is_many (defScope s_is_many) := ⟨rfl, rfl, rfl, by decide +kernel, rfl, by decide +kernel, by decide +kernel⟩
def sp_is_many : Sp := fun vs H Q _ => ∃ m : Nat, vs = [.int m] ∧ m ≤ 10 ^ 30 ∧ Q (.bl true) H
theorem ok_is_many (T : Txt w K mg) : Has PP w K mg base d_is_many 3 ps_is_many sp_is_many := by
  refine mkHas T.f_is_many sc_is_many (fun _ _ _ _ _ _ us hl => match us, hl with | [_], _ => rfl) (fun vs H Q E h => ?_) (fun cdv A outer s H vs Q E hr h => ⟨_, (pss_one (ps_ret (cF (ok_is_between T) (hr.mono (by decide)) T.g_is_between (pa_cons (pv 0) (pa_cons pe_int (pa_cons (pe_gi rfl T.c_MOST_NUMBER) pa_nil)))))), ?_⟩)
  · obtain ⟨m, rfl, _⟩ := h
    rfl
  · obtain ⟨m, rfl, hm, q⟩ := h
    walk_at "w"
    exact ⟨_, _, _, rfl, q_bl (by rw [decide_eq_true (by omega)]) q⟩
theorem sc_is_wish : FnScope ns_is_wish ps_is_wish (defScope s_is_wish) := ⟨rfl, rfl, rfl, by decide +kernel, rfl, by decide +kernel, by decide +kernel⟩
def sp_is_wish (K : PySem.W.Frag) : Sp := fun vs H Q _ => ∃ (t : Addr) (wi : Wish), vs = [.ref t] ∧ SqT K H t (wishV wi) ∧ WishOk wi ∧ ∀ H', Same H H' → Q (.bl true) H'
theorem ok_is_wish (T : Txt w K mg) : Has PP w K mg base d_is_wish 5 ps_is_wish (sp_is_wish K) := by
  refine mkHas T.f_is_wish sc_is_wish (fun _ _ _ _ _ _ us hl => match us, hl with | [_], _ => rfl) (fun vs H Q E h => ?_) (fun cdv A outer s H vs Q E hr h => ⟨_, (pss_cons (ps_if (PW.pt (pw_or (pt_not (pt_val (pe_callB call_isi rfl T.n_isinstance (by kernel_rfl) (pa_cons (pv 0) (pa_cons (pe_bltn (v := .ty "tuple") rfl T.n_tuple boot_tuple rfl) pa_nil))))) (pw_or (pt_cmpR (op_eqD hr.units) (pv 0) (pe_tup pa_nil) (nomark _)) (pw_or1 (pt_not (pt_val (pe_callB call_isi rfl T.n_isinstance (by kernel_rfl) (pa_cons (pe_ix (r := rIxT K) ix_tup (pv 0) pe_int (fun _ _ => rfl)) (pa_cons (pe_bltn (v := .ty "str") rfl T.n_str boot_str rfl) pa_nil))))))))) (pss_one (ps_ret pe_bl)) pss_nil)
 (pss_cons (ps_if (PW.pt (pw_or (pt_cmpR (op_notKd T.kdLEN) (pe_ix (r := rIxT K) ix_tup (pv 0) pe_int (fun _ _ => rfl)) (pe_gr rfl T.g_LENGTHS) rfl) (pw_or1 (pt_cmpR op_ne (pe_callB ca_len rfl T.n_len PySem.boot_len (pa_cons (pv 0) pa_nil)) (pe_ix (ix_kdA T.kdLEN) (pe_gr rfl T.g_LENGTHS) (pe_ix (r := rIxT K) ix_tup (pv 0) pe_int (fun _ _ => rfl)) (fun _ _ => rfl)) (nomark _))))) (pss_one (ps_ret pe_bl)) pss_nil)
 (pss_cons (ps_if (pt_cmpR op_eq (pe_ix (r := rIxT K) ix_tup (pv 0) pe_int (fun _ _ => rfl)) pe_str (nomark _)) (pss_one (ps_ret (pe_and (cF (ok_are_bits_and_words T) (hr.mono (by decide)) T.g_are_bits_and_words (pa_cons (pe_ix (r := rIxT K) ix_tup (pv 0) pe_int (fun _ _ => rfl)) (pa_cons (pe_slice sl_tupA (pv 0) (po_some pe_int) (po_some pe_int)) pa_nil))) (pe_one (cF (ok_is_many T) (hr.mono (by decide)) T.g_is_many (pa_cons (pe_ix (r := rIxT K) ix_tup (pv 0) pe_int (fun _ _ => rfl)) pa_nil)))))) pss_nil)
 (pss_cons (ps_if (pt_cmpR op_eq (pe_ix (r := rIxT K) ix_tup (pv 0) pe_int (fun _ _ => rfl)) pe_str (nomark _)) (pss_one (ps_ret (pe_and (cF (ok_are_bits_and_words T) (hr.mono (by decide)) T.g_are_bits_and_words (pa_cons (pe_ix (r := rIxT K) ix_tup (pv 0) pe_int (fun _ _ => rfl)) (pa_cons (pe_tup (pa_cons (pe_ix (r := rIxT K) ix_tup (pv 0) pe_int (fun _ _ => rfl)) (pa_cons (pe_ix (r := rIxT K) ix_tup (pv 0) pe_int (fun _ _ => rfl)) pa_nil))) pa_nil))) (pe_one (cF (ok_is_many T) (hr.mono (by decide)) T.g_is_many (pa_cons (pe_ix (r := rIxT K) ix_tup (pv 0) pe_int (fun _ _ => rfl)) pa_nil)))))) pss_nil)
 (pss_one (ps_ret (pe_or (pe_cmpR op_ne (pe_ix (r := rIxT K) ix_tup (pv 0) pe_int (fun _ _ => rfl)) pe_str (nomark _)) (pe_one (cF (ok_are_bits_and_words T) (hr.mono (by decide)) T.g_are_bits_and_words (pa_cons (pe_ix (r := rIxT K) ix_tup (pv 0) pe_int (fun _ _ => rfl)) (pa_cons (pe_slice sl_tupA (pv 0) (po_some pe_int) po_none) pa_nil))))))))))), ?_⟩)
  · obtain ⟨t, wi, rfl, _⟩ := h
    rfl
  · obtain ⟨t, wi, rfl, ht, ok, q⟩ := h
    obtain ⟨u, hu1, hu2⟩ := T.len_at (wk_len wi)
    walk_at "w"
    refine isi_tuple ht ?_
    walk_at "w"
    refine ⟨Nat.zero_le _, fun p hp => ?_⟩
    have s1 := sameU (o := .tup []) hp
    refine ⟨_, _, dpWish (s1.tq ht), .tup sqTu .nil, shWish ok, shInts [], ?_⟩
    rw [show PyData.eqv (wishD wi) (.tuple []) = false from rfl]
    walk_at "w"
    refine w_ixT (s1.tq ht) (atI_nat (j := 0) rfl) ?_
    walk_at "w"
    refine w_ixT (s1.tq ht) (atI_nat (j := 0) rfl) ?_
    walk_at "w"
    refine ⟨_, _, rfl, rfl, hu1, ?_⟩
    rw [Option.isSome_some]
    walk_at "w"
    refine w_rlenT (s1.tq ht) ?_
    walk_at "w"
    refine w_ixT (s1.tq ht) (atI_nat (j := 0) rfl) ?_
    refine ⟨_, _, _, rfl, rfl, hu1, hu2, ?_⟩
    walk_at "w"
    refine if_dnF rfl ?_
    walk_at "w"
    refine w_ixT (s1.tq ht) (atI_nat (j := 0) rfl) ?_
    cases wi with
    | ring nm =>
      simp only [wk]
      walk_at "w"
      refine if_dF (by decide) ?_
      walk_at "w"
      refine w_ixT (s1.tq ht) (atI_nat (j := 0) rfl) ?_
      simp only [wk]
      walk_at "w"
      refine if_dF (by decide) ?_
      walk_at "w"
      refine w_ixT (s1.tq ht) (atI_nat (j := 0) rfl) ?_
      simp only [wk]
      walk_at "w"
      refine if_dnT (by decide) ?_
      exact q _ s1
    | noring nm =>
      simp only [wk]
      walk_at "w"
      refine if_dF (by decide) ?_
      walk_at "w"
      refine w_ixT (s1.tq ht) (atI_nat (j := 0) rfl) ?_
      simp only [wk]
      walk_at "w"
      refine if_dF (by decide) ?_
      walk_at "w"
      refine w_ixT (s1.tq ht) (atI_nat (j := 0) rfl) ?_
      simp only [wk]
      walk_at "w"
      refine if_dnT (by decide) ?_
      exact q _ s1
    | shuffle nm =>
      simp only [wk]
      walk_at "w"
      refine if_dF (by decide) ?_
      walk_at "w"
      refine w_ixT (s1.tq ht) (atI_nat (j := 0) rfl) ?_
      simp only [wk]
      walk_at "w"
      refine if_dF (by decide) ?_
      walk_at "w"
      refine w_ixT (s1.tq ht) (atI_nat (j := 0) rfl) ?_
      simp only [wk]
      walk_at "w"
      refine if_dnT (by decide) ?_
      exact q _ s1
    | length nm n x m =>
      obtain ⟨h1, h2, h3⟩ := ok.ok
      simp only [wk]
      walk_at "w"
      refine if_dT (by decide) ?_
      walk_at "w"
      refine w_ixT (s1.tq ht) (atI_nat (j := 2) rfl) ?_
      walk_at "w"
      refine w_slT (s1.tq ht) fun p2 H2 s2 hp2 => ?_
      rw [show cutV (wishV (.length nm n x m)) (some 3) (some 4) = [x].map V.int from rfl] at hp2
      walk_at "w"
      refine ⟨p2, [x], n, rfl, hp2, by simp, by omega, fun y hy => ?_, fun H3 s3 => ?_⟩
      · rw [List.mem_singleton] at hy
        rw [hy]
        exact h2
      · walk_at "w"
        have s4 := (s1.trans s2).trans s3
        refine w_ixT (s4.tq ht) (atI_nat (j := 4) rfl) ?_
        walk_at "w"
        exact ⟨m, rfl, h3, q _ s4⟩
    | after nm n x m y =>
      obtain ⟨h1, h2, h3, h4⟩ := ok.ok
      simp only [wk]
      walk_at "w"
      refine if_dF (by decide) ?_
      walk_at "w"
      refine w_ixT (s1.tq ht) (atI_nat (j := 0) rfl) ?_
      simp only [wk]
      walk_at "w"
      refine if_dT (by decide) ?_
      walk_at "w"
      refine w_ixT (s1.tq ht) (atI_nat (j := 2) rfl) ?_
      walk_at "w"
      refine w_ixT (s1.tq ht) (atI_nat (j := 3) rfl) ?_
      walk_at "w"
      refine w_ixT (s1.tq ht) (atI_nat (j := 5) rfl) ?_
      walk_at "w"
      refine ⟨le_line (by simp), fun p2 hp2 => ?_⟩
      have s2 := s1.u (o := .tup [.int x, .int y]) hp2
      walk_at "w"
      refine ⟨p2, [x, y], n, rfl, sqTu, by simp, by omega, fun z hz => ?_, fun H3 s3 => ?_⟩
      · rcases List.mem_cons.mp hz with rfl | hz
        · exact h2
        · rw [List.mem_singleton] at hz
          rw [hz]
          exact h4
      · walk_at "w"
        have s4 := s2.trans s3
        refine w_ixT (s4.tq ht) (atI_nat (j := 4) rfl) ?_
        walk_at "w"
        exact ⟨m, rfl, h3, q _ s4⟩
    | comes nm n x y =>
      obtain ⟨h1, h2, h3⟩ := ok.ok
      simp only [wk]
      walk_at "w"
      refine if_dF (by decide) ?_
      walk_at "w"
      refine w_ixT (s1.tq ht) (atI_nat (j := 0) rfl) ?_
      simp only [wk]
      walk_at "w"
      refine if_dF (by decide) ?_
      walk_at "w"
      refine w_ixT (s1.tq ht) (atI_nat (j := 0) rfl) ?_
      simp only [wk]
      walk_at "w"
      refine if_dnF (by decide) ?_
      walk_at "w"
      refine w_ixT (s1.tq ht) (atI_nat (j := 2) rfl) ?_
      walk_at "w"
      refine w_slT (s1.tq ht) fun p2 H2 s2 hp2 => ?_
      rw [show cutV (wishV (.comes nm n x y)) (some 3) none = [x, y].map V.int from rfl] at hp2
      walk_at "w"
      refine ⟨p2, [x, y], n, rfl, hp2, by simp, by omega, fun z hz => ?_, fun H3 s3 => q _ ((s1.trans s2).trans s3)⟩
      rcases List.mem_cons.mp hz with rfl | hz
      · exact h2
      · rw [List.mem_singleton] at hz
        rw [hz]
        exact h3
theorem sc_is_always_ring_rule : FnScope ns_is_always_ring_rule ps_is_always_ring_rule (defScope s_is_always_ring_rule) := ⟨rfl, rfl, rfl, by decide +kernel, rfl, by decide +kernel, by decide +kernel⟩
def sp_is_always_ring_rule (K : PySem.W.Frag) : Sp := fun vs H Q _ => ∃ (r : Addr) (ns : List Int) (L : Nat), vs = [.ref r] ∧ IsRule K H r ns ∧ (isSh ns 3 = true → Cyc ns 3 0 L 0) ∧ ∀ H', Same H H' → Q (.bl (isSh ns 3 && decide (L = 8))) H'
theorem ok_is_always_ring_rule (T : Txt w K mg) : Has PP w K mg base d_is_always_ring_rule 6 ps_is_always_ring_rule (sp_is_always_ring_rule K) := by
  refine mkHas T.f_is_always_ring_rule sc_is_always_ring_rule (fun _ _ _ _ _ _ us hl => match us, hl with | [_], _ => rfl) (fun vs H Q E h => ?_) (fun cdv A outer s H vs Q E hr h => ⟨_, (pss_one (ps_ret (cF (ok_is_ring_for T) (hr.mono (by decide)) T.g_is_ring_for (pa_cons (pv 0) (pa_cons (pe_gi rfl T.c_MANY) pa_nil))))), ?_⟩)
  · obtain ⟨r, ns, L, rfl, _⟩ := h
    rfl
  · obtain ⟨r, ns, L, rfl, h1, h2, q⟩ := h
    walk_at "w"
    exact ⟨r, ns, L, rfl, h1, h2, q⟩
theorem sc_is_always_shuffle_rule : FnScope ns_is_always_shuffle_rule ps_is_always_shuffle_rule (defScope s_is_always_shuffle_rule) := ⟨rfl, rfl, rfl, by decide +kernel, rfl, by decide +kernel, by decide +kernel⟩
def sp_is_always_shuffle_rule (K : PySem.W.Frag) : Sp := fun vs H Q _ => ∃ (r : Addr) (ns : List Int), vs = [.ref r] ∧ IsRule K H r ns ∧ ∀ H', Same H H' → Q (.bl (isSh ns 1 && isSh ns 2)) H'
theorem ok_is_always_shuffle_rule (T : Txt w K mg) : Has PP w K mg base d_is_always_shuffle_rule 3 ps_is_always_shuffle_rule (sp_is_always_shuffle_rule K) := by
  refine mkHas T.f_is_always_shuffle_rule sc_is_always_shuffle_rule (fun _ _ _ _ _ _ us hl => match us, hl with | [_], _ => rfl) (fun vs H Q E h => ?_) (fun cdv A outer s H vs Q E hr h => ⟨_, (pss_one (ps_ret (pe_and (cF (ok_is_shuffle_for T) (hr.mono (by decide)) T.g_is_shuffle_for (pa_cons (cP (ok_Rule_numbers T) T.clR T.p_Rule_numbers (hr.mono (by decide)) (pv 0)) (pa_cons pe_int pa_nil))) (pe_one (cF (ok_is_shuffle_for T) (hr.mono (by decide)) T.g_is_shuffle_for (pa_cons (cP (ok_Rule_numbers T) T.clR T.p_Rule_numbers (hr.mono (by decide)) (pv 0)) (pa_cons (pe_gi rfl T.c_FEW) pa_nil))))))), ?_⟩)
  · obtain ⟨r, ns, rfl, _⟩ := h
    rfl
  · obtain ⟨r, ns, rfl, h1, q⟩ := h
    walk_at "w"
    refine w_numbers h1 fun t ht => ?_
    walk_at "w"
    refine ⟨t, ns, 1, rfl, ht, fun H1 s1 => ?_⟩
    walk_at "w"
    cases e : isSh ns 1 with
    | false =>
      rw [e, Bool.false_and] at q
      walk_at "w"
      exact q _ s1
    | true =>
      rw [e, Bool.true_and] at q
      walk_at "w"
      refine w_numbers (h1.at s1) fun t2 ht2 => ?_
      walk_at "w"
      exact ⟨t2, ns, 2, rfl, ht2, fun H2 s2 => q _ (s1.trans s2)⟩
theorem sc_has_length : FnScope ns_has_length ps_has_length (defScope s_has_length) := ⟨rfl, rfl, rfl, by decide +kernel, rfl, by decide +kernel, by decide +kernel⟩
def sp_has_length (K : PySem.W.Frag) : Sp := fun vs H Q _ => ∃ (r : Addr) (ns : List Int) (n : Nat) (x : Int) (L j m : Nat), vs = [.ref r, .int n, .int x, .int m] ∧ IsRule K H r ns ∧ (1 ≤ n ∧ n ≤ 6) ∧ (0 ≤ x ∧ x < 2 ^ n) ∧ Cyc ns n x L j ∧ ∀ H', Same H H' → Q (.bl (isSh ns n && decide (L = m))) H'
theorem ok_has_length (T : Txt w K mg) : Has PP w K mg base d_has_length 6 ps_has_length (sp_has_length K) := by
  refine mkHas T.f_has_length sc_has_length (fun _ _ _ _ _ _ us hl => match us, hl with | [_, _, _, _], _ => rfl) (fun vs H Q E h => ?_) (fun cdv A outer s H vs Q E hr h => ⟨_, (pss_one (ps_ret (pe_and (cF (ok_is_shuffle_for T) (hr.mono (by decide)) T.g_is_shuffle_for (pa_cons (cP (ok_Rule_numbers T) T.clR T.p_Rule_numbers (hr.mono (by decide)) (pv 0)) (pa_cons (pv 1) pa_nil))) (pe_one (pe_cmpR op_eq (cF (ok_ring_size T) (hr.mono (by decide)) T.g_ring_size (pa_cons (pe_lst (pa_cons (cP (ok_Rule_numbers T) T.clR T.p_Rule_numbers (hr.mono (by decide)) (pv 0)) pa_nil)) (pa_cons (pv 1) (pa_cons (pv 2) pa_nil)))) (pv 3) (nomark _)))))), ?_⟩)
  · obtain ⟨r, ns, n, x, L, j, m, rfl, _⟩ := h
    rfl
  · obtain ⟨r, ns, n, x, L, j, m, rfl, h1, hn, hx, c, q⟩ := h
    walk_at "w"
    refine w_numbers h1 fun t ht => ?_
    walk_at "w"
    refine ⟨t, ns, n, rfl, ht, fun H1 s1 => ?_⟩
    walk_at "w"
    cases e : isSh ns n with
    | false =>
      rw [e, Bool.false_and] at q
      walk_at "w"
      exact q _ s1
    | true =>
      rw [e, Bool.true_and] at q
      walk_at "w"
      refine w_numbers (h1.at s1) fun t2 ht2 => ?_
      walk_at "w"
      refine ⟨le_line (by simp), fun p hp => ?_⟩
      have s2 := s1.u (o := .lst [.ref t2]) hp
      walk_at "w"
      refine ⟨p, t2, ns, n, x, L, j, rfl, sqLu, (sameU hp).tq ht2, hn, hx, c, fun H3 s3 => ?_⟩
      walk_at "w"
      refine q_bl ?_ (q _ (s2.trans s3))
      exact decide_eq_decide.mpr (by omega)
theorem sc_coming : FnScope ns_coming ps_coming (defScope s_coming) := ⟨rfl, rfl, rfl, by decide +kernel, rfl, by decide +kernel, by decide +kernel⟩
def sp_coming (K : PySem.W.Frag) : Sp := fun vs H Q _ => ∃ (r : Addr) (ns : List Int) (n : Nat) (x y : Int) (L j : Nat), vs = [.ref r, .int n, .int x, .int y] ∧ IsRule K H r ns ∧ (1 ≤ n ∧ n ≤ 6) ∧ (0 ≤ x ∧ x < 2 ^ n) ∧ (0 ≤ y ∧ y < 2 ^ n) ∧ Cyc ns n x L j ∧ ∀ H', Same H H' → Q (optV (if isSh ns n = true then (spots ns n x y L).head? else none)) H'
theorem ok_coming (T : Txt w K mg) : Has PP w K mg base d_coming 7 ps_coming (sp_coming K) := by
  refine mkHas T.f_coming sc_coming (fun _ _ _ _ _ _ us hl => match us, hl with | [_, _, _, _], _ => rfl) (fun vs H Q E h => ?_) (fun cdv A outer s H vs Q E hr h => ⟨_, (pss_one (ps_ret (pe_ifExp (pt_val (cF (ok_is_shuffle_for T) (hr.mono (by decide)) T.g_is_shuffle_for (pa_cons (cP (ok_Rule_numbers T) T.clR T.p_Rule_numbers (hr.mono (by decide)) (pv 0)) (pa_cons (pv 1) pa_nil)))) (cF (ok_turns_to T) (hr.mono (by decide)) T.g_turns_to (pa_cons (pv 0) (pa_cons (pv 1) (pa_cons (pv 2) (pa_cons (pv 3) pa_nil))))) pe_non))), ?_⟩)
  · obtain ⟨r, ns, n, x, y, L, j, rfl, _⟩ := h
    rfl
  · obtain ⟨r, ns, n, x, y, L, j, rfl, h1, hn, hx, hy, c, q⟩ := h
    walk_at "w"
    refine w_numbers h1 fun t ht => ?_
    walk_at "w"
    refine ⟨t, ns, n, rfl, ht, fun H1 s1 => ?_⟩
    walk_at "w"
    cases e : isSh ns n with
    | false =>
      rw [e, if_neg (by decide)] at q
      walk_at "w"
      exact q _ s1
    | true =>
      rw [e, if_pos rfl] at q
      walk_at "w"
      exact ⟨r, ns, n, x, y, L, j, rfl, h1.at s1, hn, hx, hy, e, c, fun H2 s2 => q _ (s1.trans s2)⟩
end


/-! ### plain facts: words that come again -/
theorem pigeon : ∀ (N : Nat) (f : Nat → Nat), (∀ i, i ≤ N → f i < N) → ∃ a b, a < b ∧ b ≤ N ∧ f a = f b
  | 0, f, h => absurd (h 0 (Nat.le_refl _)) (Nat.not_lt_zero _)
  | N + 1, f, h => by
    by_cases c : ∃ a, a < N + 1 ∧ f a = f (N + 1)
    · obtain ⟨a, ha, e⟩ := c
      exact ⟨a, N + 1, ha, Nat.le_refl _, e⟩
    · -- the last value is taken once: it is left out
      let g : Nat → Nat := fun i => if f i < f (N + 1) then f i else f i - 1
      have hg : ∀ i, i ≤ N → g i < N := by
        intro i hi
        have h1 := h i (by omega)
        have h2 := h (N + 1) (Nat.le_refl _)
        have h3 : f i ≠ f (N + 1) := fun e => c ⟨i, by omega, e⟩
        show (if f i < f (N + 1) then f i else f i - 1) < N
        split <;> omega
      obtain ⟨a, b, hab, hb, e⟩ := pigeon N g hg
      refine ⟨a, b, hab, by omega, ?_⟩
      have h3 : f a ≠ f (N + 1) := fun e => c ⟨a, by omega, e⟩
      have h4 : f b ≠ f (N + 1) := fun e => c ⟨b, by omega, e⟩
      have e' : (if f a < f (N + 1) then f a else f a - 1) = (if f b < f (N + 1) then f b else f b - 1) := e
      split at e' <;> split at e' <;> omega
theorem least (P : Nat → Prop) : ∀ n, P n → ∃ m, m ≤ n ∧ P m ∧ ∀ k, k < m → ¬ P k
  | 0, h => ⟨0, Nat.le_refl _, h, fun k hk => absurd hk (Nat.not_lt_zero _)⟩
  | n + 1, h => by
    by_cases c : ∃ k, k ≤ n ∧ P k
    · obtain ⟨k, hk, pk⟩ := c
      obtain ⟨m, hm, pm, lm⟩ := least P k pk
      exact ⟨m, by omega, pm, lm⟩
    · exact ⟨n + 1, Nat.le_refl _, h, fun k hk pk => c ⟨k, by omega, pk⟩⟩
theorem cyc_le {ns : List Int} {n : Nat} {x : Int} (hx : 0 ≤ x ∧ x < 2 ^ n) : ∃ L j, j < L ∧ (∀ a b, a < b → b < L → itn ns n a x ≠ itn ns n b x) ∧ itn ns n L x = itn ns n j x ∧ L ≤ 2 ^ n := by
  have hr := fun k => itn_range (ns := ns) hx k
  have e2 : (2 : Int) ^ n = ((2 ^ n : Nat) : Int) := by simp
  obtain ⟨a, b, hab, hb, e⟩ := pigeon (2 ^ n) (fun i => (itn ns n i x).toNat) (fun i _ => by have := hr i; show (itn ns n i x).toNat < 2 ^ n; omega)
  have e : itn ns n a x = itn ns n b x := by have h1 := hr a; have h2 := hr b; have e : (itn ns n a x).toNat = (itn ns n b x).toNat := e; omega
  obtain ⟨L, hL, ⟨j, hj, ej⟩, lm⟩ := least (fun L => ∃ j, j < L ∧ itn ns n L x = itn ns n j x) b ⟨a, hab, e.symm⟩
  exact ⟨L, j, hj, fun a b h1 h2 e => lm b h2 ⟨a, h1, e.symm⟩, ej, by omega⟩
theorem cyc_ex {ns : List Int} {n : Nat} {x : Int} (hn : n ≤ 5) (hx : 0 ≤ x ∧ x < 2 ^ n) : ∃ L j, Cyc ns n x L j := by
  obtain ⟨L, j, h1, h2, h3, h4⟩ := cyc_le (ns := ns) hx
  have h5 : 2 ^ n ≤ 2 ^ 5 := Nat.pow_le_pow_right (by decide) hn
  exact ⟨L, j, h1, h2, h3, by omega⟩
theorem Cyc.uniq {ns : List Int} {n : Nat} {x : Int} {L j L' j' : Nat} (c : Cyc ns n x L j) (c' : Cyc ns n x L' j') : L = L' ∧ j = j' := by
  have key : ∀ {L j L' j' : Nat}, Cyc ns n x L j → Cyc ns n x L' j' → ¬ L < L' := fun {L j L' j'} c c' h => c'.inj j L c.lt h c.back.symm
  have e : L = L' := by have h1 := key c c'; have h2 := key c' c; omega
  subst e
  refine ⟨rfl, ?_⟩
  have hj := c.lt
  have hj' := c'.lt
  have e := c.back.symm.trans c'.back
  rcases Nat.lt_trichotomy j j' with h | h | h
  · exact absurd e (c.inj j j' h hj')
  · exact h
  · exact absurd e.symm (c.inj j' j h hj)
open Classical in
noncomputable def cycL (ns : List Int) (n : Nat) (x : Int) : Nat := if h : ∃ L j, Cyc ns n x L j then h.choose else 0
open Classical in
noncomputable def cycJ (ns : List Int) (n : Nat) (x : Int) : Nat := if h : ∃ L j, Cyc ns n x L j then h.choose_spec.choose else 0
theorem cyc_at {ns : List Int} {n : Nat} {x : Int} (hn : n ≤ 5) (hx : 0 ≤ x ∧ x < 2 ^ n) : Cyc ns n x (cycL ns n x) (cycJ ns n x) := by
  have h := cyc_ex (ns := ns) hn hx
  unfold cycL cycJ
  rw [dif_pos h, dif_pos h]
  exact h.choose_spec.choose_spec
theorem Cyc.size {ns : List Int} {n : Nat} {x : Int} {L j : Nat} (c : Cyc ns n x L j) (hx : 0 ≤ x ∧ x < 2 ^ n) : L ≤ 2 ^ n := by
  obtain ⟨L', j', h1, h2, h3, h4⟩ := cyc_le (ns := ns) hx
  by_cases h : L ≤ L'
  · omega
  · exact absurd h3.symm (c.inj j' L' h1 (by omega))
/-! ### the values of a rule -/
theorem valOf_nil (x : Int) : valOf [] x = 0 := rfl
theorem valOf_cons (a : Int) (l : List Int) (x : Int) : valOf (a :: l) x = valOf l x * x + a := rfl
theorem evs_cons (b : Int) (l : List Int) : evs (b :: l) = b :: evs (l.drop 1) := by
  cases l with
  | nil => rfl
  | cons c l => rfl
/-- an odd number's square is 1 by 8 -/
theorem val_odd (x : Int) (hx : x * x % 8 = 1) : ∀ l : List Int, (valOf l x - ((evs l).sum + x * (evs (l.drop 1)).sum)) % 8 = 0
  | [] => by simp [valOf, evs]
  | [a] => by simp [valOf, evs]
  | a :: b :: l => by
    have ih := val_odd x hx l
    rw [valOf_cons, valOf_cons]
    rw [show evs (a :: b :: l) = a :: evs l from rfl, show (a :: b :: l).drop 1 = b :: l from rfl, evs_cons b l, List.sum_cons, List.sum_cons]
    generalize valOf l x = v at ih ⊢
    generalize (evs l).sum = e at ih ⊢
    generalize (evs (l.drop 1)).sum = o at ih ⊢
    have h1 : (v * x + b) * x + a - (a + e + x * (b + o)) = v * (x * x) - (e + x * o) := by
      rw [Int.add_mul, Int.mul_assoc, Int.mul_add]
      have : b * x = x * b := Int.mul_comm ..
      omega
    rw [h1]
    have h2 : v * (x * x) = v + 8 * (v * (x * x / 8)) := by
      have h3 := Int.mul_ediv_add_emod (x * x) 8
      rw [hx] at h3
      have h4 : v * (x * x) = v * (8 * (x * x / 8) + 1) := by rw [h3]
      rw [h4, Int.mul_add, Int.mul_one, Int.mul_left_comm]
      omega
    rw [h2]
    omega
theorem val_even (x : Int) (hx : x % 2 = 0) : ∀ l : List Int, (valOf l x - l.headD 0) % 2 = 0
  | [] => by simp [valOf]
  | a :: l => by
    rw [valOf_cons]
    have h : valOf l x * x % 2 = 0 := by rw [Int.mul_emod, hx, Int.mul_zero]; rfl
    show (valOf l x * x + a - a) % 2 = 0
    omega


theorem val_split (ns : List Int) (x : Int) : valOf ns x = (valOf (ns.drop 2) x * x + (ns.drop 1).headD 0) * x + ns.headD 0 := by
  match ns with
  | [] => simp [valOf]
  | [a] => simp [valOf]
  | a :: b :: l => rfl
theorem sum_evs : ∀ l : List Int, l.sum = (evs l).sum + (evs (l.drop 1)).sum
  | [] => rfl
  | [a] => by simp [evs]
  | a :: b :: l => by
    have ih := sum_evs l
    rw [show evs (a :: b :: l) = a :: evs l from rfl, show (a :: b :: l).drop 1 = b :: l from rfl, evs_cons b l, List.sum_cons, List.sum_cons, List.sum_cons, List.sum_cons, ih]
    omega
theorem drop_sum (ns : List Int) : (ns.drop 1).sum = (ns.drop 1).headD 0 + ((evs (ns.drop 2)).sum + (evs (ns.drop 3)).sum) := by
  match ns with
  | [] => rfl
  | [a] => rfl
  | a :: b :: l =>
    have := sum_evs l
    show (b :: l).sum = b + ((evs l).sum + (evs (l.drop 1)).sum)
    rw [List.sum_cons, this]
theorem v0 (ns : List Int) : valOf ns 0 % 8 = ns.headD 0 % 8 := by
  have s := val_split ns 0
  rw [s, Int.mul_zero, Int.zero_add]
theorem v1 (ns : List Int) : valOf ns 1 % 8 = (ns.headD 0 + 1 * (ns.drop 1).headD 0 + (evs (ns.drop 2)).sum + 1 * (evs (ns.drop 3)).sum) % 8 := by
  have h := val_odd 1 (by decide) (ns.drop 2)
  rw [List.drop_drop] at h
  have s := val_split ns 1
  simp only [show 2 + 1 = 3 from rfl] at h
  rw [s]
  generalize (evs (ns.drop 2)).sum = e at *
  generalize (evs (ns.drop 3)).sum = o at *
  generalize valOf (ns.drop 2) 1 = v at *
  generalize (ns.drop 1).headD 0 = c1
  generalize ns.headD 0 = c0
  clear s
  omega
theorem v3 (ns : List Int) : valOf ns 3 % 8 = (ns.headD 0 + 3 * (ns.drop 1).headD 0 + (evs (ns.drop 2)).sum + 3 * (evs (ns.drop 3)).sum) % 8 := by
  have h := val_odd 3 (by decide) (ns.drop 2)
  rw [List.drop_drop] at h
  have s := val_split ns 3
  simp only [show 2 + 1 = 3 from rfl] at h
  rw [s]
  generalize (evs (ns.drop 2)).sum = e at *
  generalize (evs (ns.drop 3)).sum = o at *
  generalize valOf (ns.drop 2) 3 = v at *
  generalize (ns.drop 1).headD 0 = c1
  generalize ns.headD 0 = c0
  clear s
  omega
theorem v5 (ns : List Int) : valOf ns 5 % 8 = (ns.headD 0 + 5 * (ns.drop 1).headD 0 + (evs (ns.drop 2)).sum + 5 * (evs (ns.drop 3)).sum) % 8 := by
  have h := val_odd 5 (by decide) (ns.drop 2)
  rw [List.drop_drop] at h
  have s := val_split ns 5
  simp only [show 2 + 1 = 3 from rfl] at h
  rw [s]
  generalize (evs (ns.drop 2)).sum = e at *
  generalize (evs (ns.drop 3)).sum = o at *
  generalize valOf (ns.drop 2) 5 = v at *
  generalize (ns.drop 1).headD 0 = c1
  generalize ns.headD 0 = c0
  clear s
  omega
theorem v7 (ns : List Int) : valOf ns 7 % 8 = (ns.headD 0 + 7 * (ns.drop 1).headD 0 + (evs (ns.drop 2)).sum + 7 * (evs (ns.drop 3)).sum) % 8 := by
  have h := val_odd 7 (by decide) (ns.drop 2)
  rw [List.drop_drop] at h
  have s := val_split ns 7
  simp only [show 2 + 1 = 3 from rfl] at h
  rw [s]
  generalize (evs (ns.drop 2)).sum = e at *
  generalize (evs (ns.drop 3)).sum = o at *
  generalize valOf (ns.drop 2) 7 = v at *
  generalize (ns.drop 1).headD 0 = c1
  generalize ns.headD 0 = c0
  clear s
  omega
theorem v2 (ns : List Int) : valOf ns 2 % 8 = (ns.headD 0 + 2 * (ns.drop 1).headD 0 + 4 * (ns.drop 2).headD 0) % 8 := by
  have h := val_even 2 (by decide) (ns.drop 2)
  have s := val_split ns 2
  rw [s]
  generalize valOf (ns.drop 2) 2 = v at *
  generalize (ns.drop 2).headD 0 = r at *
  generalize (ns.drop 1).headD 0 = c1
  generalize ns.headD 0 = c0
  clear s
  omega
theorem v4 (ns : List Int) : valOf ns 4 % 8 = (ns.headD 0 + 4 * (ns.drop 1).headD 0 + 0 * (ns.drop 2).headD 0) % 8 := by
  have h := val_even 4 (by decide) (ns.drop 2)
  have s := val_split ns 4
  rw [s]
  generalize valOf (ns.drop 2) 4 = v at *
  generalize (ns.drop 2).headD 0 = r at *
  generalize (ns.drop 1).headD 0 = c1
  generalize ns.headD 0 = c0
  clear s
  omega
theorem v6 (ns : List Int) : valOf ns 6 % 8 = (ns.headD 0 + 6 * (ns.drop 1).headD 0 + 4 * (ns.drop 2).headD 0) % 8 := by
  have h := val_even 6 (by decide) (ns.drop 2)
  have s := val_split ns 6
  rw [s]
  generalize valOf (ns.drop 2) 6 = v at *
  generalize (ns.drop 2).headD 0 = r at *
  generalize (ns.drop 1).headD 0 = c1
  generalize ns.headD 0 = c0
  clear s
  omega
theorem isSh_ge {ns : List Int} {n : Nat} (h : n ≠ 1) : isSh ns n = isSh ns 2 := by unfold isSh; rw [if_neg h, if_neg (by decide)]
theorem isSh_two (ns : List Int) : isSh ns 2 = true ↔ (ns.drop 1).headD 0 % 2 = 1 ∧ (evs (ns.drop 2)).sum % 2 = 0 ∧ (evs (ns.drop 3)).sum % 2 = 0 := by
  unfold isSh
  rw [if_neg (by decide), Bool.and_eq_true, Bool.and_eq_true, decide_eq_true_iff, decide_eq_true_iff, decide_eq_true_iff]
theorem isSh_one (ns : List Int) : isSh ns 1 = true ↔ (ns.drop 1).sum % 2 = 1 := by
  unfold isSh
  rw [if_pos rfl, decide_eq_true_iff]
theorem sh_12 {ns : List Int} (h : isSh ns 2 = true) : isSh ns 1 = true := by
  rw [isSh_two] at h
  rw [isSh_one, drop_sum]
  omega
/-- no two words of n bits have the same follower -/
def Inj (ns : List Int) (n : Nat) : Prop := ∀ a b : Nat, a < b → b < 2 ^ n → nx ns n (a : Int) ≠ nx ns n (b : Int)
theorem p01 {c0 c1 e o r : Int} (h1 : c1 % 2 = 1) (h2 : e % 2 = 0) (h3 : o % 2 = 0) : c0 % 8 ≠ (c0 + 1 * c1 + e + 1 * o) % 8 := by omega
theorem p02 {c0 c1 e o r : Int} (h1 : c1 % 2 = 1) (h2 : e % 2 = 0) (h3 : o % 2 = 0) : c0 % 8 ≠ (c0 + 2 * c1 + 4 * r) % 8 := by omega
theorem p03 {c0 c1 e o r : Int} (h1 : c1 % 2 = 1) (h2 : e % 2 = 0) (h3 : o % 2 = 0) : c0 % 8 ≠ (c0 + 3 * c1 + e + 3 * o) % 8 := by omega
theorem p04 {c0 c1 e o r : Int} (h1 : c1 % 2 = 1) (h2 : e % 2 = 0) (h3 : o % 2 = 0) : c0 % 8 ≠ (c0 + 4 * c1 + 0 * r) % 8 := by omega
theorem p05 {c0 c1 e o r : Int} (h1 : c1 % 2 = 1) (h2 : e % 2 = 0) (h3 : o % 2 = 0) : c0 % 8 ≠ (c0 + 5 * c1 + e + 5 * o) % 8 := by omega
theorem p06 {c0 c1 e o r : Int} (h1 : c1 % 2 = 1) (h2 : e % 2 = 0) (h3 : o % 2 = 0) : c0 % 8 ≠ (c0 + 6 * c1 + 4 * r) % 8 := by omega
theorem p07 {c0 c1 e o r : Int} (h1 : c1 % 2 = 1) (h2 : e % 2 = 0) (h3 : o % 2 = 0) : c0 % 8 ≠ (c0 + 7 * c1 + e + 7 * o) % 8 := by omega
theorem p12 {c0 c1 e o r : Int} (h1 : c1 % 2 = 1) (h2 : e % 2 = 0) (h3 : o % 2 = 0) : (c0 + 1 * c1 + e + 1 * o) % 8 ≠ (c0 + 2 * c1 + 4 * r) % 8 := by omega
theorem p13 {c0 c1 e o r : Int} (h1 : c1 % 2 = 1) (h2 : e % 2 = 0) (h3 : o % 2 = 0) : (c0 + 1 * c1 + e + 1 * o) % 8 ≠ (c0 + 3 * c1 + e + 3 * o) % 8 := by omega
theorem p14 {c0 c1 e o r : Int} (h1 : c1 % 2 = 1) (h2 : e % 2 = 0) (h3 : o % 2 = 0) : (c0 + 1 * c1 + e + 1 * o) % 8 ≠ (c0 + 4 * c1 + 0 * r) % 8 := by omega
theorem p15 {c0 c1 e o r : Int} (h1 : c1 % 2 = 1) (h2 : e % 2 = 0) (h3 : o % 2 = 0) : (c0 + 1 * c1 + e + 1 * o) % 8 ≠ (c0 + 5 * c1 + e + 5 * o) % 8 := by omega
theorem p16 {c0 c1 e o r : Int} (h1 : c1 % 2 = 1) (h2 : e % 2 = 0) (h3 : o % 2 = 0) : (c0 + 1 * c1 + e + 1 * o) % 8 ≠ (c0 + 6 * c1 + 4 * r) % 8 := by omega
theorem p17 {c0 c1 e o r : Int} (h1 : c1 % 2 = 1) (h2 : e % 2 = 0) (h3 : o % 2 = 0) : (c0 + 1 * c1 + e + 1 * o) % 8 ≠ (c0 + 7 * c1 + e + 7 * o) % 8 := by omega
theorem p23 {c0 c1 e o r : Int} (h1 : c1 % 2 = 1) (h2 : e % 2 = 0) (h3 : o % 2 = 0) : (c0 + 2 * c1 + 4 * r) % 8 ≠ (c0 + 3 * c1 + e + 3 * o) % 8 := by omega
theorem p24 {c0 c1 e o r : Int} (h1 : c1 % 2 = 1) (h2 : e % 2 = 0) (h3 : o % 2 = 0) : (c0 + 2 * c1 + 4 * r) % 8 ≠ (c0 + 4 * c1 + 0 * r) % 8 := by omega
theorem p25 {c0 c1 e o r : Int} (h1 : c1 % 2 = 1) (h2 : e % 2 = 0) (h3 : o % 2 = 0) : (c0 + 2 * c1 + 4 * r) % 8 ≠ (c0 + 5 * c1 + e + 5 * o) % 8 := by omega
theorem p26 {c0 c1 e o r : Int} (h1 : c1 % 2 = 1) (h2 : e % 2 = 0) (h3 : o % 2 = 0) : (c0 + 2 * c1 + 4 * r) % 8 ≠ (c0 + 6 * c1 + 4 * r) % 8 := by omega
theorem p27 {c0 c1 e o r : Int} (h1 : c1 % 2 = 1) (h2 : e % 2 = 0) (h3 : o % 2 = 0) : (c0 + 2 * c1 + 4 * r) % 8 ≠ (c0 + 7 * c1 + e + 7 * o) % 8 := by omega
theorem p34 {c0 c1 e o r : Int} (h1 : c1 % 2 = 1) (h2 : e % 2 = 0) (h3 : o % 2 = 0) : (c0 + 3 * c1 + e + 3 * o) % 8 ≠ (c0 + 4 * c1 + 0 * r) % 8 := by omega
theorem p35 {c0 c1 e o r : Int} (h1 : c1 % 2 = 1) (h2 : e % 2 = 0) (h3 : o % 2 = 0) : (c0 + 3 * c1 + e + 3 * o) % 8 ≠ (c0 + 5 * c1 + e + 5 * o) % 8 := by omega
theorem p36 {c0 c1 e o r : Int} (h1 : c1 % 2 = 1) (h2 : e % 2 = 0) (h3 : o % 2 = 0) : (c0 + 3 * c1 + e + 3 * o) % 8 ≠ (c0 + 6 * c1 + 4 * r) % 8 := by omega
theorem p37 {c0 c1 e o r : Int} (h1 : c1 % 2 = 1) (h2 : e % 2 = 0) (h3 : o % 2 = 0) : (c0 + 3 * c1 + e + 3 * o) % 8 ≠ (c0 + 7 * c1 + e + 7 * o) % 8 := by omega
theorem p45 {c0 c1 e o r : Int} (h1 : c1 % 2 = 1) (h2 : e % 2 = 0) (h3 : o % 2 = 0) : (c0 + 4 * c1 + 0 * r) % 8 ≠ (c0 + 5 * c1 + e + 5 * o) % 8 := by omega
theorem p46 {c0 c1 e o r : Int} (h1 : c1 % 2 = 1) (h2 : e % 2 = 0) (h3 : o % 2 = 0) : (c0 + 4 * c1 + 0 * r) % 8 ≠ (c0 + 6 * c1 + 4 * r) % 8 := by omega
theorem p47 {c0 c1 e o r : Int} (h1 : c1 % 2 = 1) (h2 : e % 2 = 0) (h3 : o % 2 = 0) : (c0 + 4 * c1 + 0 * r) % 8 ≠ (c0 + 7 * c1 + e + 7 * o) % 8 := by omega
theorem p56 {c0 c1 e o r : Int} (h1 : c1 % 2 = 1) (h2 : e % 2 = 0) (h3 : o % 2 = 0) : (c0 + 5 * c1 + e + 5 * o) % 8 ≠ (c0 + 6 * c1 + 4 * r) % 8 := by omega
theorem p57 {c0 c1 e o r : Int} (h1 : c1 % 2 = 1) (h2 : e % 2 = 0) (h3 : o % 2 = 0) : (c0 + 5 * c1 + e + 5 * o) % 8 ≠ (c0 + 7 * c1 + e + 7 * o) % 8 := by omega
theorem p67 {c0 c1 e o r : Int} (h1 : c1 % 2 = 1) (h2 : e % 2 = 0) (h3 : o % 2 = 0) : (c0 + 6 * c1 + 4 * r) % 8 ≠ (c0 + 7 * c1 + e + 7 * o) % 8 := by omega
theorem q01 {c0 c1 e o r : Int} (h1 : c1 % 2 = 1) (h2 : e % 2 = 0) (h3 : o % 2 = 0) : c0 % 4 ≠ (c0 + 1 * c1 + e + 1 * o) % 4 := by omega
theorem q02 {c0 c1 e o r : Int} (h1 : c1 % 2 = 1) (h2 : e % 2 = 0) (h3 : o % 2 = 0) : c0 % 4 ≠ (c0 + 2 * c1 + 4 * r) % 4 := by omega
theorem q03 {c0 c1 e o r : Int} (h1 : c1 % 2 = 1) (h2 : e % 2 = 0) (h3 : o % 2 = 0) : c0 % 4 ≠ (c0 + 3 * c1 + e + 3 * o) % 4 := by omega
theorem q12 {c0 c1 e o r : Int} (h1 : c1 % 2 = 1) (h2 : e % 2 = 0) (h3 : o % 2 = 0) : (c0 + 1 * c1 + e + 1 * o) % 4 ≠ (c0 + 2 * c1 + 4 * r) % 4 := by omega
theorem q13 {c0 c1 e o r : Int} (h1 : c1 % 2 = 1) (h2 : e % 2 = 0) (h3 : o % 2 = 0) : (c0 + 1 * c1 + e + 1 * o) % 4 ≠ (c0 + 3 * c1 + e + 3 * o) % 4 := by omega
theorem q23 {c0 c1 e o r : Int} (h1 : c1 % 2 = 1) (h2 : e % 2 = 0) (h3 : o % 2 = 0) : (c0 + 2 * c1 + 4 * r) % 4 ≠ (c0 + 3 * c1 + e + 3 * o) % 4 := by omega
theorem mod84 {a b : Int} (h : a % 8 = b % 8) : a % 4 = b % 4 := by omega
theorem mod82 {a b : Int} (h : a % 8 = b % 8) : a % 2 = b % 2 := by omega
theorem nx1 (ns : List Int) (x : Int) : nx ns 1 x = valOf ns x % 2 := rfl
theorem nx2 (ns : List Int) (x : Int) : nx ns 2 x = valOf ns x % 4 := rfl
theorem nx3 (ns : List Int) (x : Int) : nx ns 3 x = valOf ns x % 8 := rfl
theorem one_a {c0 c1 e o : Int} (h : (c1 + (e + o)) % 2 = 1) : c0 % 2 ≠ (c0 + 1 * c1 + e + 1 * o) % 2 := by omega
theorem one_b {c0 c1 e o : Int} (h : c0 % 2 ≠ (c0 + 1 * c1 + e + 1 * o) % 2) : (c1 + (e + o)) % 2 = 1 := by omega
theorem sh1_inj (ns : List Int) : isSh ns 1 = true ↔ Inj ns 1 := by
  rw [isSh_one, drop_sum]
  have e0 := mod82 (v0 ns)
  have e1 := mod82 (v1 ns)
  constructor
  · intro h a b hab hb
    obtain ⟨rfl, rfl⟩ : a = 0 ∧ b = 1 := by
      have : (2 : Nat) ^ 1 = 2 := rfl
      omega
    show nx ns 1 0 ≠ nx ns 1 1
    rw [nx1, nx1, e0, e1]
    exact one_a h
  · intro h
    have q : nx ns 1 0 ≠ nx ns 1 1 := h 0 1 (by decide) (by decide)
    rw [nx1, nx1, e0, e1] at q
    exact one_b q
theorem two_a {c0 c1 r : Int} (h : c0 % 4 ≠ (c0 + 2 * c1 + 4 * r) % 4) : c1 % 2 = 1 := by omega
theorem two_b {c0 c1 e o r : Int} (h1 : c1 % 2 = 1) (h : c0 % 4 ≠ (c0 + 1 * c1 + e + 1 * o) % 4) (h2 : (c0 + 1 * c1 + e + 1 * o) % 4 ≠ (c0 + 2 * c1 + 4 * r) % 4) : (e + o) % 2 = 0 := by omega
theorem two_c {c0 c1 e o : Int} (h1 : c1 % 2 = 1) (h : (c0 + 1 * c1 + e + 1 * o) % 4 ≠ (c0 + 3 * c1 + e + 3 * o) % 4) : o % 2 = 0 := by omega
theorem two_d {e o : Int} (h1 : (e + o) % 2 = 0) (h2 : o % 2 = 0) : e % 2 = 0 := by omega
theorem sh2_inj (ns : List Int) : isSh ns 2 = true ↔ Inj ns 2 := by
  rw [isSh_two]
  have e0 := mod84 (v0 ns)
  have e1 := mod84 (v1 ns)
  have e2 := mod84 (v2 ns)
  have e3 := mod84 (v3 ns)
  constructor
  · rintro ⟨p, q, r⟩ a b hab hb
    have hb4 : b < 4 := hb
    have cs : (a = 0 ∧ b = 1) ∨ (a = 0 ∧ b = 2) ∨ (a = 0 ∧ b = 3) ∨ (a = 1 ∧ b = 2) ∨ (a = 1 ∧ b = 3) ∨ (a = 2 ∧ b = 3) := by clear p q r e0 e1 e2 e3; omega
    rcases cs with ⟨rfl, rfl⟩ | ⟨rfl, rfl⟩ | ⟨rfl, rfl⟩ | ⟨rfl, rfl⟩ | ⟨rfl, rfl⟩ | ⟨rfl, rfl⟩
    · show nx ns 2 0 ≠ nx ns 2 1
      rw [nx2, nx2, e0, e1]; exact q01 (r := (ns.drop 2).headD 0) p q r
    · show nx ns 2 0 ≠ nx ns 2 2
      rw [nx2, nx2, e0, e2]; exact q02 p q r
    · show nx ns 2 0 ≠ nx ns 2 3
      rw [nx2, nx2, e0, e3]; exact q03 (r := (ns.drop 2).headD 0) p q r
    · show nx ns 2 1 ≠ nx ns 2 2
      rw [nx2, nx2, e1, e2]; exact q12 p q r
    · show nx ns 2 1 ≠ nx ns 2 3
      rw [nx2, nx2, e1, e3]; exact q13 (r := (ns.drop 2).headD 0) p q r
    · show nx ns 2 2 ≠ nx ns 2 3
      rw [nx2, nx2, e2, e3]; exact q23 p q r
  · intro h
    have a1 : nx ns 2 0 ≠ nx ns 2 1 := h 0 1 (by decide) (by decide)
    have a2 : nx ns 2 0 ≠ nx ns 2 2 := h 0 2 (by decide) (by decide)
    have a4 : nx ns 2 1 ≠ nx ns 2 2 := h 1 2 (by decide) (by decide)
    have a5 : nx ns 2 1 ≠ nx ns 2 3 := h 1 3 (by decide) (by decide)
    rw [nx2, nx2, e0, e1] at a1
    rw [nx2, nx2, e0, e2] at a2
    rw [nx2, nx2, e1, e2] at a4
    rw [nx2, nx2, e1, e3] at a5
    have b1 := two_a a2
    have b2 := two_c b1 a5
    exact ⟨b1, two_d (two_b b1 a1 a4) b2, b2⟩
theorem sh3_inj {ns : List Int} (h : isSh ns 2 = true) : Inj ns 3 := by
  rw [isSh_two] at h
  obtain ⟨p, q, r⟩ := h
  have main : ∀ a b : Nat, a < b → b < 8 → nx ns 3 (a : Int) ≠ nx ns 3 (b : Int) := by
    intro a b hab hb
    match a, b, hab, hb with
    | 0, 1, _, _ => exact (show nx ns 3 0 ≠ nx ns 3 1 by rw [nx3, nx3, v0, v1]; exact p01 (r := (ns.drop 2).headD 0) p q r)
    | 0, 2, _, _ => exact (show nx ns 3 0 ≠ nx ns 3 2 by rw [nx3, nx3, v0, v2]; exact p02 (r := (ns.drop 2).headD 0) p q r)
    | 0, 3, _, _ => exact (show nx ns 3 0 ≠ nx ns 3 3 by rw [nx3, nx3, v0, v3]; exact p03 (r := (ns.drop 2).headD 0) p q r)
    | 0, 4, _, _ => exact (show nx ns 3 0 ≠ nx ns 3 4 by rw [nx3, nx3, v0, v4]; exact p04 (r := (ns.drop 2).headD 0) p q r)
    | 0, 5, _, _ => exact (show nx ns 3 0 ≠ nx ns 3 5 by rw [nx3, nx3, v0, v5]; exact p05 (r := (ns.drop 2).headD 0) p q r)
    | 0, 6, _, _ => exact (show nx ns 3 0 ≠ nx ns 3 6 by rw [nx3, nx3, v0, v6]; exact p06 (r := (ns.drop 2).headD 0) p q r)
    | 0, 7, _, _ => exact (show nx ns 3 0 ≠ nx ns 3 7 by rw [nx3, nx3, v0, v7]; exact p07 (r := (ns.drop 2).headD 0) p q r)
    | 1, 2, _, _ => exact (show nx ns 3 1 ≠ nx ns 3 2 by rw [nx3, nx3, v1, v2]; exact p12 (r := (ns.drop 2).headD 0) p q r)
    | 1, 3, _, _ => exact (show nx ns 3 1 ≠ nx ns 3 3 by rw [nx3, nx3, v1, v3]; exact p13 (r := (ns.drop 2).headD 0) p q r)
    | 1, 4, _, _ => exact (show nx ns 3 1 ≠ nx ns 3 4 by rw [nx3, nx3, v1, v4]; exact p14 (r := (ns.drop 2).headD 0) p q r)
    | 1, 5, _, _ => exact (show nx ns 3 1 ≠ nx ns 3 5 by rw [nx3, nx3, v1, v5]; exact p15 (r := (ns.drop 2).headD 0) p q r)
    | 1, 6, _, _ => exact (show nx ns 3 1 ≠ nx ns 3 6 by rw [nx3, nx3, v1, v6]; exact p16 (r := (ns.drop 2).headD 0) p q r)
    | 1, 7, _, _ => exact (show nx ns 3 1 ≠ nx ns 3 7 by rw [nx3, nx3, v1, v7]; exact p17 (r := (ns.drop 2).headD 0) p q r)
    | 2, 3, _, _ => exact (show nx ns 3 2 ≠ nx ns 3 3 by rw [nx3, nx3, v2, v3]; exact p23 (r := (ns.drop 2).headD 0) p q r)
    | 2, 4, _, _ => exact (show nx ns 3 2 ≠ nx ns 3 4 by rw [nx3, nx3, v2, v4]; exact p24 (r := (ns.drop 2).headD 0) p q r)
    | 2, 5, _, _ => exact (show nx ns 3 2 ≠ nx ns 3 5 by rw [nx3, nx3, v2, v5]; exact p25 (r := (ns.drop 2).headD 0) p q r)
    | 2, 6, _, _ => exact (show nx ns 3 2 ≠ nx ns 3 6 by rw [nx3, nx3, v2, v6]; exact p26 (r := (ns.drop 2).headD 0) p q r)
    | 2, 7, _, _ => exact (show nx ns 3 2 ≠ nx ns 3 7 by rw [nx3, nx3, v2, v7]; exact p27 (r := (ns.drop 2).headD 0) p q r)
    | 3, 4, _, _ => exact (show nx ns 3 3 ≠ nx ns 3 4 by rw [nx3, nx3, v3, v4]; exact p34 (r := (ns.drop 2).headD 0) p q r)
    | 3, 5, _, _ => exact (show nx ns 3 3 ≠ nx ns 3 5 by rw [nx3, nx3, v3, v5]; exact p35 (r := (ns.drop 2).headD 0) p q r)
    | 3, 6, _, _ => exact (show nx ns 3 3 ≠ nx ns 3 6 by rw [nx3, nx3, v3, v6]; exact p36 (r := (ns.drop 2).headD 0) p q r)
    | 3, 7, _, _ => exact (show nx ns 3 3 ≠ nx ns 3 7 by rw [nx3, nx3, v3, v7]; exact p37 (r := (ns.drop 2).headD 0) p q r)
    | 4, 5, _, _ => exact (show nx ns 3 4 ≠ nx ns 3 5 by rw [nx3, nx3, v4, v5]; exact p45 (r := (ns.drop 2).headD 0) p q r)
    | 4, 6, _, _ => exact (show nx ns 3 4 ≠ nx ns 3 6 by rw [nx3, nx3, v4, v6]; exact p46 (r := (ns.drop 2).headD 0) p q r)
    | 4, 7, _, _ => exact (show nx ns 3 4 ≠ nx ns 3 7 by rw [nx3, nx3, v4, v7]; exact p47 (r := (ns.drop 2).headD 0) p q r)
    | 5, 6, _, _ => exact (show nx ns 3 5 ≠ nx ns 3 6 by rw [nx3, nx3, v5, v6]; exact p56 (r := (ns.drop 2).headD 0) p q r)
    | 5, 7, _, _ => exact (show nx ns 3 5 ≠ nx ns 3 7 by rw [nx3, nx3, v5, v7]; exact p57 (r := (ns.drop 2).headD 0) p q r)
    | 6, 7, _, _ => exact (show nx ns 3 6 ≠ nx ns 3 7 by rw [nx3, nx3, v6, v7]; exact p67 (r := (ns.drop 2).headD 0) p q r)
    | a, b + 8, _, hb => exact absurd hb (by clear p q r hab; omega)
    | a + 7, b, hab, hb => exact absurd hab (by clear p q r; omega)
  exact main


theorem onto {N : Nat} (g : Nat → Nat) (hr : ∀ i, i ≤ N → g i < N + 1) (inj : ∀ a b, a < b → b ≤ N → g a ≠ g b) (y : Nat) (hy : y < N + 1) : ∃ i, i ≤ N ∧ g i = y := by
  by_cases c : ∃ i, i ≤ N ∧ g i = y
  · exact c
  · exfalso
    obtain ⟨a, b, hab, hb, e⟩ := pigeon N (fun i => if g i < y then g i else g i - 1) (fun i hi => by
      have h1 := hr i hi
      have h2 : g i ≠ y := fun e => c ⟨i, hi, e⟩
      show (if g i < y then g i else g i - 1) < N
      split <;> omega)
    have h3 : g a ≠ y := fun e => c ⟨a, by omega, e⟩
    have h4 : g b ≠ y := fun e => c ⟨b, hb, e⟩
    have h5 := inj a b hab hb
    have e' : (if g a < y then g a else g a - 1) = (if g b < y then g b else g b - 1) := e
    split at e' <;> split at e' <;> omega
theorem ring_j {ns : List Int} {L j : Nat} (h : isSh ns 3 = true) (c : Cyc ns 3 0 L j) : j = 0 := by
  rw [isSh_ge (by decide)] at h
  have I := sh3_inj h
  cases j with
  | zero => rfl
  | succ j =>
    exfalso
    have hlt := c.lt
    obtain ⟨L', rfl⟩ : ∃ L', L = L' + 1 := ⟨L - 1, by omega⟩
    have b : nx ns 3 (itn ns 3 L' 0) = nx ns 3 (itn ns 3 j 0) := c.back
    have r1 := itn_range (ns := ns) (n := 3) (x := 0) (by decide) L'
    have r2 := itn_range (ns := ns) (n := 3) (x := 0) (by decide) j
    have ne := c.inj j L' (by omega) (by omega)
    have p8 : (2 : Int) ^ 3 = 8 := rfl
    have q8 : (2 : Nat) ^ 3 = 8 := rfl
    generalize itn ns 3 L' 0 = u at *
    generalize itn ns 3 j 0 = v at *
    obtain ⟨a, rfl⟩ : ∃ a : Nat, u = a := ⟨u.toNat, by omega⟩
    obtain ⟨d, rfl⟩ : ∃ d : Nat, v = d := ⟨v.toNat, by omega⟩
    rcases Nat.lt_trichotomy a d with k | k | k
    · exact I a d k (by omega) b
    · exact ne (by rw [k])
    · exact I d a k (by omega) b.symm
theorem inj3_c {c0 c1 : Int} (h : c0 % 8 ≠ (c0 + 4 * c1 + 0 * r) % 8) : c1 % 2 = 1 := by omega
theorem inj3_o {c0 c1 e o : Int} (h1 : c1 % 2 = 1) (h : (c0 + 1 * c1 + e + 1 * o) % 8 ≠ (c0 + 5 * c1 + e + 5 * o) % 8) : o % 2 = 0 := by omega
theorem inj3_e {c0 c1 e o r : Int} (h1 : c1 % 2 = 1) (h2 : o % 2 = 0) (a : c0 % 8 ≠ (c0 + 1 * c1 + e + 1 * o) % 8) (b : (c0 + 1 * c1 + e + 1 * o) % 8 ≠ (c0 + 2 * c1 + 4 * r) % 8) (c : (c0 + 1 * c1 + e + 1 * o) % 8 ≠ (c0 + 4 * c1 + 0 * r) % 8) (d : (c0 + 1 * c1 + e + 1 * o) % 8 ≠ (c0 + 6 * c1 + 4 * r) % 8) : e % 2 = 0 := by omega
theorem inj3_sh {ns : List Int} (I : Inj ns 3) : isSh ns 2 = true := by
  rw [isSh_two]
  have a04 : nx ns 3 0 ≠ nx ns 3 4 := I 0 4 (by decide) (by decide)
  have a15 : nx ns 3 1 ≠ nx ns 3 5 := I 1 5 (by decide) (by decide)
  have a01 : nx ns 3 0 ≠ nx ns 3 1 := I 0 1 (by decide) (by decide)
  have a12 : nx ns 3 1 ≠ nx ns 3 2 := I 1 2 (by decide) (by decide)
  have a14 : nx ns 3 1 ≠ nx ns 3 4 := I 1 4 (by decide) (by decide)
  have a16 : nx ns 3 1 ≠ nx ns 3 6 := I 1 6 (by decide) (by decide)
  rw [nx3, nx3, v0, v4] at a04
  rw [nx3, nx3, v1, v5] at a15
  rw [nx3, nx3, v0, v1] at a01
  rw [nx3, nx3, v1, v2] at a12
  rw [nx3, nx3, v1, v4] at a14
  rw [nx3, nx3, v1, v6] at a16
  have b1 := inj3_c a04
  have b2 := inj3_o b1 a15
  exact ⟨b1, inj3_e b1 b2 a01 a12 a14 a16, b2⟩
theorem ring_sh {ns : List Int} (c : Cyc ns 3 0 8 0) : isSh ns 3 = true := by
  rw [isSh_ge (by decide)]
  refine inj3_sh fun a b hab hb e => ?_
  have p8 : (2 : Int) ^ 3 = 8 := rfl
  have q8 : (2 : Nat) ^ 3 = 8 := rfl
  have hr := fun k => itn_range (ns := ns) (n := 3) (x := 0) (by decide) k
  have sur := onto (N := 7) (fun i => (itn ns 3 i 0).toNat) (fun i _ => by have := hr i; show (itn ns 3 i 0).toNat < 8; omega) (fun i k hik hk q => by
    have q : (itn ns 3 i 0).toNat = (itn ns 3 k 0).toNat := q
    have h1 := hr i
    have h2 := hr k
    exact c.inj i k hik (by omega) (by omega))
  obtain ⟨i, hi, ei⟩ := sur a (by omega)
  obtain ⟨k, hk, ek⟩ := sur b (by omega)
  have ei : itn ns 3 i 0 = (a : Int) := by have ei : (itn ns 3 i 0).toNat = a := ei; have := hr i; omega
  have ek : itn ns 3 k 0 = (b : Int) := by have ek : (itn ns 3 k 0).toNat = b := ek; have := hr k; omega
  have e : itn ns 3 (i + 1) 0 = itn ns 3 (k + 1) 0 := by
    show nx ns 3 (itn ns 3 i 0) = nx ns 3 (itn ns 3 k 0)
    rw [ei, ek]
    exact e
  have hik : i ≠ k := fun z => by rw [z, ek] at ei; omega
  have key : ∀ i k, i < k → k ≤ 7 → itn ns 3 (i + 1) 0 ≠ itn ns 3 (k + 1) 0 := by
    intro i k h1 h2 e
    by_cases hk : k = 7
    · subst hk
      have e2 : itn ns 3 (7 + 1) 0 = itn ns 3 0 0 := c.back
      rw [e2] at e
      exact c.inj 0 (i + 1) (by omega) (by omega) e.symm
    · exact c.inj (i + 1) (k + 1) (by omega) (by omega) e
  rcases Nat.lt_or_gt_of_ne hik with h | h
  · exact key i k h hk e
  · exact key k i h hi e.symm
noncomputable def isRing (ns : List Int) : Bool := isSh ns 3 && decide (cycL ns 3 0 = 8)
theorem ring_cyc (ns : List Int) : Cyc ns 3 0 (cycL ns 3 0) (cycJ ns 3 0) := cyc_at (by decide) (by decide)
theorem ring_eq (ns : List Int) : isRing ns = (decide (cycL ns 3 0 = 8) && decide (cycJ ns 3 0 = 0)) := by
  have c := ring_cyc ns
  unfold isRing
  by_cases h : isSh ns 3 = true
  · rw [h, ring_j h c, Bool.true_and, decide_eq_true rfl, Bool.and_true]
  · rw [Bool.not_eq_true] at h
    rw [h, Bool.false_and]
    symm
    rw [Bool.and_eq_false_iff, decide_eq_false_iff_not, decide_eq_false_iff_not]
    by_cases e : cycL ns 3 0 = 8
    · refine .inr fun e2 => ?_
      rw [e, e2] at c
      rw [ring_sh c] at h
      cases h
    · exact .inl e
theorem sh_both (ns : List Int) : (isSh ns 1 && isSh ns 2) = isSh ns 2 := by
  by_cases h : isSh ns 2 = true
  · rw [h, sh_12 h]; rfl
  · rw [Bool.not_eq_true] at h
    rw [h, Bool.and_false]
theorem sh_min {ns : List Int} {n : Nat} (h : 1 ≤ n) : isSh ns n = isSh ns (min n 2) := by
  by_cases c : n = 1
  · subst c; rfl
  · rw [isSh_ge c, Nat.min_eq_right (by omega)]
/-- whether a wish holds for a rule with some numbers -/
noncomputable def holdsB (ns : List Int) : Wish → Bool
  | .ring _ => isRing ns
  | .noring _ => !isRing ns
  | .shuffle _ => isSh ns 2
  | .length _ n x m => isSh ns n && decide (cycL ns n x = m)
  | .after _ n x m y => decide (itn ns n m x = y)
  | .comes _ n x y => isSh ns n && (spots ns n x y (cycL ns n x)).head?.isSome


section
variable {w : World} {K : PySem.W.Frag} {mg : Str → Option Value} {base : Heap}
theorem sc_holds_for : FnScope ns_holds_for ps_holds_for (defScope s_holds_for) := ⟨rfl, rfl, rfl, by decide +kernel, rfl, by decide +kernel, by decide +kernel⟩
def sp_holds_for (K : PySem.W.Frag) : Sp := fun vs H Q _ => ∃ (r t : Addr) (ns : List Int) (wi : Wish), vs = [.ref r, .ref t] ∧ IsRule K H r ns ∧ SqT K H t (wishV wi) ∧ WishOk wi ∧ ∀ H', Same H H' → Q (.bl (holdsB ns wi)) H'
theorem isi_opt {K : PySem.W.Frag} {H : Hp} {Q : VK} {E : XK} {o : Option Nat} (h : Q (.bl o.isSome) H) : sp_is_integer [optV o] H Q E := by
  cases o with
  | none => exact .inr ⟨rfl, h⟩
  | some k => exact .inl ⟨k, rfl, h⟩
theorem ok_holds_for (T : Txt w K mg) : Has PP w K mg base d_holds_for 8 ps_holds_for (sp_holds_for K) := by
  refine mkHas T.f_holds_for sc_holds_for (fun _ _ _ _ _ _ us hl => match us, hl with | [_, _], _ => rfl) (fun vs H Q E h => ?_) (fun cdv A outer s H vs Q E hr h => ⟨_, (pss_cons (ps_set (i := 2) sc_holds_for.nd rfl (Or.inl rfl) (pe_ix (r := rIxT K) ix_tup (pv 1) pe_int (fun _ _ => rfl)))
 (pss_cons (ps_if (pt_cmpR op_eq (pv 2) pe_str (nomark _)) (pss_one (ps_ret (cF (ok_is_always_ring_rule T) (hr.mono (by decide)) T.g_is_always_ring_rule (pa_cons (pv 0) pa_nil)))) pss_nil)
 (pss_cons (ps_if (pt_cmpR op_eq (pv 2) pe_str (nomark _)) (pss_one (ps_ret (pe_not (cF (ok_is_always_ring_rule T) (hr.mono (by decide)) T.g_is_always_ring_rule (pa_cons (pv 0) pa_nil))))) pss_nil)
 (pss_cons (ps_if (pt_cmpR op_eq (pv 2) pe_str (nomark _)) (pss_one (ps_ret (cF (ok_is_always_shuffle_rule T) (hr.mono (by decide)) T.g_is_always_shuffle_rule (pa_cons (pv 0) pa_nil)))) pss_nil)
 (pss_cons (ps_if (pt_cmpR op_eq (pv 2) pe_str (nomark _)) (pss_one (ps_ret (cF (ok_has_length T) (hr.mono (by decide)) T.g_has_length (pa_cons (pv 0) (pa_cons (pe_ix (r := rIxT K) ix_tup (pv 1) pe_int (fun _ _ => rfl)) (pa_cons (pe_ix (r := rIxT K) ix_tup (pv 1) pe_int (fun _ _ => rfl)) (pa_cons (pe_ix (r := rIxT K) ix_tup (pv 1) pe_int (fun _ _ => rfl)) pa_nil))))))) pss_nil)
 (pss_cons (ps_if (pt_cmpR op_eq (pv 2) pe_str (nomark _)) (pss_one (ps_ret (pe_cmpR op_eq (cF (ok_after T) (hr.mono (by decide)) T.g_after (pa_cons (pv 0) (pa_cons (pe_ix (r := rIxT K) ix_tup (pv 1) pe_int (fun _ _ => rfl)) (pa_cons (pe_ix (r := rIxT K) ix_tup (pv 1) pe_int (fun _ _ => rfl)) (pa_cons (pe_ix (r := rIxT K) ix_tup (pv 1) pe_int (fun _ _ => rfl)) pa_nil))))) (pe_ix (r := rIxT K) ix_tup (pv 1) pe_int (fun _ _ => rfl)) (nomark _)))) pss_nil)
 (pss_one (ps_ret (cF (ok_is_integer T) (hr.mono (by decide)) T.g_is_integer (pa_cons (cF (ok_coming T) (hr.mono (by decide)) T.g_coming (pa_cons (pv 0) (pa_cons (pe_ix (r := rIxT K) ix_tup (pv 1) pe_int (fun _ _ => rfl)) (pa_cons (pe_ix (r := rIxT K) ix_tup (pv 1) pe_int (fun _ _ => rfl)) (pa_cons (pe_ix (r := rIxT K) ix_tup (pv 1) pe_int (fun _ _ => rfl)) pa_nil))))) pa_nil)))))))))), ?_⟩)
  · obtain ⟨r, t, ns, wi, rfl, _⟩ := h
    rfl
  · obtain ⟨r, t, ns, wi, rfl, h1, ht, ok, q⟩ := h
    walk_at "w"
    refine w_ixT ht (atI_nat (j := 0) rfl) ?_
    walk_at "w"
    cases wi with
    | ring nm =>
      refine if_dT rfl ?_
      walk_at "w"
      exact ⟨r, ns, cycL ns 3 0, rfl, h1, fun h => by have c := ring_cyc ns; rw [ring_j h c] at c; exact c, q⟩
    | noring nm =>
      simp only [wk]
      refine if_dF (by decide) ?_
      walk_at "w"
      refine if_dT rfl ?_
      walk_at "w"
      refine ⟨r, ns, cycL ns 3 0, rfl, h1, fun h => by have c := ring_cyc ns; rw [ring_j h c] at c; exact c, fun H' s1 => ?_⟩
      walk_at "w"
      exact q _ s1
    | shuffle nm =>
      simp only [wk]
      refine if_dF (by decide) ?_
      walk_at "w"
      refine if_dF (by decide) ?_
      walk_at "w"
      refine if_dT rfl ?_
      walk_at "w"
      refine ⟨r, ns, rfl, h1, fun H' s1 => ?_⟩
      rw [sh_both]
      exact q _ s1
    | length nm n x m =>
      obtain ⟨o1, o2, o3⟩ := ok.ok
      simp only [wk]
      refine if_dF (by decide) ?_
      walk_at "w"
      refine if_dF (by decide) ?_
      walk_at "w"
      refine if_dF (by decide) ?_
      walk_at "w"
      refine if_dT rfl ?_
      walk_at "w"
      refine w_ixT ht (atI_nat (j := 2) rfl) ?_
      walk_at "w"
      refine w_ixT ht (atI_nat (j := 3) rfl) ?_
      walk_at "w"
      refine w_ixT ht (atI_nat (j := 4) rfl) ?_
      walk_at "w"
      exact ⟨r, ns, n, x, cycL ns n x, cycJ ns n x, m, rfl, h1, by omega, o2, cyc_at o1.2 o2, q⟩
    | after nm n x m y =>
      obtain ⟨o1, o2, o3, o4⟩ := ok.ok
      simp only [wk]
      refine if_dF (by decide) ?_
      walk_at "w"
      refine if_dF (by decide) ?_
      walk_at "w"
      refine if_dF (by decide) ?_
      walk_at "w"
      refine if_dF (by decide) ?_
      walk_at "w"
      refine if_dT rfl ?_
      walk_at "w"
      refine w_ixT ht (atI_nat (j := 2) rfl) ?_
      walk_at "w"
      refine w_ixT ht (atI_nat (j := 3) rfl) ?_
      walk_at "w"
      refine w_ixT ht (atI_nat (j := 4) rfl) ?_
      walk_at "w"
      refine ⟨r, ns, n, x, cycL ns n x, cycJ ns n x, m, rfl, h1, by omega, o2, o3, cyc_at o1.2 o2, fun H' s1 => ?_⟩
      walk_at "w"
      refine w_ixT (s1.tq ht) (atI_nat (j := 5) rfl) ?_
      walk_at "w"
      exact q _ s1
    | comes nm n x y =>
      obtain ⟨o1, o2, o3⟩ := ok.ok
      simp only [wk]
      refine if_dF (by decide) ?_
      walk_at "w"
      refine if_dF (by decide) ?_
      walk_at "w"
      refine if_dF (by decide) ?_
      walk_at "w"
      refine if_dF (by decide) ?_
      walk_at "w"
      refine if_dF (by decide) ?_
      walk_at "w"
      refine w_ixT ht (atI_nat (j := 2) rfl) ?_
      walk_at "w"
      refine w_ixT ht (atI_nat (j := 3) rfl) ?_
      walk_at "w"
      refine w_ixT ht (atI_nat (j := 4) rfl) ?_
      walk_at "w"
      refine ⟨r, ns, n, x, y, cycL ns n x, cycJ ns n x, rfl, h1, by omega, o2, o3, cyc_at o1.2 o2, fun H' s1 => ?_⟩
      walk_at "w"
      refine isi_opt (K := K) ?_
      refine q_bl ?_ (q _ s1)
      show (isSh ns n && (spots ns n x y (cycL ns n x)).head?.isSome) = _
      cases isSh ns n <;> rfl
/-! ### a book's rows -/
def Row (K : PySem.W.Frag) (H : Hp) (v : V) (p : Str × List Int) : Prop := ∃ a r, v = .ref a ∧ SqT K H a [.str p.1, .ref r] ∧ IsRule K H r p.2
def RowsAt (K : PySem.W.Frag) (H : Hp) (a : Addr) (kept : List (Str × List Int)) : Prop := ∃ vs, SqT K H a vs ∧ Paired (Row K H) vs kept
theorem Row.at {K : PySem.W.Frag} {H H' : Hp} {v : V} {p : Str × List Int} (h : Row K H v p) (s : Same H H') : Row K H' v p := by
  obtain ⟨a, r, e, h1, h2⟩ := h
  exact ⟨a, r, e, s.tq h1, h2.at s⟩
theorem rows_at {K : PySem.W.Frag} {H H' : Hp} (s : Same H H') : ∀ {vs : List V} {kept : List (Str × List Int)}, Paired (Row K H) vs kept → Paired (Row K H') vs kept
  | _, _, .nil => .nil
  | _, _, .cons h t => .cons (h.at s) (rows_at s t)
theorem RowsAt.at {K : PySem.W.Frag} {H H' : Hp} {a : Addr} {kept : List (Str × List Int)} (h : RowsAt K H a kept) (s : Same H H') : RowsAt K H' a kept := by
  obtain ⟨vs, h1, h2⟩ := h
  exact ⟨vs, s.tq h1, rows_at s h2⟩
theorem prd_len {α β : Type} {F : α → β → Prop} : ∀ {l₁ : List α} {l₂ : List β}, Paired F l₁ l₂ → l₁.length = l₂.length
  | _, _, .nil => rfl
  | _, _, .cons _ t => congrArg Nat.succ (prd_len t)
theorem prd_at {α β : Type} {F : α → β → Prop} : ∀ {l₁ : List α} {l₂ : List β}, Paired F l₁ l₂ → ∀ {i : Nat} {a : α}, l₁[i]? = some a → ∃ b, l₂[i]? = some b ∧ F a b
  | _, _, .nil, _, _, h => by cases h
  | _, _, .cons h t, 0, _, e => by cases e; exact ⟨_, rfl, h⟩
  | _, _, .cons h t, i + 1, _, e => prd_at t (i := i) e
theorem prd_at' {α β : Type} {F : α → β → Prop} : ∀ {l₁ : List α} {l₂ : List β}, Paired F l₁ l₂ → ∀ {i : Nat} {b : β}, l₂[i]? = some b → ∃ a, l₁[i]? = some a ∧ F a b
  | _, _, .nil, _, _, h => by cases h
  | _, _, .cons h t, 0, _, e => by cases e; exact ⟨_, rfl, h⟩
  | _, _, .cons h t, i + 1, _, e => prd_at' t (i := i) e
/-- where a name stands -/
def idx (kept : List (Str × List Int)) (nm : Str) : Option Nat := kept.findIdx? fun p => decide (p.1 = nm)
theorem sc_place_of : FnScope ns_place_of ps_place_of (defScope s_place_of) := ⟨rfl, rfl, rfl, by decide +kernel, rfl, by decide +kernel, by decide +kernel⟩
def sp_place_of (K : PySem.W.Frag) : Sp := fun vs H Q _ => ∃ (t : Addr) (nm : Str) (kept : List (Str × List Int)), vs = [.ref t, .str nm] ∧ RowsAt K H t kept ∧ ∀ H', Same H H' → Q (optV (idx kept nm)) H'
theorem ok_place_of (T : Txt w K mg) : Has PP w K mg base d_place_of 1 ps_place_of (sp_place_of K) := by
  refine mkHas T.f_place_of sc_place_of (fun _ _ _ _ _ _ us hl => match us, hl with | [_, _], _ => rfl) (fun vs H Q E h => ?_) (fun cdv A outer s H vs Q E hr h => ⟨_, (pss_cons (ps_for (passes_of rfl) rfl (pi_enumT rfl T.n_enumerate (pa_cons (pv 0) pa_nil)) (pg_tup rfl (pgs_cons (pg_name (i := 2) sc_place_of.nd rfl (Or.inl rfl)) (pgs_cons (pg_name (i := 3) sc_place_of.nd rfl (Or.inl rfl)) pgs_nil)))
 (pss_one (ps_if (PW.pt (pw_and (pt_val (pe_callB call_isi rfl T.n_isinstance (by kernel_rfl) (pa_cons (pv 1) (pa_cons (pe_bltn (v := .ty "str") rfl T.n_str boot_str rfl) pa_nil)))) (pw_and1 (pt_cmpR op_eq (pe_ix (r := rIxT K) ix_tup (pv 3) pe_int (fun _ _ => rfl)) (pv 1) (nomark _))))) (pss_one (ps_ret (pv 2))) pss_nil)))
 (pss_one (ps_ret pe_non))), ?_⟩)
  · obtain ⟨t, nm, kept, rfl, _⟩ := h
    rfl
  · obtain ⟨t, nm, kept, rfl, ⟨xs, h1, h2⟩, q⟩ := h
    have hl := prd_len h2
    walk_at "w"
    refine ⟨t, xs, rfl, h1, for_enumT rfl (fun i σ H' => Same H H' ∧ (∃ a b, σ = [some (.ref t), some (.str nm), a, b]) ∧ ∀ k p, k < i → kept[k]? = some p → p.1 ≠ nm) ⟨Same.refl _, ⟨_, _, rfl⟩, fun k p hk => absurd hk (Nat.not_lt_zero _)⟩ (fun i σ H' _ q => q.1.tq h1) ?_ ?_⟩
    · rintro k v σ H' p' hv ⟨s1, ⟨a, b, rfl⟩, hno⟩ hp'
      obtain ⟨p, hp, b2, r2, rfl, hr2, _⟩ := prd_at h2 hv
      have s2 := s1.u (o := .tup [.int k, .ref b2]) hp'
      walk_at "w"
      refine w_ixT (s2.tq hr2) (atI_nat (j := 0) rfl) ?_
      walk_at "w"
      refine if_d (fun e => ?_) (fun e => ?_)
      · walk_at "w"
        have hi : idx kept nm = some k := by
          unfold idx
          rw [List.findIdx?_eq_some_iff_getElem]
          obtain ⟨hk, ek⟩ := List.getElem?_eq_some_iff.mp hp
          refine ⟨hk, by rw [ek]; exact decide_eq_true e, fun j hj => ?_⟩
          have := hno j _ hj (List.getElem?_eq_getElem (Nat.lt_trans hj hk))
          simp [this]
        rw [hi] at q
        exact q _ s2
      · walk_at "w"
        refine ⟨s2, ⟨_, _, rfl⟩, fun j p2 hj hp2 => ?_⟩
        by_cases c : j = k
        · subst c
          rw [hp] at hp2
          cases hp2
          exact e
        · exact hno j p2 (by omega) hp2
    · rintro σ H' ⟨s1, ⟨a, b, rfl⟩, hno⟩
      walk_at "w"
      have hi : idx kept nm = none := by
        unfold idx
        rw [List.findIdx?_eq_none_iff]
        intro p hp
        obtain ⟨j, hj, ej⟩ := List.mem_iff_getElem.mp hp
        have := hno j p (by omega) (by rw [List.getElem?_eq_getElem hj, ej])
        simp [this]
      rw [hi] at q
      exact q _ s1
theorem sc_is_about : FnScope ns_is_about ps_is_about (defScope s_is_about) := ⟨rfl, rfl, rfl, by decide +kernel, rfl, by decide +kernel, by decide +kernel⟩
def sp_is_about (K : PySem.W.Frag) : Sp := fun vs H Q _ => ∃ (t : Addr) (nm : Str) (wi : Wish), vs = [.ref t, .str nm] ∧ SqT K H t (wishV wi) ∧ Q (.bl (decide (wn wi = nm))) H
theorem ok_is_about (T : Txt w K mg) : Has PP w K mg base d_is_about 1 ps_is_about (sp_is_about K) := by
  refine mkHas T.f_is_about sc_is_about (fun _ _ _ _ _ _ us hl => match us, hl with | [_, _], _ => rfl) (fun vs H Q E h => ?_) (fun cdv A outer s H vs Q E hr h => ⟨_, (pss_one (ps_ret (pe_and (pe_callB call_isi rfl T.n_isinstance (by kernel_rfl) (pa_cons (pe_ix (r := rIxT K) ix_tup (pv 0) pe_int (fun _ _ => rfl)) (pa_cons (pe_bltn (v := .ty "str") rfl T.n_str boot_str rfl) pa_nil))) (pe_one (pe_cmpR op_eq (pe_ix (r := rIxT K) ix_tup (pv 0) pe_int (fun _ _ => rfl)) (pv 1) (nomark _)))))), ?_⟩)
  · obtain ⟨t, nm, wi, rfl, _⟩ := h
    rfl
  · obtain ⟨t, nm, wi, rfl, ht, q⟩ := h
    walk_at "w"
    refine w_ixT ht (atI_nat (j := 1) rfl) ?_
    walk_at "w"
    refine w_ixT ht (atI_nat (j := 1) rfl) ?_
    walk_at "w"
    exact q
end


/-! ### a book -/
structure BSt where
  kept : List (Str × List Int)
  made : List Wish
/-- what may change: a book, a jar, tables of code objects -/
def Mut : HO → Prop
  | .ins _ _ fs => ∃ v, fs = [(("held" : Str), v)]
  | .lst xs => ∃ a b c : Int, xs = [.int a, .int b, .int c]
  | .tbl _ => True
  | _ => False
def Kp (H H' : Hp) : Prop := ∀ a o, H a = some o → ¬ Mut o → H' a = some o
def SX (b : Addr) (H H' : Hp) : Prop := ∀ a o, a ≠ b → H a = some o → H' a = some o
theorem kpS {H H' : Hp} (s : Same H H') : Kp H H' := fun a o h _ => s a o h
theorem Kp.trans {H H1 H2 : Hp} (a : Kp H H1) (b : Kp H1 H2) : Kp H H2 := fun c o h m => b c o (a c o h m) m
theorem Kp.refl (H : Hp) : Kp H H := fun _ _ h _ => h
theorem kpX {b : Addr} {H H' : Hp} {o : HO} (s : SX b H H') (h : H b = some o) (m : Mut o) : Kp H H' := fun a u e n => s a u (fun z => by subst z; rw [h] at e; cases e; exact n m) e
theorem sxS {b : Addr} {H H' : Hp} (s : Same H H') : SX b H H' := fun a o _ h => s a o h
theorem SX.trans {b : Addr} {H H1 H2 : Hp} (a : SX b H H1) (c : SX b H1 H2) : SX b H H2 := fun d o n h => c d o n (a d o n h)
theorem sxU {b : Addr} {H : Hp} {o : HO} : SX b H (upd H b o) := fun a u n h => by rw [upd_ne n]; exact h
theorem Kp.tq {K : PySem.W.Frag} {H H' : Hp} {a : Addr} {xs : List V} (e : Kp H H') (h : SqT K H a xs) : SqT K H' a xs := by
  rcases h with (h | ⟨o, h⟩) | h
  · exact .inl (.inl (e _ _ h (fun z => z)))
  · exact .inl (.inr ⟨o, e _ _ h (fun z => z)⟩)
  · exact .inr h
theorem IsRule.kp {K : PySem.W.Frag} {H H' : Hp} {r : Addr} {ns : List Int} (h : IsRule K H r ns) (s : Kp H H') : IsRule K H' r ns := by
  obtain ⟨dx, t, h1, h2⟩ := h
  refine ⟨dx, t, s _ _ h1 (fun z => ?_), s.tq h2⟩
  obtain ⟨v, e⟩ := z
  have e2 : (("row" : Str), V.ref t) = (("held" : Str), v) := by injection e
  have e3 : ("row" : Str) = "held" := congrArg Prod.fst e2
  exact absurd e3 (by decide)
theorem Row.kp {K : PySem.W.Frag} {H H' : Hp} {v : V} {p : Str × List Int} (h : Row K H v p) (s : Kp H H') : Row K H' v p := by
  obtain ⟨a, r, e, h1, h2⟩ := h
  exact ⟨a, r, e, s.tq h1, h2.kp s⟩
theorem rows_kp {K : PySem.W.Frag} {H H' : Hp} (s : Kp H H') : ∀ {vs : List V} {kept : List (Str × List Int)}, Paired (Row K H) vs kept → Paired (Row K H') vs kept
  | _, _, .nil => .nil
  | _, _, .cons h t => .cons (h.kp s) (rows_kp s t)
theorem RowsAt.kp {K : PySem.W.Frag} {H H' : Hp} {a : Addr} {kept : List (Str × List Int)} (h : RowsAt K H a kept) (s : Kp H H') : RowsAt K H' a kept := by
  obtain ⟨vs, h1, h2⟩ := h
  exact ⟨vs, s.tq h1, rows_kp s h2⟩
def WishR (K : PySem.W.Frag) (H : Hp) (v : V) (wi : Wish) : Prop := ∃ t, v = .ref t ∧ SqT K H t (wishV wi)
theorem WishR.kp {K : PySem.W.Frag} {H H' : Hp} {v : V} {wi : Wish} (h : WishR K H v wi) (s : Kp H H') : WishR K H' v wi := by
  obtain ⟨t, e, h1⟩ := h
  exact ⟨t, e, s.tq h1⟩
theorem wishes_kp {K : PySem.W.Frag} {H H' : Hp} (s : Kp H H') : ∀ {vs : List V} {made : List Wish}, Paired (WishR K H) vs made → Paired (WishR K H') vs made
  | _, _, .nil => .nil
  | _, _, .cons h t => .cons (h.kp s) (wishes_kp s t)
def WishesAt (K : PySem.W.Frag) (H : Hp) (a : Addr) (made : List Wish) : Prop := ∃ vs, SqT K H a vs ∧ Paired (WishR K H) vs made
theorem WishesAt.kp {K : PySem.W.Frag} {H H' : Hp} {a : Addr} {made : List Wish} (h : WishesAt K H a made) (s : Kp H H') : WishesAt K H' a made := by
  obtain ⟨vs, h1, h2⟩ := h
  exact ⟨vs, s.tq h1, wishes_kp s h2⟩
/-- the chain of states, the last one first -/
def HeldAt (K : PySem.W.Frag) (H : Hp) : List BSt → V → Prop
  | [], v => v = .non
  | s :: rest, v => ∃ h rows wishes prev, v = .ref h ∧ SqT K H h [.ref rows, .ref wishes, prev, .int rest.length] ∧ RowsAt K H rows s.kept ∧ WishesAt K H wishes s.made ∧ HeldAt K H rest prev
theorem HeldAt.kp {K : PySem.W.Frag} {H H' : Hp} (s : Kp H H') : ∀ {past : List BSt} {v : V}, HeldAt K H past v → HeldAt K H' past v
  | [], _, h => h
  | _ :: _, _, ⟨h, rows, wishes, prev, e, h1, h2, h3, h4⟩ => ⟨h, rows, wishes, prev, e, s.tq h1, h2.kp s, h3.kp s, HeldAt.kp s h4⟩
def BookAt (K : PySem.W.Frag) (H : Hp) (b : Addr) (past : List BSt) : Prop := ∃ dx v, H b = some (.ins (He.ga K "Book") dx [("held", v)]) ∧ HeldAt K H past v
theorem BookAt.kpx {K : PySem.W.Frag} {H H' : Hp} {b : Addr} {past : List BSt} (h : BookAt K H b past) (s : SX b H H') : Kp H H' := by
  obtain ⟨dx, v, h1, _⟩ := h
  exact kpX s h1 ⟨v, rfl⟩
theorem BookAt.at {K : PySem.W.Frag} {H H' : Hp} {b : Addr} {past : List BSt} (h : BookAt K H b past) (s : Same H H') : BookAt K H' b past := by
  obtain ⟨dx, v, h1, h2⟩ := h
  exact ⟨dx, v, s _ _ h1, h2.kp (kpS s)⟩
theorem BookAt.top {K : PySem.W.Frag} {H : Hp} {b : Addr} {s : BSt} {rest : List BSt} (h : BookAt K H b (s :: rest)) : ∃ dx a rows wishes prev, H b = some (.ins (He.ga K "Book") dx [("held", .ref a)]) ∧ SqT K H a [.ref rows, .ref wishes, prev, .int rest.length] ∧ RowsAt K H rows s.kept ∧ WishesAt K H wishes s.made ∧ HeldAt K H rest prev := by
  obtain ⟨dx, v, h1, a, rows, wishes, prev, rfl, h2, h3, h4, h5⟩ := h
  exact ⟨dx, a, rows, wishes, prev, h1, h2, h3, h4, h5⟩
section
variable {w : World} {K : PySem.W.Frag} {mg : Str → Option Value} {base : Heap}
theorem sc_Book_init : FnScope ns_Book_init ps_Book_init (defScope s_Book_init) := ⟨rfl, rfl, rfl, by decide +kernel, rfl, by decide +kernel, by decide +kernel⟩
def sp_Book_init (K : PySem.W.Frag) : Sp := fun vs H Q _ => ∃ x dx, vs = [.ref x] ∧ H x = some (.ins (He.ga K "Book") dx []) ∧ ∀ H', SX x H H' → BookAt K H' x [⟨[], []⟩] → Q .non H'
theorem ok_Book_init (T : Txt w K mg) : Has PP w K mg base d_Book_init 1 ps_Book_init (sp_Book_init K) := by
  refine mkHas T.f_Book_init sc_Book_init (fun _ _ _ _ _ _ us hl => match us, hl with | [_], _ => rfl) (fun vs H Q E h => ?_) (fun cdv A outer s H vs Q E hr h => ⟨_, (pss_one (ps_fld (pv 0) (pe_tup (pa_cons (pe_tup pa_nil) (pa_cons (pe_tup pa_nil) (pa_cons pe_non (pa_cons pe_int pa_nil))))) rfl)), ?_⟩)
  · obtain ⟨x, dx, rfl, _⟩ := h
    rfl
  · obtain ⟨x, dx, rfl, hx, q⟩ := h
    walk_at "w"
    refine ⟨le_line (by simp), fun p1 hp1 => ?_⟩
    walk_at "w"
    refine ⟨le_line (by simp), fun p2 hp2 => ?_⟩
    walk_at "w"
    refine ⟨le_line (by simp), fun p3 hp3 => ?_⟩
    have s1 := sameU (o := .tup []) hp1
    have s2 := s1.u (o := .tup []) hp2
    have s3 := s2.u (o := .tup [.ref p1, .ref p2, .non, .int 0]) hp3
    have e1 := sameU (o := .tup []) hp2 _ _ (upd_same (H := H) (a := p1) (o := .tup []))
    have e2 := sameU (o := .tup [.ref p1, .ref p2, .non, .int 0]) hp3 _ _ e1
    have e3 := sameU (o := .tup [.ref p1, .ref p2, .non, .int 0]) hp3 _ _ (upd_same (a := p2))
    have e4 := upd_same (H := upd (upd H p1 (.tup [])) p2 (.tup [])) (a := p3) (o := .tup [.ref p1, .ref p2, .non, .int 0])
    generalize upd (upd (upd H p1 (.tup [])) p2 (.tup [])) p3 (.tup [.ref p1, .ref p2, .non, .int 0]) = H3 at s3 e2 e3 e4
    walk_at "w"
    refine w_setF (s3 _ _ hx) T.clB T.na_held (by simp) ?_
    have hx3 := s3 _ _ hx
    have n1 : p1 ≠ x := ne_of e2 hx3 (by intro z; cases z)
    have n2 : p2 ≠ x := ne_of e3 hx3 (by intro z; cases z)
    have n3 : p3 ≠ x := ne_of e4 hx3 (by intro z; cases z)
    refine q _ ((sxS s3).trans sxU) ⟨dx, .ref p3, upd_same, p3, p1, p2, .non, rfl, ?_, ⟨[], ?_, .nil⟩, ⟨[], ?_, .nil⟩, rfl⟩
    · exact sqT (by rw [upd_ne n3]; exact e4)
    · exact sqT (by rw [upd_ne n1]; exact e2)
    · exact sqT (by rw [upd_ne n2]; exact e3)
theorem sc_Book_go_on : FnScope ns_Book_go_on ps_Book_go_on (defScope s_Book_go_on) := ⟨rfl, rfl, rfl, by decide +kernel, rfl, by decide +kernel, by decide +kernel⟩
def sp_Book_go_on (K : PySem.W.Frag) : Sp := fun vs H Q _ => ∃ b rows wishes s rest kept made, vs = [.ref b, .ref rows, .ref wishes] ∧ BookAt K H b (s :: rest) ∧ RowsAt K H rows kept ∧ WishesAt K H wishes made ∧ ∀ H', SX b H H' → BookAt K H' b (⟨kept, made⟩ :: s :: rest) → Q .non H'
theorem ok_Book_go_on (T : Txt w K mg) : Has PP w K mg base d_Book_go_on 1 ps_Book_go_on (sp_Book_go_on K) := by
  refine mkHas T.f_Book_go_on sc_Book_go_on (fun _ _ _ _ _ _ us hl => match us, hl with | [_, _, _], _ => rfl) (fun vs H Q E h => ?_) (fun cdv A outer s H vs Q E hr h => ⟨_, (pss_one (ps_fld (pv 0) (pe_tup (pa_cons (pv 1) (pa_cons (pv 2) (pa_cons (pe_fld (pv 0) rfl) (pa_cons (pe_op op_add (pe_ix (r := rIxT K) ix_tup (pe_fld (pv 0) rfl) pe_int (fun _ _ => rfl)) pe_int) pa_nil))))) rfl)), ?_⟩)
  · obtain ⟨b, rows, wishes, s, rest, kept, made, rfl, _⟩ := h
    rfl
  · obtain ⟨b, rows, wishes, st, rest, kept, made, rfl, hb, h1, h2, q⟩ := h
    obtain ⟨dx, v, hb1, hb2⟩ := id hb
    obtain ⟨dx', a, r0, w0, prev, hb1', ha, _⟩ := hb.top
    rw [hb1] at hb1'
    cases hb1'
    walk_at "w"
    refine w_attr hb1 T.clB T.na_held rfl ?_
    walk_at "w"
    refine w_attr hb1 T.clB T.na_held rfl ?_
    walk_at "w"
    refine w_ixT ha (atI_nat (j := 3) rfl) ?_
    walk_at "w"
    refine ⟨le_line (by simp), fun p hp => ?_⟩
    have s1 := sameU (o := .tup [.ref rows, .ref wishes, .ref a, .int ((rest.length : Int) + 1)]) hp
    have e1 := upd_same (H := H) (a := p) (o := .tup [.ref rows, .ref wishes, .ref a, .int ((rest.length : Int) + 1)])
    generalize upd H p (.tup [.ref rows, .ref wishes, .ref a, .int ((rest.length : Int) + 1)]) = H1 at s1 e1
    have hb3 := s1 _ _ hb1
    walk_at "w"
    refine w_setF hb3 T.clB T.na_held (by simp) ?_
    have k : Kp H1 (upd H1 b (.ins (He.ga K "Book") dx (putF "held" (.ref p) [("held", .ref a)]))) := kpX sxU hb3 ⟨_, rfl⟩
    have k1 := (kpS s1).trans k
    refine q _ ((sxS s1).trans sxU) ⟨dx, .ref p, by rw [upd_same]; rfl, p, rows, wishes, .ref a, rfl, k.tq (sqT ?_), h1.kp k1, h2.kp k1, hb2.kp k1⟩
    rw [e1]
    rfl
theorem sc_Book_getitem : FnScope ns_Book_getitem ps_Book_getitem (defScope s_Book_getitem) := ⟨rfl, rfl, rfl, by decide +kernel, rfl, by decide +kernel, by decide +kernel⟩
def sp_Book_getitem (K : PySem.W.Frag) : Sp := fun vs H Q _ => ∃ b nm s rest i p, vs = [.ref b, .str nm] ∧ BookAt K H b (s :: rest) ∧ idx s.kept nm = some i ∧ s.kept[i]? = some p ∧ ∀ r H', Same H H' → IsRule K H' r p.2 → Q (.ref r) H'
theorem ok_Book_getitem (T : Txt w K mg) : Has PP w K mg base d_Book_getitem 4 ps_Book_getitem (sp_Book_getitem K) := by
  refine mkHas T.f_Book_getitem sc_Book_getitem (fun _ _ _ _ _ _ us hl => match us, hl with | [_, _], _ => rfl) (fun vs H Q E h => ?_) (fun cdv A outer s H vs Q E hr h => ⟨_, (pss_cons (ps_set (i := 2) sc_Book_getitem.nd rfl (Or.inl rfl) (cF (ok_place_of T) (hr.mono (by decide)) T.g_place_of (pa_cons (pe_ix (r := rIxT K) ix_tup (pe_fld (pv 0) rfl) pe_int (fun _ _ => rfl)) (pa_cons (pv 1) pa_nil))))
 (pss_cons (ps_if (pt_cmpR op_isN (pv 2) pe_non (nomark _)) (pss_one (ps_raiseX T.x_UnknownName hr (takes_of rfl rfl rfl rfl) (pa_cons (pv 1) pa_nil))) pss_nil)
 (pss_one (ps_ret (pe_ix (r := rIxT K) ix_tup (pe_ix (r := rIxT K) ix_tup (pe_ix (r := rIxT K) ix_tup (pe_fld (pv 0) rfl) pe_int (fun _ _ => rfl)) (pv 2) (fun _ _ => rfl)) pe_int (fun _ _ => rfl)))))), ?_⟩)
  · obtain ⟨b, nm, s, rest, i, p, rfl, _⟩ := h
    rfl
  · obtain ⟨b, nm, st, rest, i, p, rfl, hb, hi, hp, q⟩ := h
    obtain ⟨dx, a, rows, wishes, prev, hb1, ha, hr1, _⟩ := hb.top
    walk_at "w"
    refine w_attr hb1 T.clB T.na_held rfl ?_
    walk_at "w"
    refine w_ixT ha (atI_nat (j := 0) rfl) ?_
    walk_at "w"
    refine ⟨rows, nm, st.kept, rfl, hr1, fun H1 s1 => ?_⟩
    rw [hi]
    show gName 2 (.int i) _ _ _
    walk_at "w"
    refine ⟨rfl, ?_⟩
    walk_at "w"
    refine if_dF (p := (V.int i = V.non)) (fun z => nomatch z) ?_
    walk_at "w"
    refine w_attr (s1 _ _ hb1) T.clB T.na_held rfl ?_
    walk_at "w"
    refine w_ixT (s1.tq ha) (atI_nat (j := 0) rfl) ?_
    walk_at "w"
    obtain ⟨xs, h1, h2⟩ := hr1.at s1
    obtain ⟨v, hv, a2, r2, rfl, h3, h4⟩ := prd_at' h2 hp
    refine w_ixT h1 (atI_nat hv) ?_
    walk_at "w"
    refine w_ixT h3 (atI_nat (j := 1) rfl) ?_
    exact q r2 _ s1 h4
theorem sc_Book_len : FnScope ns_Book_len ps_Book_len (defScope s_Book_len) := ⟨rfl, rfl, rfl, by decide +kernel, rfl, by decide +kernel, by decide +kernel⟩
def sp_Book_len (K : PySem.W.Frag) : Sp := fun vs H Q _ => ∃ b s rest, vs = [.ref b] ∧ BookAt K H b (s :: rest) ∧ Q (.int s.kept.length) H
theorem ok_Book_len (T : Txt w K mg) : Has PP w K mg base d_Book_len 1 ps_Book_len (sp_Book_len K) := by
  refine mkHas T.f_Book_len sc_Book_len (fun _ _ _ _ _ _ us hl => match us, hl with | [_], _ => rfl) (fun vs H Q E h => ?_) (fun cdv A outer s H vs Q E hr h => ⟨_, (pss_one (ps_ret (pe_callB ca_len rfl T.n_len PySem.boot_len (pa_cons (pe_ix (r := rIxT K) ix_tup (pe_fld (pv 0) rfl) pe_int (fun _ _ => rfl)) pa_nil)))), ?_⟩)
  · obtain ⟨b, s, rest, rfl, _⟩ := h
    rfl
  · obtain ⟨b, st, rest, rfl, hb, q⟩ := h
    obtain ⟨dx, a, rows, wishes, prev, hb1, ha, ⟨xs, h1, h2⟩, _⟩ := hb.top
    walk_at "w"
    refine w_attr hb1 T.clB T.na_held rfl ?_
    walk_at "w"
    refine w_ixT ha (atI_nat (j := 0) rfl) ?_
    walk_at "w"
    refine w_rlenT h1 ?_
    rw [prd_len h2]
    exact q
theorem sc_Book_wishes : FnScope ns_Book_wishes ps_Book_wishes (defScope s_Book_wishes) := ⟨rfl, rfl, rfl, by decide +kernel, rfl, by decide +kernel, by decide +kernel⟩
def sp_Book_wishes (K : PySem.W.Frag) : Sp := fun vs H Q _ => ∃ b s rest, vs = [.ref b] ∧ BookAt K H b (s :: rest) ∧ ∀ t, WishesAt K H t s.made → Q (.ref t) H
theorem ok_Book_wishes (T : Txt w K mg) : HasA PP w K mg base (gAd K d_Book_wishes) 1 ps_Book_wishes [] (sp_Book_wishes K) := by
  refine mkHas T.f_Book_wishes sc_Book_wishes (fun _ _ _ _ _ _ us hl => match us, hl with | [_], _ => rfl) (fun vs H Q E h => ?_) (fun cdv A outer s H vs Q E hr h => ⟨_, (pss_one (ps_ret (pe_ix (r := rIxT K) ix_tup (pe_fld (pv 0) rfl) pe_int (fun _ _ => rfl)))), ?_⟩)
  · obtain ⟨b, s, rest, rfl, _⟩ := h
    rfl
  · obtain ⟨b, st, rest, rfl, hb, q⟩ := h
    obtain ⟨dx, a, rows, wishes, prev, hb1, ha, h1, h2, _⟩ := hb.top
    walk_at "w"
    refine w_attr hb1 T.clB T.na_held rfl ?_
    walk_at "w"
    refine w_ixT ha (atI_nat (j := 1) rfl) ?_
    exact q _ h2
theorem sc_Book_changes : FnScope ns_Book_changes ps_Book_changes (defScope s_Book_changes) := ⟨rfl, rfl, rfl, by decide +kernel, rfl, by decide +kernel, by decide +kernel⟩
def sp_Book_changes (K : PySem.W.Frag) : Sp := fun vs H Q _ => ∃ b s rest, vs = [.ref b] ∧ BookAt K H b (s :: rest) ∧ Q (.int rest.length) H
theorem ok_Book_changes (T : Txt w K mg) : HasA PP w K mg base (gAd K d_Book_changes) 1 ps_Book_changes [] (sp_Book_changes K) := by
  refine mkHas T.f_Book_changes sc_Book_changes (fun _ _ _ _ _ _ us hl => match us, hl with | [_], _ => rfl) (fun vs H Q E h => ?_) (fun cdv A outer s H vs Q E hr h => ⟨_, (pss_one (ps_ret (pe_ix (r := rIxT K) ix_tup (pe_fld (pv 0) rfl) pe_int (fun _ _ => rfl)))), ?_⟩)
  · obtain ⟨b, s, rest, rfl, _⟩ := h
    rfl
  · obtain ⟨b, st, rest, rfl, hb, q⟩ := h
    obtain ⟨dx, a, rows, wishes, prev, hb1, ha, h1, h2, _⟩ := hb.top
    walk_at "w"
    refine w_attr hb1 T.clB T.na_held rfl ?_
    walk_at "w"
    refine w_ixT ha (atI_nat (j := 3) rfl) ?_
    exact q
theorem sc_Book_names : FnScope ns_Book_names ps_Book_names (defScope s_Book_names) := ⟨rfl, rfl, rfl, by decide +kernel, rfl, by decide +kernel, by decide +kernel⟩
def sp_Book_names (K : PySem.W.Frag) : Sp := fun vs H Q _ => ∃ b s rest, vs = [.ref b] ∧ BookAt K H b (s :: rest) ∧ s.kept.length < 64 ∧ ∀ t ys H', Same H H' → ys.Perm (s.kept.map (·.1)) → sortedS ys = true → SqT K H' t (ys.map V.str) → Q (.ref t) H'
theorem ok_Book_names (T : Txt w K mg) : HasA PP w K mg base (gAd K d_Book_names) 1 ps_Book_names [] (sp_Book_names K) := by
  refine mkHas T.f_Book_names sc_Book_names (fun _ _ _ _ _ _ us hl => match us, hl with | [_], _ => rfl) (fun vs H Q E h => ?_) (fun cdv A outer s H vs Q E hr h => ⟨_, (pss_one (ps_ret (pe_callTy ca_tuple rfl T.n_tuple boot_tuple (pa_cons (pe_callB cr_sortedS rfl T.n_sorted (by kernel_rfl) (pa_cons (pe_lc rfl sc_Book_names.nd (pi_tup (pe_ix (r := rIxT K) ix_tup (pe_fld (pv 0) rfl) pe_int (fun _ _ => rfl))) (blkOk_by (own := [("row", 1)]) (N := ns_Book_names) (sc := defScope s_Book_names) (by decide +kernel)) (fun _ _ _ _ _ => pg_name (i := 1) sc_Book_names.nd rfl (Or.inl rfl)) (fun _ _ _ _ _ => pts_nil) (fun _ _ _ _ _ => (pe_ix (r := rIxT K) ix_tup (pv 1) pe_int (fun _ _ => rfl)))) pa_nil)) pa_nil)))), ?_⟩)
  · obtain ⟨b, s, rest, rfl, _⟩ := h
    rfl
  · obtain ⟨b, st, rest, rfl, hb, hl, q⟩ := h
    obtain ⟨dx, a, rows, wishes, prev, hb1, ha, ⟨xs, h1, h2⟩, _⟩ := hb.top
    have hxl := prd_len h2
    walk_at "w"
    refine w_attr hb1 T.clB T.na_held rfl ?_
    walk_at "w"
    refine w_ixT ha (atI_nat (j := 0) rfl) ?_
    refine ⟨rows, rfl, ⟨_, h1⟩, lc_map walk_tup (fun i => (st.kept.take i).map fun p => V.str p.1) rfl (fun H' s => s.tq h1) (fun i x H1 H' D hi hD p y => ?_) (fun D H' s1 hD hl2 => ?_)⟩
    · obtain ⟨rfl, e⟩ := y
      obtain ⟨pr, hp, a2, r2, rfl, h3, _⟩ := prd_at h2 e
      refine ⟨rfl, ?_⟩
      walk_at "w"
      refine w_ixT (p.1.tq h3) (atI_nat (j := 0) rfl) ?_
      refine p.yes hD (Same.refl _) (by rw [List.length_map]; exact Nat.lt_of_le_of_lt (List.length_take_le ..) (lt_line (by omega))) ?_
      rw [take_at hp, List.map_append]
      rfl
    · rw [hxl, List.take_length] at hl2
      walk_at "w"
      refine ⟨D, st.kept.map (·.1), rfl, sqL (by rw [List.map_map]; exact hl2), by rw [List.length_map]; exact hl, fun ys p2 hp1 hp2 hp3 => ?_⟩
      walk_at "w"
      refine ⟨p2, _, rfl, .inl ⟨sqLu, fun l hl3 => ?_⟩⟩
      exact q l ys _ ((s1.u hp3).u hl3) hp1 hp2 sqTu
/-- a wish of the program's made ones that stands in the way -/
noncomputable def bad (made : List Wish) (nm : Str) (ns : List Int) : Option Nat := made.findIdx? fun wi => decide (wn wi = nm) && !holdsB ns wi
def used (made : List Wish) (nm : Str) : Option Nat := made.findIdx? fun wi => decide (wn wi = nm)
def without (kept : List (Str × List Int)) (nm : Str) : List (Str × List Int) := kept.filter fun p => decide (p.1 ≠ nm)
theorem without_at {kept : List (Str × List Int)} {nm : Str} {i : Nat} {p : Str × List Int} (h : kept[i]? = some p) : without (kept.take (i + 1)) nm = without (kept.take i) nm ++ (if p.1 = nm then [] else [p]) := by
  unfold without
  rw [take_at h, List.filter_append]
  congr 1
  by_cases e : p.1 = nm
  · rw [if_pos e]; simp [e]
  · rw [if_neg e]; simp [e]
/-- the rows that are left -/
def selV (nm : Str) : List V → List (Str × List Int) → List V
  | v :: vs, p :: ps => if p.1 = nm then selV nm vs ps else v :: selV nm vs ps
  | _, _ => []
theorem selV_at {nm : Str} : ∀ {vs : List V} {kept : List (Str × List Int)} {i : Nat} {v : V} {p : Str × List Int}, vs[i]? = some v → kept[i]? = some p → selV nm (vs.take (i + 1)) (kept.take (i + 1)) = selV nm (vs.take i) (kept.take i) ++ (if p.1 = nm then [] else [v])
  | [], _, _, _, _, h, _ => by simp at h
  | _ :: _, [], _, _, _, _, h => by simp at h
  | a :: vs, q :: kept, 0, v, p, h1, h2 => by
    cases h1
    cases h2
    show selV nm [a] [q] = _
    by_cases e : q.1 = nm
    · simp [selV, e]
    · simp [selV, e]
  | a :: vs, q :: kept, i + 1, v, p, h1, h2 => by
    have ih := selV_at (nm := nm) (vs := vs) (kept := kept) (i := i) (v := v) (p := p) h1 h2
    show selV nm (a :: vs.take (i + 1)) (q :: kept.take (i + 1)) = selV nm (a :: vs.take i) (q :: kept.take i) ++ _
    by_cases e : q.1 = nm
    · rw [selV, selV, if_pos e, if_pos e, ih]
    · rw [selV, selV, if_neg e, if_neg e, ih]; rfl
theorem selV_len (nm : Str) : ∀ (vs : List V) (kept : List (Str × List Int)), (selV nm vs kept).length ≤ vs.length
  | [], _ => by simp [selV]
  | _ :: _, [] => by simp [selV]
  | v :: vs, p :: ps => by
    have := selV_len nm vs ps
    by_cases e : p.1 = nm
    · rw [selV, if_pos e, List.length_cons]; omega
    · rw [selV, if_neg e, List.length_cons, List.length_cons]; omega
theorem selV_prd {F : V → Str × List Int → Prop} (nm : Str) : ∀ {vs : List V} {kept : List (Str × List Int)}, Paired F vs kept → Paired F (selV nm vs kept) (without kept nm)
  | _, _, .nil => .nil
  | _, _, .cons (b := p) (l₂ := ks) h t => by
    by_cases e : p.1 = nm
    · rw [selV, if_pos e]
      have : without (p :: ks) nm = without ks nm := by unfold without; rw [List.filter_cons_of_neg (by simp [e])]
      rw [this]
      exact selV_prd nm t
    · rw [selV, if_neg e]
      have : without (p :: ks) nm = p :: without ks nm := by unfold without; rw [List.filter_cons_of_pos (by simp [e])]
      rw [this]
      exact .cons h (selV_prd nm t)
theorem prd_append {α β : Type} {F : α → β → Prop} : ∀ {l₁ : List α} {l₂ : List β} {a : List α} {b : List β}, Paired F l₁ l₂ → Paired F a b → Paired F (l₁ ++ a) (l₂ ++ b)
  | _, _, _, _, .nil, h => h
  | _, _, _, _, .cons h t, q => .cons h (prd_append t q)
theorem prd_take {α β : Type} {F : α → β → Prop} : ∀ {l₁ : List α} {l₂ : List β} (i : Nat), Paired F l₁ l₂ → Paired F (l₁.take i) (l₂.take i)
  | _, _, 0, _ => by rw [List.take_zero, List.take_zero]; exact .nil
  | _, _, _ + 1, .nil => .nil
  | _, _, i + 1, .cons h t => .cons h (prd_take i t)
theorem prd_drop {α β : Type} {F : α → β → Prop} : ∀ {l₁ : List α} {l₂ : List β} (i : Nat), Paired F l₁ l₂ → Paired F (l₁.drop i) (l₂.drop i)
  | _, _, 0, h => h
  | _, _, _ + 1, .nil => .nil
  | _, _, i + 1, .cons _ t => prd_drop i t
end


theorem fi_some {α : Type} {l : List α} {f : α → Bool} {i : Nat} {x : α} (h : l[i]? = some x) (hx : f x = true) (no : ∀ j y, j < i → l[j]? = some y → f y = false) : l.findIdx? f = some i := by
  rw [List.findIdx?_eq_some_iff_getElem]
  obtain ⟨hk, ek⟩ := List.getElem?_eq_some_iff.mp h
  refine ⟨hk, by rw [ek]; exact hx, fun j hj => ?_⟩
  rw [no j _ hj (List.getElem?_eq_getElem (Nat.lt_trans hj hk))]
  decide
theorem fi_none {α : Type} {l : List α} {f : α → Bool} (no : ∀ j y, j < l.length → l[j]? = some y → f y = false) : l.findIdx? f = none := by
  rw [List.findIdx?_eq_none_iff]
  intro p hp
  obtain ⟨j, hj, ej⟩ := List.mem_iff_getElem.mp hp
  exact no j p hj (by rw [List.getElem?_eq_getElem hj, ej])
theorem w_isNon {x : V} {H : Hp} {Q : VK} (h : Q (.bl (decide (x = .non))) H) : V.non = V.non ∧ Q (.bl (decide (x = .non))) H := ⟨rfl, h⟩
section
variable {w : World} {K : PySem.W.Frag} {mg : Str → Option Value} {base : Heap}
theorem sc_Book_setitem : FnScope ns_Book_setitem ps_Book_setitem (defScope s_Book_setitem) := ⟨rfl, rfl, rfl, by decide +kernel, rfl, by decide +kernel, by decide +kernel⟩
def sp_Book_setitem (K : PySem.W.Frag) : Sp := fun vs H Q E => ∃ b nm r ns s rest, vs = [.ref b, .str nm, .ref r] ∧ nm ∈ NAMES ∧ BookAt K H b (s :: rest) ∧ IsRule K H r ns ∧ (∀ wi ∈ s.made, WishOk wi) ∧ s.made.length ≤ 100 ∧ s.kept.length ≤ 100 ∧
  (∀ i, bad s.made nm ns = some i → ∀ d H', Same H H' → H d = none → H' d = some (.xd [("index", .int i)]) → E (.ref (He.ga K "Broken")) (some d) H') ∧
  (bad s.made nm ns = none → ∀ H', SX b H H' → BookAt K H' b (⟨without s.kept nm ++ [(nm, ns)], s.made⟩ :: s :: rest) → Q .non H')
theorem ok_Book_setitem (T : Txt w K mg) : Has PP w K mg base d_Book_setitem 9 ps_Book_setitem (sp_Book_setitem K) := by
  refine mkHas T.f_Book_setitem sc_Book_setitem (fun _ _ _ _ _ _ us hl => match us, hl with | [_, _, _], _ => rfl) (fun vs H Q E h => ?_) (fun cdv A outer s H vs Q E hr h => ⟨_, (pss_cons (ps_if (pt_not (pt_val (cF (ok_is_name T) (hr.mono (by decide)) T.g_is_name (pa_cons (pv 1) pa_nil)))) (pss_one ps_never) pss_nil)
 (pss_cons (ps_expr (cF (ok_check_rule T) (hr.mono (by decide)) T.g_check_rule (pa_cons (pv 2) pa_nil)))
 (pss_cons (ps_for (passes_of rfl) rfl (pi_enumT rfl T.n_enumerate (pa_cons (pe_ix (r := rIxT K) ix_tup (pe_fld (pv 0) rfl) pe_int (fun _ _ => rfl)) pa_nil)) (pg_tup rfl (pgs_cons (pg_name (i := 3) sc_Book_setitem.nd rfl (Or.inl rfl)) (pgs_cons (pg_name (i := 4) sc_Book_setitem.nd rfl (Or.inl rfl)) pgs_nil)))
 (pss_one (ps_if (PW.pt (pw_and (pt_val (cF (ok_is_about T) (hr.mono (by decide)) T.g_is_about (pa_cons (pv 4) (pa_cons (pv 1) pa_nil)))) (pw_and1 (pt_not (pt_val (cF (ok_holds_for T) (hr.mono (by decide)) T.g_holds_for (pa_cons (pv 2) (pa_cons (pv 4) pa_nil)))))))) (pss_one (ps_raiseX T.x_Broken hr (takes_of rfl rfl rfl rfl) (pa_cons (pv 3) pa_nil))) pss_nil)))
 (pss_cons (ps_set (i := 5) sc_Book_setitem.nd rfl (Or.inl rfl) (pe_op op_cat (pe_lc rfl sc_Book_setitem.nd (pi_tup (pe_ix (r := rIxT K) ix_tup (pe_fld (pv 0) rfl) pe_int (fun _ _ => rfl))) (blkOk_by (own := [("row", 6)]) (N := ns_Book_setitem) (sc := defScope s_Book_setitem) (by decide +kernel)) (fun _ _ _ _ _ => pg_name (i := 6) sc_Book_setitem.nd rfl (Or.inl rfl)) (fun _ _ _ _ _ => (pts_one (pt_cmpR op_ne (pe_ix (r := rIxT K) ix_tup (pv 6) pe_int (fun _ _ => rfl)) (pv 1) (nomark _)))) (fun _ _ _ _ _ => (pv 6))) (pe_lst (pa_cons (pe_tup (pa_cons (pv 1) (pa_cons (pv 2) pa_nil))) pa_nil))))
 (pss_one (ps_expr (cM (ok_Book_go_on T) T.clB T.mB_go_on (hr.mono (by decide)) (pv 0) (pa_cons (pe_callTy ca_tuple rfl T.n_tuple boot_tuple (pa_cons (pv 5) pa_nil)) (pa_cons (pe_ix (r := rIxT K) ix_tup (pe_fld (pv 0) rfl) pe_int (fun _ _ => rfl)) pa_nil))))))))), ?_⟩)
  · obtain ⟨b, nm, r, ns, s, rest, rfl, _⟩ := h
    rfl
  · obtain ⟨b, nm, r, ns, st, rest, rfl, hnm, hb, hr1, hok, hm, hk, qE, q⟩ := h
    obtain ⟨dx, a, rows, wishes, prev, hb1, ha, hrows, ⟨ws, hw1, hw2⟩, hprev⟩ := hb.top
    have hwl := prd_len hw2
    walk_at "w"
    refine ⟨nm, hnm, rfl, fun H1 s1 => ?_⟩
    walk_at "w"
    refine ⟨r, ns, rfl, hr1.at s1, ?_⟩
    walk_at "w"
    refine w_attr (s1 _ _ hb1) T.clB T.na_held rfl ?_
    walk_at "w"
    refine w_ixT (s1.tq ha) (atI_nat (j := 1) rfl) ?_
    walk_at "w"
    refine ⟨wishes, ws, rfl, s1.tq hw1, for_enumT rfl (fun i σ H' => Same H H' ∧ (∃ a b' c d, σ = [some (.ref b), some (.str nm), some (.ref r), a, b', c, d]) ∧ ∀ j wi, j < i → st.made[j]? = some wi → (decide (wn wi = nm) && !holdsB ns wi) = false) ⟨s1, ⟨_, _, _, _, rfl⟩, fun j wi hj => absurd hj (Nat.not_lt_zero _)⟩ (fun i σ H' _ q => q.1.tq hw1) ?_ ?_⟩
    · rintro k v σ H' p' hv ⟨s2, ⟨a1, b1, c1, d1, rfl⟩, hno⟩ hp'
      obtain ⟨wi, hwi, t, rfl, ht⟩ := prd_at hw2 hv
      have s3 := s2.u (o := .tup [.int k, .ref t]) hp'
      walk_at "w"
      refine ⟨t, nm, wi, rfl, s3.tq ht, ?_⟩
      have nxt : ∀ H4, Same H H4 → (decide (wn wi = nm) && !holdsB ns wi) = false → (fun i σ H' => Same H H' ∧ (∃ a b' c d, σ = [some (V.ref b), some (.str nm), some (.ref r), a, b', c, d]) ∧ ∀ j wi, j < i → st.made[j]? = some wi → (decide (wn wi = nm) && !holdsB ns wi) = false) (k + 1) [some (V.ref b), some (.str nm), some (.ref r), some (.int k), some (.ref t), c1, d1] H4 := fun H4 s4 e => ⟨s4, ⟨_, _, _, _, rfl⟩, fun j wj hj hwj => by
        by_cases c : j = k
        · subst c
          rw [hwi] at hwj
          cases hwj
          exact e
        · exact hno j wj (by omega) hwj⟩
      walk_at "w"
      refine if_d (fun e1 => ?_) (fun e1 => ?_)
      · walk_at "w"
        refine ⟨r, t, ns, wi, rfl, hr1.at s3, s3.tq ht, hok wi (List.mem_of_getElem? hwi), fun H4 s4 => ?_⟩
        walk_at "w"
        cases e2 : holdsB ns wi with
        | true =>
          walk_at "w"
          exact nxt _ (s3.trans s4) (by rw [e2]; simp)
        | false =>
          walk_at "w"
          refine w_raiseX ?_
          walk_at "w"
          intro d hd
          refine qE k (fi_some hwi (by rw [e2, decide_eq_true e1]; rfl) hno) d _ ((s3.trans s4).u hd) ((s3.trans s4).free hd) upd_same
      · walk_at "w"
        exact nxt _ s3 (by rw [decide_eq_false e1]; rfl)
    · rintro σ H' ⟨s2, ⟨a1, b1, c1, d1, rfl⟩, hno⟩
      have hbad : bad st.made nm ns = none := fi_none fun j y hj hy => hno j y (by omega) hy
      obtain ⟨xs, hx1, hx2⟩ := hrows
      have hxl := prd_len hx2
      walk_at "w"
      refine w_attr (s2 _ _ hb1) T.clB T.na_held rfl ?_
      walk_at "w"
      refine w_ixT (s2.tq ha) (atI_nat (j := 0) rfl) ?_
      refine ⟨rows, rfl, ⟨_, s2.tq hx1⟩, lc_map walk_tup (fun i => selV nm (xs.take i) (st.kept.take i)) rfl (fun H3 s => s.tq (s2.tq hx1)) (fun i x H1 H4 D hi hD p y => ?_) (fun D H4 s3 hD hl2 => ?_)⟩
      · obtain ⟨rfl, e⟩ := y
        obtain ⟨pr, hp, a2, r2, rfl, h3, _⟩ := prd_at hx2 e
        refine ⟨rfl, ?_⟩
        walk_at "w"
        refine w_ixT (p.1.tq (s2.tq h3)) (atI_nat (j := 0) rfl) ?_
        walk_at "w"
        refine if_dn (fun e1 => ?_) (fun e1 => ?_)
        · walk_at "w"
          refine p.yes hD (Same.refl _) (Nat.lt_of_le_of_lt (selV_len ..) (Nat.lt_of_le_of_lt (List.length_take_le ..) (lt_line (by omega)))) ?_
          rw [selV_at e hp, if_neg e1]
        · refine p.no (Same.refl _) ?_
          rw [selV_at e hp, if_pos e1, List.append_nil]
      · rw [List.take_length, hxl, List.take_length] at hl2
        have s4 := s2.trans s3
        walk_at "w"
        refine ⟨le_line (by simp), fun p5 hp5 => ?_⟩
        have s5 := s4.u (o := .tup [.str nm, .ref r]) hp5
        have hl5 := sameU (o := .tup [.str nm, .ref r]) hp5 _ _ hl2
        have ht5 := upd_same (H := H4) (a := p5) (o := .tup [.str nm, .ref r])
        generalize upd H4 p5 (.tup [.str nm, .ref r]) = H5 at s5 hl5 ht5
        walk_at "w"
        refine ⟨le_line (by simp), fun p6 hp6 => ?_⟩
        have s6 := s5.u (o := .lst [.ref p5]) hp6
        have hl6 := sameU (o := .lst [.ref p5]) hp6 _ _ hl5
        have ht6 := sameU (o := .lst [.ref p5]) hp6 _ _ ht5
        have hn6 := upd_same (H := H5) (a := p6) (o := .lst [.ref p5])
        generalize upd H5 p6 (.lst [.ref p5]) = H6 at s6 hl6 ht6 hn6
        have hsl := selV_len nm xs st.kept
        refine ⟨D, p6, _, _, rfl, rfl, hl6, hn6, le_line (by simp; omega), fun p7 hp7 => ?_⟩
        have s7 := s6.u (o := .lst (selV nm xs st.kept ++ [.ref p5])) hp7
        have e7 := upd_same (H := H6) (a := p7) (o := .lst (selV nm xs st.kept ++ [.ref p5]))
        have ht7 := sameU (o := .lst (selV nm xs st.kept ++ [.ref p5])) hp7 _ _ ht6
        generalize upd H6 p7 (.lst (selV nm xs st.kept ++ [.ref p5])) = H7 at s7 e7 ht7
        walk_at "w"
        refine ⟨b, dx, _, rfl, s7 _ _ hb1, rfl, ?_⟩
        walk_at "w"
        refine ⟨p7, _, rfl, .inl ⟨sqL e7, fun p8 hp8 => ?_⟩⟩
        have s8 := s7.u (o := .tup (selV nm xs st.kept ++ [.ref p5])) hp8
        have e8 := upd_same (H := H7) (a := p8) (o := .tup (selV nm xs st.kept ++ [.ref p5]))
        have ht8 := sameU (o := .tup (selV nm xs st.kept ++ [.ref p5])) hp8 _ _ ht7
        generalize upd H7 p8 (.tup (selV nm xs st.kept ++ [.ref p5])) = H8 at s8 e8 ht8
        walk_at "w"
        refine w_attr (s8 _ _ hb1) T.clB T.na_held rfl ?_
        walk_at "w"
        refine w_ixT (s8.tq ha) (atI_nat (j := 1) rfl) ?_
        walk_at "w"
        refine ⟨b, p8, wishes, st, rest, without st.kept nm ++ [(nm, ns)], st.made, rfl, hb.at s8, ⟨_, sqT e8, ?_⟩, ⟨ws, s8.tq hw1, wishes_kp (kpS s8) hw2⟩, fun H9 s9 hb9 => ?_⟩
        · exact prd_append (selV_prd nm (rows_at s8 hx2)) (.cons ⟨p5, r, rfl, sqT ht8, hr1.at s8⟩ .nil)
        · walk_at "w"
          exact q hbad _ ((sxS s8).trans s9) hb9
end


section
variable {w : World} {K : PySem.W.Frag} {mg : Str → Option Value} {base : Heap}
theorem sc_Book_drop : FnScope ns_Book_drop ps_Book_drop (defScope s_Book_drop) := ⟨rfl, rfl, rfl, by decide +kernel, rfl, by decide +kernel, by decide +kernel⟩
def sp_Book_drop (K : PySem.W.Frag) : Sp := fun vs H Q E => ∃ b nm s rest, vs = [.ref b, .str nm] ∧ BookAt K H b (s :: rest) ∧ s.made.length ≤ 100 ∧ s.kept.length ≤ 100 ∧
  (idx s.kept nm = none → ∀ d H', Same H H' → H d = none → H' d = some (.xd [("given", .str nm)]) → E (.ref (He.ga K "UnknownName")) (some d) H') ∧
  (idx s.kept nm ≠ none → ∀ i, used s.made nm = some i → ∀ d H', Same H H' → H d = none → H' d = some (.xd [("index", .int i)]) → E (.ref (He.ga K "InUse")) (some d) H') ∧
  (idx s.kept nm ≠ none → used s.made nm = none → ∀ H', SX b H H' → BookAt K H' b (⟨without s.kept nm, s.made⟩ :: s :: rest) → Q .non H')
theorem ok_Book_drop (T : Txt w K mg) : Has PP w K mg base d_Book_drop 4 ps_Book_drop (sp_Book_drop K) := by
  refine mkHas T.f_Book_drop sc_Book_drop (fun _ _ _ _ _ _ us hl => match us, hl with | [_, _], _ => rfl) (fun vs H Q E h => ?_) (fun cdv A outer s H vs Q E hr h => ⟨_, (pss_cons (ps_if (pt_cmpR op_isN (cF (ok_place_of T) (hr.mono (by decide)) T.g_place_of (pa_cons (pe_ix (r := rIxT K) ix_tup (pe_fld (pv 0) rfl) pe_int (fun _ _ => rfl)) (pa_cons (pv 1) pa_nil))) pe_non (nomark _)) (pss_one (ps_raiseX T.x_UnknownName hr (takes_of rfl rfl rfl rfl) (pa_cons (pv 1) pa_nil))) pss_nil)
 (pss_cons (ps_for (passes_of rfl) rfl (pi_enumT rfl T.n_enumerate (pa_cons (pe_ix (r := rIxT K) ix_tup (pe_fld (pv 0) rfl) pe_int (fun _ _ => rfl)) pa_nil)) (pg_tup rfl (pgs_cons (pg_name (i := 2) sc_Book_drop.nd rfl (Or.inl rfl)) (pgs_cons (pg_name (i := 3) sc_Book_drop.nd rfl (Or.inl rfl)) pgs_nil)))
 (pss_one (ps_if (pt_val (cF (ok_is_about T) (hr.mono (by decide)) T.g_is_about (pa_cons (pv 3) (pa_cons (pv 1) pa_nil)))) (pss_one (ps_raiseX T.x_InUse hr (takes_of rfl rfl rfl rfl) (pa_cons (pv 2) pa_nil))) pss_nil)))
 (pss_one (ps_expr (cM (ok_Book_go_on T) T.clB T.mB_go_on (hr.mono (by decide)) (pv 0) (pa_cons (pe_callTy ca_tuple rfl T.n_tuple boot_tuple (pa_cons (pe_lc rfl sc_Book_drop.nd (pi_tup (pe_ix (r := rIxT K) ix_tup (pe_fld (pv 0) rfl) pe_int (fun _ _ => rfl))) (blkOk_by (own := [("row", 4)]) (N := ns_Book_drop) (sc := defScope s_Book_drop) (by decide +kernel)) (fun _ _ _ _ _ => pg_name (i := 4) sc_Book_drop.nd rfl (Or.inl rfl)) (fun _ _ _ _ _ => (pts_one (pt_cmpR op_ne (pe_ix (r := rIxT K) ix_tup (pv 4) pe_int (fun _ _ => rfl)) (pv 1) (nomark _)))) (fun _ _ _ _ _ => (pv 4))) pa_nil)) (pa_cons (pe_ix (r := rIxT K) ix_tup (pe_fld (pv 0) rfl) pe_int (fun _ _ => rfl)) pa_nil))))))), ?_⟩)
  · obtain ⟨b, nm, s, rest, rfl, _⟩ := h
    rfl
  · obtain ⟨b, nm, st, rest, rfl, hb, hm, hk, qU, qI, q⟩ := h
    obtain ⟨dx, a, rows, wishes, prev, hb1, ha, hrows, ⟨ws, hw1, hw2⟩, hprev⟩ := hb.top
    have hwl := prd_len hw2
    walk_at "w"
    refine w_attr hb1 T.clB T.na_held rfl ?_
    walk_at "w"
    refine w_ixT ha (atI_nat (j := 0) rfl) ?_
    walk_at "w"
    refine ⟨rows, nm, st.kept, rfl, hrows, fun H1 s1 => ?_⟩
    walk_at "w"
    refine ⟨rfl, ?_⟩
    walk_at "w"
    cases hi : idx st.kept nm with
    | none =>
      refine if_dT rfl ?_
      refine w_raiseX ?_
      walk_at "w"
      intro d hd
      exact qU hi d _ (s1.u hd) (s1.free hd) upd_same
    | some i0 =>
      have hne : idx st.kept nm ≠ none := by rw [hi]; simp
      refine if_dF (fun z => nomatch z) ?_
      walk_at "w"
      refine w_attr (s1 _ _ hb1) T.clB T.na_held rfl ?_
      walk_at "w"
      refine w_ixT (s1.tq ha) (atI_nat (j := 1) rfl) ?_
      walk_at "w"
      refine ⟨wishes, ws, rfl, s1.tq hw1, for_enumT rfl (fun i σ H' => Same H H' ∧ (∃ a b' c, σ = [some (.ref b), some (.str nm), a, b', c]) ∧ ∀ j wi, j < i → st.made[j]? = some wi → decide (wn wi = nm) = false) ⟨s1, ⟨_, _, _, rfl⟩, fun j wi hj => absurd hj (Nat.not_lt_zero _)⟩ (fun i σ H' _ q => q.1.tq hw1) ?_ ?_⟩
      · rintro k v σ H' p' hv ⟨s2, ⟨a1, b1, c1, rfl⟩, hno⟩ hp'
        obtain ⟨wi, hwi, t, rfl, ht⟩ := prd_at hw2 hv
        have s3 := s2.u (o := .tup [.int k, .ref t]) hp'
        walk_at "w"
        refine ⟨t, nm, wi, rfl, s3.tq ht, ?_⟩
        walk_at "w"
        refine if_d (fun e1 => ?_) (fun e1 => ?_)
        · refine w_raiseX ?_
          walk_at "w"
          intro d hd
          exact qI hne k (fi_some hwi (decide_eq_true e1) hno) d _ (s3.u hd) (s3.free hd) upd_same
        · walk_at "w"
          refine ⟨s3, ⟨_, _, _, rfl⟩, fun j wj hj hwj => ?_⟩
          by_cases c : j = k
          · subst c
            rw [hwi] at hwj
            cases hwj
            exact decide_eq_false e1
          · exact hno j wj (by omega) hwj
      · rintro σ H' ⟨s2, ⟨a1, b1, c1, rfl⟩, hno⟩
        have hbad : used st.made nm = none := fi_none fun j y hj hy => hno j y (by omega) hy
        obtain ⟨xs, hx1, hx2⟩ := hrows
        have hxl := prd_len hx2
        walk_at "w"
        refine ⟨b, dx, _, rfl, s2 _ _ hb1, rfl, ?_⟩
        walk_at "w"
        refine w_attr (s2 _ _ hb1) T.clB T.na_held rfl ?_
        walk_at "w"
        refine w_ixT (s2.tq ha) (atI_nat (j := 0) rfl) ?_
        refine ⟨rows, rfl, ⟨_, s2.tq hx1⟩, lc_map walk_tup (fun i => selV nm (xs.take i) (st.kept.take i)) rfl (fun H3 s => s.tq (s2.tq hx1)) (fun i x H1 H4 D hi hD p y => ?_) (fun D H4 s3 hD hl2 => ?_)⟩
        · obtain ⟨rfl, e⟩ := y
          obtain ⟨pr, hp, a2, r2, rfl, h3, _⟩ := prd_at hx2 e
          refine ⟨rfl, ?_⟩
          walk_at "w"
          refine w_ixT (p.1.tq (s2.tq h3)) (atI_nat (j := 0) rfl) ?_
          walk_at "w"
          refine if_dn (fun e1 => ?_) (fun e1 => ?_)
          · walk_at "w"
            refine p.yes hD (Same.refl _) (Nat.lt_of_le_of_lt (selV_len ..) (Nat.lt_of_le_of_lt (List.length_take_le ..) (lt_line (by omega)))) ?_
            rw [selV_at e hp, if_neg e1]
          · refine p.no (Same.refl _) ?_
            rw [selV_at e hp, if_pos e1, List.append_nil]
        · rw [List.take_length, hxl, List.take_length] at hl2
          have s4 := s2.trans s3
          walk_at "w"
          refine ⟨D, _, rfl, .inl ⟨sqL hl2, fun p8 hp8 => ?_⟩⟩
          have s8 := s4.u (o := .tup (selV nm xs st.kept)) hp8
          have e8 := upd_same (H := H4) (a := p8) (o := .tup (selV nm xs st.kept))
          generalize upd H4 p8 (.tup (selV nm xs st.kept)) = H8 at s8 e8
          walk_at "w"
          refine w_attr (s8 _ _ hb1) T.clB T.na_held rfl ?_
          walk_at "w"
          refine w_ixT (s8.tq ha) (atI_nat (j := 1) rfl) ?_
          walk_at "w"
          refine ⟨b, p8, wishes, st, rest, without st.kept nm, st.made, rfl, hb.at s8, ⟨_, sqT e8, selV_prd nm (rows_at s8 hx2)⟩, ⟨ws, s8.tq hw1, wishes_kp (kpS s8) hw2⟩, fun H9 s9 hb9 => ?_⟩
          walk_at "w"
          exact q hne hbad _ ((sxS s8).trans s9) hb9
/-- whether a wish holds in a state -/
noncomputable def fits (s : BSt) (wi : Wish) : Bool := match idx s.kept (wn wi) with
  | none => false
  | some i => match s.kept[i]? with
    | none => false
    | some p => holdsB p.2 wi
theorem idx_at {kept : List (Str × List Int)} {nm : Str} {i : Nat} (h : idx kept nm = some i) : ∃ p, kept[i]? = some p ∧ p.1 = nm := by
  unfold idx at h
  rw [List.findIdx?_eq_some_iff_getElem] at h
  obtain ⟨hi, e, _⟩ := h
  exact ⟨kept[i], List.getElem?_eq_getElem hi, of_decide_eq_true e⟩
theorem sc_Book_wish : FnScope ns_Book_wish ps_Book_wish (defScope s_Book_wish) := ⟨rfl, rfl, rfl, by decide +kernel, rfl, by decide +kernel, by decide +kernel⟩
def sp_Book_wish (K : PySem.W.Frag) : Sp := fun vs H Q E => ∃ b t wi s rest, vs = [.ref b, .ref t] ∧ BookAt K H b (s :: rest) ∧ SqT K H t (wishV wi) ∧ WishOk wi ∧ s.made.length ≤ 100 ∧
  (fits s wi = false → ∀ d H', Same H H' → H d = none → H' d = some (.xd [("index", .int s.made.length)]) → E (.ref (He.ga K "Broken")) (some d) H') ∧
  (fits s wi = true → ∀ H', SX b H H' → BookAt K H' b (⟨s.kept, s.made ++ [wi]⟩ :: s :: rest) → Q .non H')
theorem ok_Book_wish (T : Txt w K mg) : Has PP w K mg base d_Book_wish 9 ps_Book_wish (sp_Book_wish K) := by
  refine mkHas T.f_Book_wish sc_Book_wish (fun _ _ _ _ _ _ us hl => match us, hl with | [_, _], _ => rfl) (fun vs H Q E h => ?_) (fun cdv A outer s H vs Q E hr h => ⟨_, (pss_cons (ps_if (pt_not (pt_val (cF (ok_is_wish T) (hr.mono (by decide)) T.g_is_wish (pa_cons (pv 1) pa_nil)))) (pss_one ps_never) pss_nil)
 (pss_cons (ps_asg (pe_slice sl_tupA (pe_fld (pv 0) rfl) po_none (po_some pe_int)) (pg_tup rfl (pgs_cons (pg_name (i := 2) sc_Book_wish.nd rfl (Or.inl rfl)) (pgs_cons (pg_name (i := 3) sc_Book_wish.nd rfl (Or.inl rfl)) pgs_nil))))
 (pss_cons (ps_set (i := 4) sc_Book_wish.nd rfl (Or.inl rfl) (cF (ok_place_of T) (hr.mono (by decide)) T.g_place_of (pa_cons (pv 2) (pa_cons (pe_ix (r := rIxT K) ix_tup (pv 1) pe_int (fun _ _ => rfl)) pa_nil))))
 (pss_cons (ps_if (PW.pt (pw_or (pt_cmpR op_isN (pv 4) pe_non (nomark _)) (pw_or1 (pt_not (pt_val (cF (ok_holds_for T) (hr.mono (by decide)) T.g_holds_for (pa_cons (pe_ix (r := rIxT K) ix_tup (pe_ix (r := rIxT K) ix_tup (pv 2) (pv 4) (fun _ _ => rfl)) pe_int (fun _ _ => rfl)) (pa_cons (pv 1) pa_nil)))))))) (pss_one (ps_raiseX T.x_Broken hr (takes_of rfl rfl rfl rfl) (pa_cons (pe_callB ca_len rfl T.n_len PySem.boot_len (pa_cons (pv 3) pa_nil)) pa_nil))) pss_nil)
 (pss_one (ps_expr (cM (ok_Book_go_on T) T.clB T.mB_go_on (hr.mono (by decide)) (pv 0) (pa_cons (pv 2) (pa_cons (pe_tup (StX.pa_star (pv 3) (pa_cons (pv 1) pa_nil))) pa_nil))))))))), ?_⟩)
  · obtain ⟨b, t, wi, s, rest, rfl, _⟩ := h
    rfl
  · obtain ⟨b, t, wi, st, rest, rfl, hb, ht, hok, hm, qE, q⟩ := h
    obtain ⟨dx, a, rows, wishes, prev, hb1, ha, hrows, ⟨ws, hw1, hw2⟩, hprev⟩ := hb.top
    have hwl := prd_len hw2
    walk_at "w"
    refine ⟨t, wi, rfl, ht, hok, fun H1 s1 => ?_⟩
    walk_at "w"
    refine w_attr (s1 _ _ hb1) T.clB T.na_held rfl ?_
    walk_at "w"
    refine w_slT (s1.tq ha) fun p2 H2 s2 hp2 => ?_
    rw [show cutV [V.ref rows, V.ref wishes, prev, V.int rest.length] none (some 2) = [.ref rows, .ref wishes] from rfl] at hp2
    have s3 := s1.trans s2
    refine w_tg2 rfl hp2 ?_
    walk_at "w"
    refine w_ixT (s3.tq ht) (atI_nat (j := 1) rfl) ?_
    walk_at "w"
    refine ⟨rows, wn wi, st.kept, rfl, hrows.at s3, fun H4 s4 => ?_⟩
    have s5 := s3.trans s4
    walk_at "w"
    refine ⟨rfl, ?_⟩
    walk_at "w"
    have fail : ∀ H6, Same H H6 → fits st wi = false → ∀ σ z, σ = [some (.ref b), some (.ref t), some (.ref rows), some (.ref wishes), z] → tRaiseX (He.ga K "Broken") "index" (fun cls d _ H => E cls d H) (tCons (tCB (rLen K) (tCons (tVar 3) tNil)) tNil) { nx := fun _ _ => False, rt := fun _ _ => False } σ H6 := by
      intro H6 s6 hf σ z hσ
      subst hσ
      refine w_raiseX ?_
      walk_at "w"
      refine w_rlenT (s6.tq hw1) ?_
      walk_at "w"
      intro d hd
      rw [hwl]
      exact qE hf d _ (s6.u hd) (s6.free hd) upd_same
    cases hi : idx st.kept (wn wi) with
    | none =>
      refine if_dT rfl ?_
      walk_at "w"
      exact fail _ s5 (by unfold fits; rw [hi]) _ _ rfl
    | some i0 =>
      obtain ⟨p, hp, hpn⟩ := idx_at hi
      obtain ⟨xs, hx1, hx2⟩ := hrows
      obtain ⟨v, hv, a2, r2, rfl, h3, h4⟩ := prd_at' hx2 hp
      refine if_dF (fun z => nomatch z) ?_
      show tNot _ _ _ _
      walk_at "w"
      refine w_ixT (s5.tq hx1) (atI_nat hv) ?_
      walk_at "w"
      refine w_ixT (s5.tq h3) (atI_nat (j := 1) rfl) ?_
      walk_at "w"
      refine ⟨r2, t, p.2, wi, rfl, h4.at s5, s5.tq ht, hok, fun H6 s6 => ?_⟩
      have s7 := s5.trans s6
      have hf : fits st wi = holdsB p.2 wi := by unfold fits; rw [hi]; show (match st.kept[i0]? with | none => false | some p => holdsB p.2 wi) = _; rw [hp]
      walk_at "w"
      cases e : holdsB p.2 wi with
      | false =>
        walk_at "w"
        exact fail _ s7 (by rw [hf, e]) _ _ rfl
      | true =>
        walk_at "w"
        refine ⟨b, dx, _, rfl, s7 _ _ hb1, rfl, ?_⟩
        walk_at "w"
        refine ⟨wishes, ws, rfl, .inl (s7.tq hw1), ?_⟩
        walk_at "w"
        refine ⟨le_line (by simp; omega), fun p8 hp8 => ?_⟩
        have s8 := s7.u (o := .tup (ws ++ [.ref t])) hp8
        have e8 := upd_same (H := H6) (a := p8) (o := .tup (ws ++ [.ref t]))
        generalize upd H6 p8 (.tup (ws ++ [.ref t])) = H8 at s8 e8
        walk_at "w"
        refine ⟨b, rows, p8, st, rest, st.kept, st.made ++ [wi], rfl, hb.at s8, ⟨xs, s8.tq hx1, rows_at s8 hx2⟩, ⟨_, sqT e8, prd_append (wishes_kp (kpS s8) hw2) (.cons ⟨t, rfl, s8.tq ht⟩ .nil)⟩, fun H9 s9 hb9 => ?_⟩
        walk_at "w"
        exact q (by rw [hf, e]) _ ((sxS s8).trans s9) hb9
theorem sc_Book_lift : FnScope ns_Book_lift ps_Book_lift (defScope s_Book_lift) := ⟨rfl, rfl, rfl, by decide +kernel, rfl, by decide +kernel, by decide +kernel⟩
def sp_Book_lift (K : PySem.W.Frag) : Sp := fun vs H Q E => ∃ b i s rest, vs = [.ref b, .int i] ∧ BookAt K H b (s :: rest) ∧ s.made.length ≤ 100 ∧
  (¬ (0 ≤ i ∧ i < s.made.length) → ∀ d H', Same H H' → H d = none → H' d = some (.xd [("given", .int i)]) → E (.ref (He.ga K "InvalidIndex")) (some d) H') ∧
  (∀ k : Nat, i = k → k < s.made.length → ∀ H', SX b H H' → BookAt K H' b (⟨s.kept, s.made.take k ++ s.made.drop (k + 1)⟩ :: s :: rest) → Q .non H')
theorem cut_upto (xs : List V) (k : Nat) : cutV xs none (some (k : Int)) = xs.take k := by
  unfold cutV
  rw [HT.sIx_none, HT.sIx_nat, List.drop_zero, Nat.sub_zero]
  by_cases h : k ≤ xs.length
  · rw [Nat.min_eq_left h]
  · rw [Nat.min_eq_right (by omega), List.take_length, List.take_of_length_le (by omega)]
theorem cut_from (xs : List V) (k : Nat) : cutV xs (some (k : Int)) none = xs.drop k := by
  unfold cutV
  rw [HT.sIx_none, HT.sIx_nat]
  by_cases h : k ≤ xs.length
  · rw [Nat.min_eq_left h, List.take_of_length_le (by rw [List.length_drop]; exact Nat.le_refl _)]
  · rw [Nat.min_eq_right (by omega), Nat.sub_self, List.take_zero, List.drop_eq_nil_of_le (by omega)]
theorem ok_Book_lift (T : Txt w K mg) : Has PP w K mg base d_Book_lift 4 ps_Book_lift (sp_Book_lift K) := by
  refine mkHas T.f_Book_lift sc_Book_lift (fun _ _ _ _ _ _ us hl => match us, hl with | [_, _], _ => rfl) (fun vs H Q E h => ?_) (fun cdv A outer s H vs Q E hr h => ⟨_, (pss_cons (ps_asg (pe_slice sl_tupA (pe_fld (pv 0) rfl) po_none (po_some pe_int)) (pg_tup rfl (pgs_cons (pg_name (i := 2) sc_Book_lift.nd rfl (Or.inl rfl)) (pgs_cons (pg_name (i := 3) sc_Book_lift.nd rfl (Or.inl rfl)) pgs_nil))))
 (pss_cons (ps_if (pt_not (pt_val (cF (ok_is_between T) (hr.mono (by decide)) T.g_is_between (pa_cons (pv 1) (pa_cons pe_int (pa_cons (pe_op op_sub (pe_callB ca_len rfl T.n_len PySem.boot_len (pa_cons (pv 3) pa_nil)) pe_int) pa_nil)))))) (pss_one (ps_raiseX T.x_InvalidIndex hr (takes_of rfl rfl rfl rfl) (pa_cons (pv 1) pa_nil))) pss_nil)
 (pss_one (ps_expr (cM (ok_Book_go_on T) T.clB T.mB_go_on (hr.mono (by decide)) (pv 0) (pa_cons (pv 2) (pa_cons (pe_op op_catA (pe_slice sl_tupA (pv 3) po_none (po_some (pv 1))) (pe_slice sl_tupA (pv 3) (po_some (pe_op op_add (pv 1) pe_int)) po_none)) pa_nil))))))), ?_⟩)
  · obtain ⟨b, i, s, rest, rfl, _⟩ := h
    rfl
  · obtain ⟨b, i, st, rest, rfl, hb, hm, qE, q⟩ := h
    obtain ⟨dx, a, rows, wishes, prev, hb1, ha, hrows, ⟨ws, hw1, hw2⟩, hprev⟩ := hb.top
    have hwl := prd_len hw2
    walk_at "w"
    refine w_attr hb1 T.clB T.na_held rfl ?_
    walk_at "w"
    refine w_slT ha fun p2 H2 s2 hp2 => ?_
    rw [show cutV [V.ref rows, V.ref wishes, prev, V.int rest.length] none (some 2) = [.ref rows, .ref wishes] from rfl] at hp2
    refine w_tg2 rfl hp2 ?_
    walk_at "w"
    refine w_rlenT (s2.tq hw1) ?_
    walk_at "w"
    refine ⟨_, _, _, rfl, ?_⟩
    rw [hwl]
    walk_at "w"
    refine if_dn (fun e => ?_) (fun e => ?_)
    · refine w_raiseX ?_
      walk_at "w"
      intro d hd
      exact qE (fun z => e (by omega)) d _ (s2.u hd) (s2.free hd) upd_same
    · obtain ⟨k, rfl⟩ : ∃ k : Nat, i = k := ⟨i.toNat, by omega⟩
      walk_at "w"
      refine ⟨b, dx, _, rfl, s2 _ _ hb1, rfl, ?_⟩
      walk_at "w"
      refine w_slT (s2.tq hw1) fun p3 H3 s3 hp3 => ?_
      rw [cut_upto] at hp3
      have s4 := s2.trans s3
      walk_at "w"
      refine w_slT (s4.tq hw1) fun p5 H5 s5 hp5 => ?_
      rw [show ((k : Int) + 1) = ((k + 1 : Nat) : Int) from rfl, cut_from] at hp5
      have s6 := s4.trans s5
      have hl1 : (ws.take k).length ≤ 100 := Nat.le_trans (List.length_take_le ..) (by omega)
      have hl2 : (ws.drop (k + 1)).length ≤ 100 := by rw [List.length_drop]; omega
      have fin : ∀ (p6 : Addr) (H6 : Hp), Same H H6 → SqT K H6 p6 (ws.take k ++ ws.drop (k + 1)) → WishesAt K H6 p6 (st.made.take k ++ st.made.drop (k + 1)) := fun p6 H6 s7 h => ⟨_, h, prd_append (prd_take k (wishes_kp (kpS s7) hw2)) (prd_drop (k + 1) (wishes_kp (kpS s7) hw2))⟩
      have go : ∀ (p6 : Addr) (H6 : Hp), Same H H6 → SqT K H6 p6 (ws.take k ++ ws.drop (k + 1)) → sp_Book_go_on K ([V.ref b, .ref rows, .ref p6] ++ []) H6 (fun _ H7 => Q .non H7) (fun _ _ _ => False) := fun p6 H6 s7 h =>
        ⟨b, rows, p6, st, rest, st.kept, _, rfl, hb.at s7, hrows.at s7, fin p6 H6 s7 h, fun H9 s9 hb9 => q k rfl (by omega) _ ((sxS s7).trans s9) hb9⟩
      refine ⟨p3, p5, _, _, rfl, rfl, s5.tq hp3, hp5, le_line (by omega), fun e0 => ?_, fun e1 e2 => ?_, fun e1 e2 p6 hp6 => ?_⟩
      · walk_at "w"
        exact go p5 _ s6 (by rw [e0, List.nil_append]; exact hp5)
      · walk_at "w"
        exact go p3 _ s6 (by rw [e2, List.append_nil]; exact s5.tq hp3)
      · walk_at "w"
        exact go p6 _ (s6.u hp6) sqTu
theorem sc_Book_undo : FnScope ns_Book_undo ps_Book_undo (defScope s_Book_undo) := ⟨rfl, rfl, rfl, by decide +kernel, rfl, by decide +kernel, by decide +kernel⟩
def sp_Book_undo (K : PySem.W.Frag) : Sp := fun vs H Q E => ∃ b s rest, vs = [.ref b] ∧ BookAt K H b (s :: rest) ∧ (rest = [] → E (.ref (He.ga K "NothingToUndo")) none H) ∧ (rest ≠ [] → ∀ H', SX b H H' → BookAt K H' b rest → Q .non H')
theorem ok_Book_undo (T : Txt w K mg) : Has PP w K mg base d_Book_undo 4 ps_Book_undo (sp_Book_undo K) := by
  refine mkHas T.f_Book_undo sc_Book_undo (fun _ _ _ _ _ _ us hl => match us, hl with | [_], _ => rfl) (fun vs H Q E h => ?_) (fun cdv A outer s H vs Q E hr h => ⟨_, (pss_cons (ps_if (pt_cmpR op_isN (pe_ix (r := rIxT K) ix_tup (pe_fld (pv 0) rfl) pe_int (fun _ _ => rfl)) pe_non (nomark _)) (pss_one (ps_raiseX0 T.x_NothingToUndo (takes_of rfl rfl rfl rfl))) pss_nil)
 (pss_one (ps_fld (pv 0) (pe_ix (r := rIxT K) ix_tup (pe_fld (pv 0) rfl) pe_int (fun _ _ => rfl)) rfl))), ?_⟩)
  · obtain ⟨b, s, rest, rfl, _⟩ := h
    rfl
  · obtain ⟨b, st, rest, rfl, hb, qE, q⟩ := h
    obtain ⟨dx, a, rows, wishes, prev, hb1, ha, hrows, hwi, hprev⟩ := hb.top
    walk_at "w"
    refine w_attr hb1 T.clB T.na_held rfl ?_
    walk_at "w"
    refine w_ixT ha (atI_nat (j := 2) rfl) ?_
    refine ⟨rfl, ?_⟩
    walk_at "w"
    cases rest with
    | nil =>
      have e : prev = .non := hprev
      refine if_dT e ?_
      exact qE rfl
    | cons s2 r2 =>
      obtain ⟨h2, rows2, wishes2, prev2, e, ha2, hr2, hw2, hp2⟩ := id hprev
      subst e
      refine if_dF (fun z => nomatch z) ?_
      walk_at "w"
      refine w_attr hb1 T.clB T.na_held rfl ?_
      walk_at "w"
      refine w_ixT ha (atI_nat (j := 2) rfl) ?_
      walk_at "w"
      refine w_setF hb1 T.clB T.na_held (by simp) ?_
      have k : Kp H (upd H b (.ins (He.ga K "Book") dx (putF "held" (.ref h2) [("held", .ref a)]))) := kpX sxU hb1 ⟨_, rfl⟩
      exact q (by simp) _ sxU ⟨dx, .ref h2, by rw [upd_same]; rfl, HeldAt.kp k hprev⟩
end


/-- a jar of draws -/
def JarAt (H : Hp) (j : Addr) : Prop := ∃ a b c : Int, H j = some (.lst [.int a, .int b, .int c]) ∧ 0 ≤ a
theorem JarAt.at {H H' : Hp} {j : Addr} (h : JarAt H j) (s : Same H H') : JarAt H' j := by
  obtain ⟨a, b, c, h1, h2⟩ := h
  exact ⟨a, b, c, s _ _ h1, h2⟩
theorem JarAt.kp {H H' : Hp} {j : Addr} (h : JarAt H j) (s : SX j H H') : Kp H H' := by
  obtain ⟨a, b, c, h1, _⟩ := h
  exact kpX s h1 ⟨a, b, c, rfl⟩
theorem JarAt.ne {H : Hp} {j a : Addr} {o : HO} (h : JarAt H j) (e : H a = some o) (n : ¬ Mut o) : a ≠ j := fun z => by
  obtain ⟨x, y, w, h1, _⟩ := h
  rw [z, h1] at e
  cases e
  exact n ⟨x, y, w, rfl⟩
theorem SX.sq {K : PySem.W.Frag} {b : Addr} {H H' : Hp} {a : Addr} {xs : List V} (e : SX b H H') (n : a ≠ b) (h : SqL K H a xs) : SqL K H' a xs := by
  rcases h with (h | ⟨o, h⟩) | h
  · exact .inl (.inl (e _ _ n h))
  · exact .inl (.inr ⟨o, e _ _ n h⟩)
  · exact .inr h
theorem SX.u {b : Addr} {H H' : Hp} {p : Addr} {o : HO} (a : SX b H H') (h : H' p = none) : SX b H (upd H' p o) := a.trans (sxS (sameU h))
theorem SX.w {b : Addr} {H H' : Hp} {p : Addr} {o : HO} (a : SX b H H') (h : H p = none) : SX b H (upd H' p o) := fun c u n e => by rw [upd_ne (ne_of_none e h)]; exact a c u n e
theorem SX.wj {b : Addr} {H H' : Hp} {o : HO} (a : SX b H H') : SX b H (upd H' b o) := fun c u n e => by rw [upd_ne n]; exact a c u n e
theorem SX.free {b : Addr} {H H' : Hp} (e : SX b H H') {l : Addr} (n : l ≠ b) (h : H' l = none) : H l = none := by
  cases q : H l with
  | none => rfl
  | some o => rw [e l o n q] at h; cases h
theorem JarAt.some {H : Hp} {j : Addr} (h : JarAt H j) {p : Addr} (hp : H p = none) : p ≠ j := fun z => by
  obtain ⟨a, b, c, h1, _⟩ := h
  rw [z, h1] at hp
  cases hp
theorem cdiv_ok {i j : Int} (h1 : 0 < j) (h2 : j ≤ 4 * 10 ^ 30) : CDivP i j := ⟨h1, PyProof.noPylong_of_log2 (by
  have h3 : j.natAbs ≠ 0 := by omega
  have h4 : j.natAbs < 2 ^ 102 := by omega
  have := (Nat.log2_lt h3).mpr h4
  omega)⟩
section
variable {w : World} {K : PySem.W.Frag} {mg : Str → Option Value} {base : Heap}
theorem sc_law_jar : FnScope ns_law_jar ps_law_jar (defScope s_law_jar) := ⟨rfl, rfl, rfl, by decide +kernel, rfl, by decide +kernel, by decide +kernel⟩
def sp_law_jar (K : PySem.W.Frag) : Sp := fun vs H Q _ => ∃ (a : Addr) (ns : List Int) (k : Int), vs = [.ref a, .int k] ∧ SqL K H a (ns.map V.int) ∧ (0 ≤ k ∧ k ≤ 100) ∧ ns.length ≤ 1000 ∧ ∀ j H', Same H H' → H j = none → JarAt H' j → Q (.ref j) H'
theorem cut_take (ns : List Int) : cutV (ns.map V.int) none (some 5) = (ns.take 5).map V.int := by
  have := cut_upto (ns.map V.int) 5
  rw [show ((5 : Nat) : Int) = 5 from rfl] at this
  rw [this, List.map_take]
theorem ok_law_jar (T : Txt w K mg) : Has PP w K mg base d_law_jar 1 ps_law_jar (sp_law_jar K) := by
  refine mkHas T.f_law_jar sc_law_jar (fun _ _ _ _ _ _ us hl => match us, hl with | [_, _], _ => rfl) (fun vs H Q E h => ?_) (fun cdv A outer s H vs Q E hr h => ⟨_, (pss_cons (ps_set (i := 2) sc_law_jar.nd rfl (Or.inl rfl) (pe_ifExp (pt_cmpR op_lt (pv 1) (pe_callB ca_len rfl T.n_len PySem.boot_len (pa_cons (pv 0) pa_nil)) (nomark _)) (pe_ix (r := rIxL K) ix_list (pv 0) (pv 1) (fun _ _ => rfl)) (pe_op op_add (pe_op op_mul pe_int (pv 1)) pe_int)))
 (pss_cons (ps_set (i := 3) sc_law_jar.nd rfl (Or.inl rfl) (pe_op op_add pe_int (pe_op op_mul pe_int (pv 1))))
 (pss_cons (ps_for (passes_of rfl) rfl (pi_list (pe_op op_cat (pe_slice sl_list (pv 0) po_none (po_some pe_int)) (pe_lst (pa_cons (pv 2) pa_nil)))) (pg_name (i := 4) sc_law_jar.nd rfl (Or.inl rfl))
 (pss_one (ps_set (i := 3) sc_law_jar.nd rfl (Or.inl rfl) (pe_op op_mod (pe_callTy ca_int1 rfl T.n_int boot_int (pa_cons (pe_op op_add (pe_op op_mul (pv 3) pe_int) (pv 4)) pa_nil)) pe_int))))
 (pss_one (ps_ret (pe_lst (pa_cons (pe_ifExp (PW.pt (pw_or (pt_cmpR op_lt (pv 2) pe_int (nomark _)) (pw_or1 (pt_cmpR op_ge (pv 2) (pe_op op_pow pe_int pe_int) (nomark _))))) (pe_callB ca_abs rfl T.n_abs (by kernel_rfl) (pa_cons (pv 2) pa_nil)) pe_int) (pa_cons (pv 3) (pa_cons pe_int pa_nil))))))))), ?_⟩)
  · obtain ⟨a, ns, k, rfl, _⟩ := h
    rfl
  · obtain ⟨a, ns, k, rfl, ha, hk, hn, q⟩ := h
    walk_at "w"
    refine w_rlenL ha ?_
    rw [List.length_map]
    walk_at "w"
    refine if_d (fun c1 => ?_) (fun c1 => ?_)
    case' refine_2 =>
      walk_at "w"
      refine w_I (.inl (by decide)) ?_
      walk_at "w"
      generalize 31 * k + 5 = c
    case' refine_1 =>
      obtain ⟨m, rfl⟩ : ∃ m : Nat, k = m := ⟨k.toNat, by omega⟩
      obtain ⟨c, hc⟩ : ∃ c, ns[m]? = some c := ⟨ns[m]'(by omega), List.getElem?_eq_getElem _⟩
      walk_at "w"
      refine w_ixL ha (atI_nat (v := .int c) (by rw [List.getElem?_map, hc]; rfl)) ?_
      walk_at "w"
      clear hc c1
      generalize (m : Int) = k at *
    all_goals
      refine w_I (.inl (by decide)) ?_
      walk_at "w"
      refine w_slL ha fun l hl => ?_
      rw [cut_take]
      have s1 := sameU (o := .lst ((ns.take 5).map V.int)) hl
      have e1 := upd_same (H := H) (a := l) (o := .lst ((ns.take 5).map V.int))
      generalize upd H l (.lst ((ns.take 5).map V.int)) = H1 at s1 e1
      walk_at "w"
      refine ⟨le_line (by simp), fun p hp => ?_⟩
      have s2 := s1.u (o := .lst [.int c]) hp
      have e2 := upd_same (H := H1) (a := p) (o := .lst [.int c])
      have e3 := sameU (o := .lst [.int c]) hp _ _ e1
      generalize upd H1 p (.lst [.int c]) = H2 at s2 e2 e3
      have h5 : (ns.take 5).length ≤ 5 := List.length_take_le ..
      refine ⟨l, p, _, _, rfl, rfl, e3, e2, le_line (by rw [List.length_map]; show _ + 1 ≤ 1000; omega), fun q1 hq1 => ?_⟩
      have s3 := s2.u (o := .lst ((ns.take 5).map V.int ++ [.int c])) hq1
      have e4 := upd_same (H := H2) (a := q1) (o := .lst ((ns.take 5).map V.int ++ [.int c]))
      generalize upd H2 q1 (.lst ((ns.take 5).map V.int ++ [.int c])) = H3 at s3 e4
      have e5 : (ns.take 5).map V.int ++ [.int c] = (ns.take 5 ++ [c]).map V.int := by rw [List.map_append]; rfl
      rw [e5] at e4
      walk_at "w"
      refine ⟨q1, rfl, ⟨_, sqL e4⟩, for_list (xs := (ns.take 5 ++ [c]).map V.int) (fun i σ H' => Same H3 H' ∧ ∃ m z, σ = [some (.ref a), some (.int k), some (.int c), some (.int m), z]) ⟨Same.refl _, _, _, rfl⟩ (fun i σ H' _ q => q.1.sq (sqL e4)) ?_ ?_⟩
      · rintro i v σ H' hv ⟨s4, m, z, rfl⟩
        obtain ⟨y, hy, rfl⟩ := mapInt_at hv
        walk_at "w"
        refine w_I (.inr (by decide)) ?_
        walk_at "w"
        refine w_I (by decide) ?_
        walk_at "w"
        exact ⟨s4, _, _, rfl⟩
      · rintro σ H' ⟨s4, m, z, rfl⟩
        have fin : ∀ x : Int, 0 ≤ x → ∀ p, H' p = none → Q (.ref p) (upd H' p (.lst [.int x, .int m, .int 0])) := fun x hx p hp => q p _ ((s3.trans s4).u hp) ((s3.trans s4).free hp) ⟨x, m, 0, upd_same, hx⟩
        walk_at "w"
        refine if_d (fun d1 => ?_) (fun d1 => ?_)
        · walk_at "w"
          refine ⟨le_line (by simp), fun p8 hp8 => fin _ (by split <;> omega) p8 hp8⟩
        · walk_at "w"
          refine w_I (show CPow 10 18 from ⟨by decide, by decide, by decide⟩) ?_
          walk_at "w"
          refine if_d (fun d2 => ?_) (fun d2 => ?_)
          · walk_at "w"
            refine ⟨le_line (by simp), fun p8 hp8 => fin _ (by split <;> omega) p8 hp8⟩
          · walk_at "w"
            refine ⟨le_line (by simp), fun p8 hp8 => fin _ (by decide) p8 hp8⟩
theorem sc_law_dip : FnScope ns_law_dip ps_law_dip (defScope s_law_dip) := ⟨rfl, rfl, rfl, by decide +kernel, rfl, by decide +kernel, by decide +kernel⟩
def sp_law_dip : Sp := fun vs H Q _ => ∃ (j : Addr) (top : Int), vs = [.ref j, .int top] ∧ JarAt H j ∧ (0 < top ∧ top ≤ 4 * 10 ^ 30) ∧ ∀ r H', 0 ≤ r → r < top → SX j H H' → JarAt H' j → Q (.int r) H'
theorem ok_law_dip (T : Txt w K mg) : Has PP w K mg base d_law_dip 1 ps_law_dip sp_law_dip := by
  refine mkHas T.f_law_dip sc_law_dip (fun _ _ _ _ _ _ us hl => match us, hl with | [_, _], _ => rfl) (fun vs H Q E h => ?_) (fun cdv A outer s H vs Q E hr h => ⟨_, (pss_cons (ps_asg (pe_op op_add (pe_ix (r := rIxL K) ix_list (pv 0) pe_int (fun _ _ => rfl)) pe_int) (pg_sub (pv 0) pe_int set_list))
 (pss_cons (ps_if (pt_cmpR op_gt (pe_ix (r := rIxL K) ix_list (pv 0) pe_int (fun _ _ => rfl)) pe_int (nomark _)) (pss_cons (ps_asg (pe_callB ca_divmod rfl T.n_divmod (by kernel_rfl) (pa_cons (pe_ix (r := rIxL K) ix_list (pv 0) pe_int (fun _ _ => rfl)) (pa_cons (pv 1) pa_nil))) (pg_tup rfl (pgs_cons (pg_sub (pv 0) pe_int set_list) (pgs_cons (pg_name (i := 2) sc_law_dip.nd rfl (Or.inl rfl)) pgs_nil))))
 (pss_one (ps_ret (pv 2)))) pss_nil)
 (pss_cons (ps_asg (pe_op op_mod (pe_callTy ca_int1 rfl T.n_int boot_int (pa_cons (pe_op op_add (pe_op op_mul (pe_ix (r := rIxL K) ix_list (pv 0) pe_int (fun _ _ => rfl)) pe_int) (pe_op op_mul pe_int (pe_ix (r := rIxL K) ix_list (pv 0) pe_int (fun _ _ => rfl)))) pa_nil)) pe_int) (pg_sub (pv 0) pe_int set_list))
 (pss_one (ps_ret (pe_op op_mod (pe_callTy ca_int1 rfl T.n_int boot_int (pa_cons (pe_op op_fdiv (pe_ix (r := rIxL K) ix_list (pv 0) pe_int (fun _ _ => rfl)) pe_int) pa_nil)) (pv 1))))))), ?_⟩)
  · obtain ⟨j, top, rfl, _⟩ := h
    rfl
  · obtain ⟨j, top, rfl, ⟨a, b, c, h1, ha⟩, ht, q⟩ := h
    walk_at "w"
    refine w_ixL (sqL h1) (atI_nat (j := 2) rfl) ?_
    walk_at "w"
    refine w_setL (j := 2) h1 rfl ?_
    show tSeq _ _ _ _ (upd H j (.lst [.int a, .int b, .int (c + 1)]))
    have s1 : SX j H (upd H j (.lst [.int a, .int b, .int (c + 1)])) := sxU
    have h2 := upd_same (H := H) (a := j) (o := .lst [.int a, .int b, .int (c + 1)])
    generalize upd H j (.lst [.int a, .int b, .int (c + 1)]) = H1 at s1 h2
    walk_at "w"
    refine w_ixL (sqL h2) (atI_nat (j := 0) rfl) ?_
    walk_at "w"
    refine if_d (fun d1 => ?_) (fun d1 => ?_)
    · walk_at "w"
      refine w_ixL (sqL h2) (atI_nat (j := 0) rfl) ?_
      walk_at "w"
      refine ⟨a, top, rfl, cdiv_ok ht.1 ht.2, fun p hp => ?_⟩
      have s2 := s1.u (o := .tup [.int (a / top), .int (a % top)]) hp
      have h3 := sameU (o := .tup [.int (a / top), .int (a % top)]) hp _ _ h2
      have e3 := upd_same (H := H1) (a := p) (o := .tup [.int (a / top), .int (a % top)])
      generalize upd H1 p (.tup [.int (a / top), .int (a % top)]) = H2 at s2 h3 e3
      walk_at "w"
      refine ⟨p, _, rfl, sqT e3, rfl, .int (a / top), [.int (a % top)], rfl, ?_⟩
      walk_at "w"
      refine w_setL (j := 0) h3 rfl ?_
      refine ⟨.int (a % top), [], rfl, ?_⟩
      walk_at "w"
      refine ⟨rfl, ?_⟩
      walk_at "w"
      exact q _ _ (Int.emod_nonneg _ (by omega)) (Int.emod_lt_of_pos _ ht.1) s2.wj ⟨a / top, b, c + 1, upd_same, Int.ediv_nonneg ha (by omega)⟩
    · walk_at "w"
      refine w_ixL (sqL h2) (atI_nat (j := 1) rfl) ?_
      walk_at "w"
      refine w_I (.inr (by decide)) ?_
      walk_at "w"
      refine w_ixL (sqL h2) (atI_nat (j := 2) rfl) ?_
      walk_at "w"
      refine w_I (.inl (by decide)) ?_
      walk_at "w"
      refine w_I (by decide) ?_
      walk_at "w"
      refine w_setL (j := 1) h2 rfl ?_
      rw [show [V.int a, V.int b, V.int (c + 1)].set 1 (V.int ((b * 48271 + 90031 * (c + 1)) % 2147483399)) = [.int a, .int ((b * 48271 + 90031 * (c + 1)) % 2147483399), .int (c + 1)] from rfl]
      have s3 := s1.wj (o := .lst [.int a, .int ((b * 48271 + 90031 * (c + 1)) % 2147483399), .int (c + 1)])
      have h4 := upd_same (H := H1) (a := j) (o := .lst [.int a, .int ((b * 48271 + 90031 * (c + 1)) % 2147483399), .int (c + 1)])
      generalize upd H1 j (.lst [.int a, .int ((b * 48271 + 90031 * (c + 1)) % 2147483399), .int (c + 1)]) = H3 at s3 h4
      walk_at "w"
      refine w_ixL (sqL h4) (atI_nat (j := 1) rfl) ?_
      walk_at "w"
      refine w_div (by decide) (by decide) ?_
      walk_at "w"
      refine w_I ht.1 ?_
      exact q _ _ (Int.emod_nonneg _ (by omega)) (Int.emod_lt_of_pos _ ht.1) s3 ⟨_, _, _, h4, ha⟩
theorem sc_law_one_of : FnScope ns_law_one_of ps_law_one_of (defScope s_law_one_of) := ⟨rfl, rfl, rfl, by decide +kernel, rfl, by decide +kernel, by decide +kernel⟩
def sp_law_one_of (K : PySem.W.Frag) : Sp := fun vs H Q _ => ∃ (j l : Addr) (xs : List V), vs = [.ref j, .ref l] ∧ JarAt H j ∧ SqL K H l xs ∧ l ≠ j ∧ (0 < xs.length ∧ xs.length ≤ 1000) ∧ ∀ v H', v ∈ xs → SX j H H' → JarAt H' j → Q v H'
theorem ok_law_one_of (T : Txt w K mg) : Has PP w K mg base d_law_one_of 2 ps_law_one_of (sp_law_one_of K) := by
  refine mkHas T.f_law_one_of sc_law_one_of (fun _ _ _ _ _ _ us hl => match us, hl with | [_, _], _ => rfl) (fun vs H Q E h => ?_) (fun cdv A outer s H vs Q E hr h => ⟨_, (pss_one (ps_ret (pe_ix (r := rIxL K) ix_list (pv 1) (cF (ok_law_dip T) (hr.mono (by decide)) T.g_law_dip (pa_cons (pv 0) (pa_cons (pe_callB ca_len rfl T.n_len PySem.boot_len (pa_cons (pv 1) pa_nil)) pa_nil))) (fun _ _ => rfl)))), ?_⟩)
  · obtain ⟨j, l, xs, rfl, _⟩ := h
    rfl
  · obtain ⟨j, l, xs, rfl, hj, hl, hn, hx, q⟩ := h
    walk_at "w"
    refine w_rlenL hl ?_
    walk_at "w"
    refine ⟨j, _, rfl, hj, by omega, fun r H' h0 h1 s1 hj' => ?_⟩
    obtain ⟨m, rfl⟩ : ∃ m : Nat, r = m := ⟨r.toNat, by omega⟩
    have hm : m < xs.length := by omega
    refine w_ixL (s1.sq hn hl) (atI_nat (List.getElem?_eq_getElem hm)) ?_
    exact q _ _ (List.getElem_mem hm) s1 hj'
theorem sc_law_size : FnScope ns_law_size ps_law_size (defScope s_law_size) := ⟨rfl, rfl, rfl, by decide +kernel, rfl, by decide +kernel, by decide +kernel⟩
def sp_law_size : Sp := fun vs H Q _ => ∃ n : Nat, vs = [.int n] ∧ n ≤ 64 ∧ Q (.int (2 ^ n)) H
theorem ok_law_size (T : Txt w K mg) : Has PP w K mg base d_law_size 1 ps_law_size sp_law_size := by
  refine mkHas T.f_law_size sc_law_size (fun _ _ _ _ _ _ us hl => match us, hl with | [_], _ => rfl) (fun vs H Q E h => ?_) (fun cdv A outer s H vs Q E hr h => ⟨_, (pss_cons (ps_set (i := 1) sc_law_size.nd rfl (Or.inl rfl) pe_int)
 (pss_cons (ps_for (passes_of rfl) rfl (pi_range1 rfl T.n_range (pa_cons (pv 0) pa_nil)) (pg_name (i := 2) sc_law_size.nd rfl (Or.inl rfl))
 (pss_one (ps_set (i := 1) sc_law_size.nd rfl (Or.inl rfl) (pe_op op_mul (pv 1) pe_int))))
 (pss_one (ps_ret (pv 1))))), ?_⟩)
  · obtain ⟨n, rfl, _⟩ := h
    rfl
  · obtain ⟨n, rfl, hn, q⟩ := h
    walk_at "w"
    refine ⟨_, rfl, by omega, by omega, for_rng rfl (fun i σ H' => H' = H ∧ ∃ z, σ = [some (.int n), some (.int (2 ^ i)), z]) ⟨rfl, _, rfl⟩ ?_ ?_⟩
    · rintro i σ H' hi ⟨rfl, z, rfl⟩
      walk_at "w"
      refine w_I (.inr (by decide)) ?_
      walk_at "w"
      refine ⟨rfl, some (.int i), ?_⟩
      rw [Int.pow_succ]
      rfl
    · rintro σ H' ⟨rfl, z, rfl⟩
      walk_at "w"
      exact q
end


/-- numbers that a rule can have, m of them at most -/
structure NumsM (m : Nat) (ns : List Int) : Prop where
  pos : 0 < ns.length
  le : ns.length ≤ m
  ok : ∀ n ∈ ns, -10 ^ 30 ≤ n ∧ n ≤ 10 ^ 30
  last : ns.length > 1 → ns.getLast? ≠ some 0
theorem NumsM.nums {m : Nat} {ns : List Int} (h : NumsM m ns) (hm : m ≤ 13) : Nums ns := ⟨h.pos, Nat.le_trans h.le hm, h.ok, h.last⟩
theorem NumsM.mono {m m' : Nat} {ns : List Int} (h : NumsM m ns) (hm : m ≤ m') : NumsM m' ns := ⟨h.pos, Nat.le_trans h.le hm, h.ok, h.last⟩
/-- places 1 to k - 1 are smaller -/
def BdK (k : Nat) (l : List Int) : Prop := ∀ i x, l[i]? = some x → (-10 ^ 30 ≤ x ∧ x ≤ 10 ^ 30) ∧ (1 ≤ i → i < k → -(10 ^ 29 + 3) ≤ x ∧ x ≤ 10 ^ 29 + 3)
theorem bdK_of {l : List Int} (h : ∀ n ∈ l, -10 ^ 30 ≤ n ∧ n ≤ 10 ^ 30) : BdK 1 l := fun i x e => ⟨h x (List.mem_of_getElem? e), fun a b => absurd b (by omega)⟩
theorem BdK.mem {k : Nat} {l : List Int} (h : BdK k l) : ∀ n ∈ l, -10 ^ 30 ≤ n ∧ n ≤ 10 ^ 30 := fun n hn => by
  obtain ⟨i, hi, e⟩ := List.mem_iff_getElem.mp hn
  exact (h i n (by rw [List.getElem?_eq_getElem hi, e])).1
theorem BdK.set {k : Nat} {l : List Int} (h : BdK k l) {i : Nat} {v : Int} (hv : -10 ^ 30 ≤ v ∧ v ≤ 10 ^ 30) (hv2 : 1 ≤ i → -(10 ^ 29 + 3) ≤ v ∧ v ≤ 10 ^ 29 + 3) : BdK k (l.set i v) := fun m x e => by
  rw [List.getElem?_set] at e
  by_cases c : i = m
  · subst c
    rw [if_pos rfl] at e
    split at e
    · cases e; exact ⟨hv, fun a b => hv2 a⟩
    · cases e
  · rw [if_neg c] at e
    exact h m x e
theorem BdK.up {k : Nat} {l : List Int} (h : BdK k l) {v : Int} (hk : 1 ≤ k) (hv : -(10 ^ 29 + 3) ≤ v ∧ v ≤ 10 ^ 29 + 3) : BdK (k + 1) (l.set k v) := fun m x e => by
  rw [List.getElem?_set] at e
  by_cases c : k = m
  · subst c
    rw [if_pos rfl] at e
    split at e
    · cases e; exact ⟨by omega, fun a b => hv⟩
    · cases e
  · rw [if_neg c] at e
    have := h m x e
    exact ⟨this.1, fun a b => this.2 a (by omega)⟩
theorem map_set (l : List Int) (i : Nat) (v : Int) : (l.map V.int).set i (.int v) = (l.set i v).map V.int := by rw [List.map_set]
section
variable {w : World} {K : PySem.W.Frag} {mg : Str → Option Value} {base : Heap}
theorem sc_law_cut : FnScope ns_law_cut ps_law_cut (defScope s_law_cut) := ⟨rfl, rfl, rfl, by decide +kernel, rfl, by decide +kernel, by decide +kernel⟩
def sp_law_cut (K : PySem.W.Frag) : Sp := fun vs H Q _ => ∃ (l : Addr) (ns : List Int), vs = [.ref l] ∧ SqL K H l (ns.map V.int) ∧ (0 < ns.length ∧ ns.length ≤ 100) ∧ ∀ t ms H', Same H H' → ms <+: ns → 0 < ms.length → (ms.length > 1 → ms.getLast? ≠ some 0) → SqT K H' t (ms.map V.int) → Q (.ref t) H'
theorem ok_law_cut (T : Txt w K mg) : Has PP w K mg base d_law_cut 1 ps_law_cut (sp_law_cut K) := by
  refine mkHas T.f_law_cut sc_law_cut (fun _ _ _ _ _ _ us hl => match us, hl with | [_], _ => rfl) (fun vs H Q E h => ?_) (fun cdv A outer s H vs Q E hr h => ⟨_, (pss_cons (ps_set (i := 1) sc_law_cut.nd rfl (Or.inl rfl) (pe_callTy ca_list rfl T.n_list boot_list (pa_cons (pv 0) pa_nil)))
 (pss_cons (ps_while (passes_of rfl) (PW.pt (pw_and (pt_cmpR op_gt (pe_callB ca_len rfl T.n_len PySem.boot_len (pa_cons (pv 1) pa_nil)) pe_int (nomark _)) (pw_and1 (pt_cmpR op_eq (pe_ix (r := rIxL K) ix_list (pv 1) (pe_un un_neg pe_int) (fun _ _ => rfl)) pe_int (nomark _)))))
 (pss_one (ps_expr (pe_bm0 PySem.F.plainAttrs_list PySem.F.slot_list_pop PySem.F.type_list_pop mt_pop (pv 1)))))
 (pss_one (ps_ret (pe_callTy ca_tuple rfl T.n_tuple boot_tuple (pa_cons (pv 1) pa_nil)))))), ?_⟩)
  · obtain ⟨l, ns, rfl, _⟩ := h
    rfl
  · obtain ⟨l, ns, rfl, hl, hn, q⟩ := h
    walk_at "w"
    refine ⟨l, _, rfl, .inl hl, fun f hf => ?_⟩
    have s1 := sameU (o := .lst (ns.map V.int)) hf
    walk_at "w"
    refine w_while (fun k σ H' => ∃ ms : List Int, k = ms.length ∧ 0 < ms.length ∧ ms <+: ns ∧ Same H H' ∧ σ = [some (.ref l), some (.ref f)] ∧ H' f = some (.lst (ms.map V.int))) ns.length ⟨ns, rfl, hn.1, List.prefix_refl _, s1, rfl, upd_same⟩ ?_
    rintro k σ H' ⟨ms, rfl, hm, hp, s2, rfl, hf2⟩
    have hml : ms.length ≤ ns.length := hp.length_le
    obtain ⟨ms', z, rfl⟩ : ∃ ms' z, ms = ms' ++ [z] := ⟨ms.dropLast, ms.getLast (fun e => by rw [e] at hm; exact absurd hm (by decide)), (List.dropLast_concat_getLast _).symm⟩
    have done : ((ms' ++ [z]).length > 1 → z ≠ 0) → rTupleOf K [.ref f] H' Q := fun hz => by
      refine ⟨f, _, rfl, .inl ⟨sqL hf2, fun t ht => ?_⟩⟩
      exact q t _ _ (s2.u ht) hp hm (fun h1 e => hz h1 (by simpa using e)) sqTu
    walk_at "w"
    refine w_rlenL (sqL hf2) ?_
    rw [List.length_map]
    walk_at "w"
    refine if_d (fun c1 => ?_) (fun c1 => ?_)
    · walk_at "w"
      refine w_ixL (sqL hf2) (by rw [List.map_append]; exact atI_last _ _) ?_
      walk_at "w"
      refine if_d (fun c2 => ?_) (fun c2 => ?_)
      · walk_at "w"
        refine ⟨tyL (sqL hf2), ?_⟩
        refine ⟨f, _, .int z, rfl, rfl, hf2, by simp, ?_⟩
        rw [List.map_append, List.map_cons, List.map_nil, List.dropLast_concat]
        walk_at "w"
        have hlen : (ms' ++ [z]).length = ms'.length + 1 := by simp
        exact ⟨ms'.length, by omega, ms', rfl, by omega, (List.prefix_append _ _).trans hp, s2.w hf, rfl, upd_same⟩
      · walk_at "w"
        exact done (fun _ => c2)
    · walk_at "w"
      exact done (fun h => absurd h (by omega))
theorem sc_law_any_numbers : FnScope ns_law_any_numbers ps_law_any_numbers (defScope s_law_any_numbers) := ⟨rfl, rfl, rfl, by decide +kernel, rfl, by decide +kernel, by decide +kernel⟩
def sp_law_any_numbers (K : PySem.W.Frag) : Sp := fun vs H Q _ => ∃ (j : Addr), vs = [.ref j, .int 4] ∧ JarAt H j ∧ ∀ t ns H', SX j H H' → JarAt H' j → NumsM 4 ns → SqT K H' t (ns.map V.int) → Q (.ref t) H'
theorem ok_law_any_numbers (T : Txt w K mg) : Has PP w K mg base d_law_any_numbers 3 ps_law_any_numbers (sp_law_any_numbers K) := by
  refine mkHas T.f_law_any_numbers sc_law_any_numbers (fun _ _ _ _ _ _ us hl => match us, hl with | [_, _], _ => rfl) (fun vs H Q E h => ?_) (fun cdv A outer s H vs Q E hr h => ⟨_, (pss_cons (ps_set (i := 2) sc_law_any_numbers.nd rfl (Or.inl rfl) (cF (ok_law_one_of T) (hr.mono (by decide)) T.g_law_one_of (pa_cons (pv 0) (pa_cons (pe_lst (pa_cons pe_int (pa_cons pe_int (pa_cons pe_int (pa_cons (pe_op op_pow pe_int pe_int) (pa_cons (pe_op op_pow pe_int pe_int) pa_nil)))))) pa_nil))))
 (pss_cons (ps_set (i := 3) sc_law_any_numbers.nd rfl (Or.inl rfl) (pe_lst pa_nil))
 (pss_cons (ps_for (passes_of rfl) rfl (pi_range1 rfl T.n_range (pa_cons (pe_op op_add pe_int (cF (ok_law_dip T) (hr.mono (by decide)) T.g_law_dip (pa_cons (pv 0) (pa_cons (pv 1) pa_nil)))) pa_nil)) (pg_name (i := 4) sc_law_any_numbers.nd rfl (Or.inl rfl))
 (pss_one (ps_expr (pe_bm PySem.F.plainAttrs_list PySem.F.slot_list_append PySem.F.type_list_append mt_append (pv 3) (pa_cons (pe_ifExp (pt_cmpR op_gt (cF (ok_law_dip T) (hr.mono (by decide)) T.g_law_dip (pa_cons (pv 0) (pa_cons pe_int pa_nil))) pe_int (nomark _)) (pe_op op_sub (cF (ok_law_dip T) (hr.mono (by decide)) T.g_law_dip (pa_cons (pv 0) (pa_cons (pe_op op_add (pe_op op_mul pe_int (pv 2)) pe_int) pa_nil))) (pv 2)) pe_int) pa_nil)))))
 (pss_one (ps_ret (cF (ok_law_cut T) (hr.mono (by decide)) T.g_law_cut (pa_cons (pv 3) pa_nil))))))), ?_⟩)
  · obtain ⟨j, rfl, _⟩ := h
    rfl
  · obtain ⟨j, rfl, hj, q⟩ := h
    walk_at "w"
    refine w_I (show CPow 10 6 from ⟨by decide, by decide, by decide⟩) ?_
    walk_at "w"
    refine w_I (show CPow 10 30 from ⟨by decide, by decide, by decide⟩) ?_
    walk_at "w"
    refine ⟨le_line (by simp), fun l hl => ?_⟩
    have s1 := sameU (o := .lst [.int 3, .int 9, .int 40, .int (10 ^ (6 : Int).toNat), .int (10 ^ (30 : Int).toNat)]) hl
    walk_at "w"
    refine ⟨j, l, _, rfl, hj.at s1, sqLu, hj.some hl, ⟨by simp, by simp⟩, fun v H1 hv s2 hj1 => ?_⟩
    obtain ⟨top, rfl, ht⟩ : ∃ top : Int, v = .int top ∧ (3 ≤ top ∧ top ≤ 10 ^ 30) := by
      simp only [List.mem_cons, List.not_mem_nil, or_false] at hv
      rcases hv with rfl | rfl | rfl | rfl | rfl
      · exact ⟨_, rfl, by decide⟩
      · exact ⟨_, rfl, by decide⟩
      · exact ⟨_, rfl, by decide⟩
      · exact ⟨_, rfl, by decide⟩
      · exact ⟨_, rfl, by decide⟩
    have s3 := (sxS s1).trans s2
    walk_at "w"
    refine ⟨le_line (by simp), fun f hf => ?_⟩
    have s4 := s3.u (o := .lst []) hf
    have hj4 := hj1.at (sameU (o := .lst []) hf)
    have hfj : f ≠ j := hj1.some hf
    have hf4 := upd_same (H := H1) (a := f) (o := .lst [])
    generalize upd H1 f (.lst []) = H4 at s4 hj4 hf4
    walk_at "w"
    refine ⟨j, 4, rfl, hj4, by decide, fun r H5 h0 h5 s5 hj5 => ?_⟩
    obtain ⟨m, rfl⟩ : ∃ m : Nat, r = m := ⟨r.toNat, by omega⟩
    walk_at "w"
    have hf0 : H f = none := s3.free hfj hf
    refine ⟨_, rfl, by omega, by omega, for_rng (n := 1 + m) (by omega) (fun i σ H' => SX j H H' ∧ JarAt H' j ∧ ∃ ns z, ns.length = i ∧ (∀ n ∈ ns, -10 ^ 30 ≤ n ∧ n ≤ 10 ^ 30) ∧ σ = [some (.ref j), some (.int 4), some (.int top), some (.ref f), z] ∧ H' f = some (.lst (ns.map V.int))) ⟨s4.trans s5, hj5, [], _, rfl, by simp, rfl, s5 _ _ hfj hf4⟩ ?_ ?_⟩
    · rintro i σ H' hi ⟨s6, hj6, ns, z, hl, hb, rfl, hf6⟩
      walk_at "w"
      refine ⟨tyL (sqL hf6), ?_⟩
      walk_at "w"
      refine ⟨j, 4, rfl, hj6, by decide, fun r7 H7 h70 h75 s7 hj7 => ?_⟩
      have hf7 := s7 _ _ hfj hf6
      walk_at "w"
      refine if_d (fun c1 => ?_) (fun c1 => ?_)
      · walk_at "w"
        refine w_I (.inl (by decide)) ?_
        walk_at "w"
        refine ⟨j, _, rfl, hj7, by omega, fun r8 H8 h80 h85 s8 hj8 => ?_⟩
        have hf8 := s8 _ _ hfj hf7
        walk_at "w"
        refine w_app hf8 (by rw [List.length_map]; exact lt_line (by omega)) ?_
        walk_at "w"
        refine ⟨((s6.trans s7).trans s8).w hf0, ?_, ns ++ [r8 - top], _, by simp [hl], fun n hn => ?_, rfl, by rw [upd_same, List.map_append]; rfl⟩
        · obtain ⟨a, b, c, e1, e2⟩ := hj8
          exact ⟨a, b, c, by rw [upd_ne (Ne.symm hfj)]; exact e1, e2⟩
        · rcases List.mem_append.mp hn with h | h
          · exact hb n h
          · rw [List.mem_singleton] at h
            omega
      · walk_at "w"
        refine w_app hf7 (by rw [List.length_map]; exact lt_line (by omega)) ?_
        walk_at "w"
        refine ⟨(s6.trans s7).w hf0, ?_, ns ++ [0], _, by simp [hl], fun n hn => ?_, rfl, by rw [upd_same, List.map_append]; rfl⟩
        · obtain ⟨a, b, c, e1, e2⟩ := hj7
          exact ⟨a, b, c, by rw [upd_ne (Ne.symm hfj)]; exact e1, e2⟩
        · rcases List.mem_append.mp hn with h | h
          · exact hb n h
          · rw [List.mem_singleton] at h
            omega
    · rintro σ H' ⟨s6, hj6, ns, z, hl, hb, rfl, hf6⟩
      walk_at "w"
      refine ⟨f, ns, rfl, sqL hf6, by omega, fun t ms H7 s7 hp hm hlast ht => ?_⟩
      have := hp.length_le
      exact q t ms _ (s6.trans (sxS s7)) (hj6.at s7) ⟨hm, by omega, fun n hn => hb n (hp.subset hn), hlast⟩ ht
end


theorem ix_int {l : List Int} {i : Nat} {x : Int} (h : l[i]? = some x) : atI (l.map V.int) (i : Int) = some (.int x) := atI_nat (by rw [List.getElem?_map, h]; rfl)
theorem ixN_nat {n i : Nat} (h : i < n) : ixN n (i : Int) = some i := by unfold ixN; rw [if_pos (by omega), if_pos (by omega)]; simp
theorem get_lt {l : List Int} {i : Nat} (h : i < l.length) : ∃ x, l[i]? = some x := ⟨_, List.getElem?_eq_getElem h⟩
theorem tif_join {ta tb : TE} {σ : L2.St} {H : Hp} {R : VK} {p : Prop} [Decidable p] (Good : V → Prop) (ha : p → ∀ R' : VK, (∀ v, Good v → R' v H) → ta σ H R') (hb : ¬ p → ∀ R' : VK, (∀ v, Good v → R' v H) → tb σ H R') (k : ∀ v, Good v → R v H) : if decide p = true then ta σ H R else tb σ H R :=
  if_d (fun c => ha c R k) (fun c => hb c R k)
theorem stm_join {t : TS} {D : Ends} {σ : L2.St} {H : Hp} (Good : L2.St → Hp → Prop) (ht : ∀ D' : Ends, (∀ σ H, Good σ H → D'.nx σ H) → t D' σ H) (k : ∀ σ H, Good σ H → D.nx σ H) : t D σ H := ht D k
/-- places from 1 on smaller than 10 ** 29 + c -/
def BdB (c : Int) (l : List Int) : Prop := ∀ i x, l[i]? = some x → (-10 ^ 30 ≤ x ∧ x ≤ 10 ^ 30) ∧ (1 ≤ i → -(10 ^ 29 + c) ≤ x ∧ x ≤ 10 ^ 29 + c)
theorem BdK.all {l : List Int} (h : BdK l.length l) : BdB 3 l := fun i x e => ⟨(h i x e).1, fun a => (h i x e).2 a (List.getElem?_eq_some_iff.mp e).1⟩
theorem BdB.mono {c d : Int} {l : List Int} (h : BdB c l) (hd : c ≤ d) : BdB d l := fun i x e => ⟨(h i x e).1, fun a => by have := (h i x e).2 a; omega⟩
theorem BdB.set {c : Int} {l : List Int} (h : BdB c l) {i : Nat} {v : Int} (hi : 1 ≤ i) (hc : 0 ≤ c ∧ c ≤ 1000) (hv : -(10 ^ 29 + c) ≤ v ∧ v ≤ 10 ^ 29 + c) : BdB c (l.set i v) := fun m x e => by
  rw [List.getElem?_set] at e
  by_cases z : i = m
  · subst z
    rw [if_pos rfl] at e
    split at e
    · cases e; exact ⟨by omega, fun _ => hv⟩
    · cases e
  · rw [if_neg z] at e
    exact h m x e
section
variable {w : World} {K : PySem.W.Frag} {mg : Str → Option Value} {base : Heap}
theorem sc_law_shuffle_numbers : FnScope ns_law_shuffle_numbers ps_law_shuffle_numbers (defScope s_law_shuffle_numbers) := ⟨rfl, rfl, rfl, by decide +kernel, rfl, by decide +kernel, by decide +kernel⟩
/-- numbers with the places from 1 on smaller -/
structure NumsS (m : Nat) (ns : List Int) : Prop where
  n : NumsM m ns
  s : ∀ i x, ns[i]? = some x → 1 ≤ i → -(10 ^ 29 + 5) ≤ x ∧ x ≤ 10 ^ 29 + 5
def sp_law_shuffle_numbers (K : PySem.W.Frag) : Sp := fun vs H Q _ => ∃ (j : Addr), vs = [.ref j, .int 4] ∧ JarAt H j ∧ ∀ t ns H', SX j H H' → JarAt H' j → NumsS 6 ns → SqT K H' t (ns.map V.int) → Q (.ref t) H'
theorem ok_law_shuffle_numbers (T : Txt w K mg) : Has PP w K mg base d_law_shuffle_numbers 4 ps_law_shuffle_numbers (sp_law_shuffle_numbers K) := by
  refine mkHas T.f_law_shuffle_numbers sc_law_shuffle_numbers (fun _ _ _ _ _ _ us hl => match us, hl with | [_, _], _ => rfl) (fun vs H Q E h => ?_) (fun cdv A outer s H vs Q E hr h => ⟨_, (pss_cons (ps_set (i := 2) sc_law_shuffle_numbers.nd rfl (Or.inl rfl) (pe_op op_cat (pe_callTy ca_list rfl T.n_list boot_list (pa_cons (cF (ok_law_any_numbers T) (hr.mono (by decide)) T.g_law_any_numbers (pa_cons (pv 0) (pa_cons (pv 1) pa_nil))) pa_nil)) (pe_lst (pa_cons pe_int (pa_cons pe_int pa_nil)))))
 (pss_cons (ps_set (i := 2) sc_law_shuffle_numbers.nd rfl (Or.inl rfl) (pe_slice sl_list (pv 2) po_none (po_some (pe_callB (ca_max2 rfl) rfl T.n_max (by kernel_rfl) (pa_cons pe_int (pa_cons (pe_callB (ca_min2 rfl) rfl T.n_min (by kernel_rfl) (pa_cons (pe_callB ca_len rfl T.n_len PySem.boot_len (pa_cons (pv 2) pa_nil)) (pa_cons pe_int pa_nil))) pa_nil))))))
 (pss_cons (ps_asg (pe_ifExp (pt_cmpR op_lt (pe_callB ca_abs rfl T.n_abs (by kernel_rfl) (pa_cons (pe_ix (r := rIxL K) ix_list (pv 2) pe_int (fun _ _ => rfl)) pa_nil)) (pe_op op_pow pe_int pe_int) (nomark _)) (pe_op op_add (pe_op op_mul pe_int (pe_op op_fdiv (pe_ix (r := rIxL K) ix_list (pv 2) pe_int (fun _ _ => rfl)) pe_int)) pe_int) pe_int) (pg_sub (pv 2) pe_int set_list))
 (pss_cons (ps_for (passes_of rfl) rfl (pi_range2 rfl T.n_range (pa_cons pe_int (pa_cons (pe_callB ca_len rfl T.n_len PySem.boot_len (pa_cons (pv 2) pa_nil)) pa_nil))) (pg_name (i := 3) sc_law_shuffle_numbers.nd rfl (Or.inl rfl))
 (pss_one (ps_asg (pe_ifExp (pt_cmpR op_lt (pe_callB ca_abs rfl T.n_abs (by kernel_rfl) (pa_cons (pe_ix (r := rIxL K) ix_list (pv 2) (pv 3) (fun _ _ => rfl)) pa_nil)) (pe_op op_pow pe_int pe_int) (nomark _)) (pe_op op_mul pe_int (pe_op op_fdiv (pe_ix (r := rIxL K) ix_list (pv 2) (pv 3) (fun _ _ => rfl)) pe_int)) pe_int) (pg_sub (pv 2) (pv 3) set_list))))
 (pss_cons (ps_if (PW.pt (pw_and (pt_cmpR op_gt (pe_callB ca_len rfl T.n_len PySem.boot_len (pa_cons (pv 2) pa_nil)) pe_int (nomark _)) (pw_and1 (pt_cmpR op_eq (cF (ok_law_dip T) (hr.mono (by decide)) T.g_law_dip (pa_cons (pv 0) (pa_cons pe_int pa_nil))) pe_int (nomark _))))) (pss_one (ps_asg (pe_tup (pa_cons (pe_op op_add (pe_ix (r := rIxL K) ix_list (pv 2) pe_int (fun _ _ => rfl)) pe_int) (pa_cons (pe_op op_sub (pe_ix (r := rIxL K) ix_list (pv 2) pe_int (fun _ _ => rfl)) pe_int) pa_nil))) (pg_tup rfl (pgs_cons (pg_sub (pv 2) pe_int set_list) (pgs_cons (pg_sub (pv 2) pe_int set_list) pgs_nil))))) pss_nil)
 (pss_cons (ps_if (PW.pt (pw_and (pt_cmpR op_gt (pe_callB ca_len rfl T.n_len PySem.boot_len (pa_cons (pv 2) pa_nil)) pe_int (nomark _)) (pw_and1 (pt_cmpR op_eq (cF (ok_law_dip T) (hr.mono (by decide)) T.g_law_dip (pa_cons (pv 0) (pa_cons pe_int pa_nil))) pe_int (nomark _))))) (pss_one (ps_asg (pe_tup (pa_cons (pe_op op_sub (pe_ix (r := rIxL K) ix_list (pv 2) pe_int (fun _ _ => rfl)) pe_int) (pa_cons (pe_op op_add (pe_ix (r := rIxL K) ix_list (pv 2) pe_int (fun _ _ => rfl)) pe_int) pa_nil))) (pg_tup rfl (pgs_cons (pg_sub (pv 2) pe_int set_list) (pgs_cons (pg_sub (pv 2) pe_int set_list) pgs_nil))))) pss_nil)
 (pss_one (ps_ret (cF (ok_law_cut T) (hr.mono (by decide)) T.g_law_cut (pa_cons (pv 2) pa_nil)))))))))), ?_⟩)
  · obtain ⟨j, rfl, _⟩ := h
    rfl
  · obtain ⟨j, rfl, hj, q⟩ := h
    walk_at "w"
    refine ⟨j, rfl, hj, fun t ns H1 s1 hj1 hns ht => ?_⟩
    walk_at "w"
    refine ⟨t, _, rfl, .inr ht, fun l hl => ?_⟩
    have s2 := s1.u (o := .lst (ns.map V.int)) hl
    have hj2 := hj1.at (sameU (o := .lst (ns.map V.int)) hl)
    have h2 := upd_same (H := H1) (a := l) (o := .lst (ns.map V.int))
    generalize upd H1 l (.lst (ns.map V.int)) = H2 at s2 hj2 h2
    walk_at "w"
    refine ⟨le_line (by simp), fun p hp => ?_⟩
    have s3 := s2.u (o := .lst [.int 0, .int 0]) hp
    have hj3 := hj2.at (sameU (o := .lst [.int 0, .int 0]) hp)
    have h3 := sameU (o := .lst [.int 0, .int 0]) hp _ _ h2
    have h3' := upd_same (H := H2) (a := p) (o := .lst [.int 0, .int 0])
    generalize upd H2 p (.lst [.int 0, .int 0]) = H3 at s3 hj3 h3 h3'
    have hle := hns.le
    have hpos := hns.pos
    refine ⟨l, p, _, _, rfl, rfl, h3, h3', le_line (by rw [List.length_map]; show _ + 2 ≤ 1000; omega), fun f0 hf0 => ?_⟩
    rw [show ns.map V.int ++ [.int 0, .int 0] = (ns ++ [0, 0]).map V.int from by rw [List.map_append]; rfl]
    have s4 := s3.u (o := .lst ((ns ++ [0, 0]).map V.int)) hf0
    have hj4 := hj3.at (sameU (o := .lst ((ns ++ [0, 0]).map V.int)) hf0)
    have h4 := upd_same (H := H3) (a := f0) (o := .lst ((ns ++ [0, 0]).map V.int))
    generalize upd H3 f0 (.lst ((ns ++ [0, 0]).map V.int)) = H4 at s4 hj4 h4
    obtain ⟨l0, hl0, hb0, el0⟩ : ∃ l0 : List Int, (3 ≤ l0.length ∧ l0.length ≤ 6) ∧ BdK 1 l0 ∧ ns ++ [0, 0] = l0 := ⟨_, by simp; omega, bdK_of (fun n hn => by
      rcases List.mem_append.mp hn with h | h
      · exact hns.ok n h
      · simp only [List.mem_cons, List.not_mem_nil, or_false, or_self] at h
        omega), rfl⟩
    rw [el0] at h4
    clear el0
    walk_at "w"
    refine w_rlenL (sqL h4) ?_
    rw [List.length_map]
    walk_at "w"
    rw [if_neg (show ¬ (13 < ((l0.length : Nat) : Int)) by omega), if_pos (show ((l0.length : Nat) : Int) > 2 by omega)]
    refine w_slL (sqL h4) fun f hf => ?_
    rw [cut_upto, List.take_of_length_le (by rw [List.length_map]; exact Nat.le_refl _)]
    have s5 := s4.u (o := .lst (l0.map V.int)) hf
    have hj5 := hj4.at (sameU (o := .lst (l0.map V.int)) hf)
    have h5 := upd_same (H := H4) (a := f) (o := .lst (l0.map V.int))
    have hfj : f ≠ j := hj4.some hf
    have hf0' : H f = none := s4.free hfj hf
    generalize upd H4 f (.lst (l0.map V.int)) = H5 at s5 hj5 h5
    have jset : ∀ {H : Hp} {o : HO}, JarAt H j → JarAt (upd H f o) j := fun {H o} hj => by
      obtain ⟨a, b, c, e1, e2⟩ := hj
      exact ⟨a, b, c, by rw [upd_ne (Ne.symm hfj)]; exact e1, e2⟩
    obtain ⟨x1, hx1⟩ := get_lt (l := l0) (i := 1) (by omega)
    have bx1 := hb0 1 x1 hx1
    walk_at "w"
    refine w_ixL (sqL h5) (ix_int hx1) ?_
    walk_at "w"
    refine w_I (show CPow 10 29 from ⟨by decide, by decide, by decide⟩) ?_
    walk_at "w"
    have half : ∀ x : Int, (if x < 0 then -x else x) < 10 ^ Int.toNat 29 → -(10 ^ 29 + 3) ≤ 2 * (x / 2) ∧ 2 * (x / 2) + 1 ≤ 10 ^ 29 + 3 := fun x hx => by
      have e : (10 : Int) ^ Int.toNat 29 = 10 ^ 29 := rfl
      rw [e] at hx
      split at hx <;> omega
    refine tif_join (fun v => ∃ z : Int, v = .int z ∧ -(10 ^ 29 + 3) ≤ z ∧ z ≤ 10 ^ 29 + 3) (fun hc R' k => ?_) (fun _ R' k => ?_) ?_
    · walk_at "w"
      refine w_ixL (sqL h5) (ix_int hx1) ?_
      walk_at "w"
      refine w_div (by decide) (by decide) ?_
      walk_at "w"
      refine w_I (.inl (by decide)) ?_
      walk_at "w"
      exact k _ ⟨_, rfl, by have := half x1 hc; omega, by have := half x1 hc; omega⟩
    · exact k _ ⟨1, rfl, by decide, by decide⟩
    rintro _ ⟨v1, rfl, hv1⟩
    walk_at "w"
    refine w_setL (j := 1) h5 (by rw [List.length_map]; exact ixN_nat (i := 1) (by omega)) ?_
    rw [map_set]
    obtain ⟨l1, hl1, hb1, el1⟩ : ∃ l1 : List Int, l1.length = l0.length ∧ BdK 2 l1 ∧ l0.set 1 v1 = l1 := ⟨_, by simp, hb0.up (by decide) hv1, rfl⟩
    rw [el1]
    clear el1
    have s6 := s5.w (o := .lst (l1.map V.int)) hf0'
    have hj6 := jset (o := .lst (l1.map V.int)) hj5
    have h6 := upd_same (H := H5) (a := f) (o := .lst (l1.map V.int))
    generalize upd H5 f (.lst (l1.map V.int)) = H6 at s6 hj6 h6
    walk_at "w"
    refine w_rlenL (sqL h6) ?_
    rw [List.length_map]
    walk_at "w"
    refine ⟨2, _, rfl, by omega, for_rng2 (n := l1.length - 2) (by omega) (fun i σ H' => SX j H H' ∧ JarAt H' j ∧ ∃ l : List Int, ∃ z, l.length = l1.length ∧ BdK (2 + i) l ∧ σ = [some (.ref j), some (.int 4), some (.ref f), z] ∧ H' f = some (.lst (l.map V.int))) ⟨s6, hj6, l1, _, rfl, hb1, rfl, h6⟩ ?_ ?_⟩
    · rintro i σ H' hi ⟨s7, hj7, l, z, hl, hb, rfl, h7⟩
      obtain ⟨x, hx⟩ := get_lt (l := l) (i := 2 + i) (by omega)
      have e2 : (2 : Int) + (i : Int) = ((2 + i : Nat) : Int) := by omega
      walk_at "w"
      rw [e2]
      refine w_ixL (sqL h7) (ix_int hx) ?_
      walk_at "w"
      refine w_I (show CPow 10 29 from ⟨by decide, by decide, by decide⟩) ?_
      walk_at "w"
      refine tif_join (fun v => ∃ z : Int, v = .int z ∧ -(10 ^ 29 + 3) ≤ z ∧ z ≤ 10 ^ 29 + 3) (fun hc R' k => ?_) (fun _ R' k => ?_) ?_
      · walk_at "w"
        refine w_ixL (sqL h7) (ix_int hx) ?_
        walk_at "w"
        refine w_div (by decide) (by decide) ?_
        walk_at "w"
        refine w_I (.inl (by decide)) ?_
        exact k _ ⟨_, rfl, by have := half x hc; omega, by have := half x hc; omega⟩
      · exact k _ ⟨4, rfl, by decide, by decide⟩
      rintro _ ⟨v2, rfl, hv2⟩
      walk_at "w"
      refine w_setL h7 (by rw [List.length_map]; exact ixN_nat (i := 2 + i) (by omega)) ?_
      rw [map_set]
      exact ⟨s7.w hf0', jset hj7, l.set (2 + i) v2, _, by simp [hl], by rw [show 2 + (i + 1) = 2 + i + 1 from by omega]; exact hb.up (by omega) hv2, rfl, upd_same⟩
    · rintro σ H' ⟨s7, hj7, l, z, hl, hb, rfl, h7⟩
      rw [show 2 + (l1.length - 2) = l1.length from by omega, ← hl] at hb
      replace hb := hb.all
      with_reducible refine w_seq ?_
      refine stm_join (fun σ H' => SX j H H' ∧ JarAt H' j ∧ ∃ l : List Int, ∃ z, l.length = l1.length ∧ BdB 4 l ∧ σ = [some (.ref j), some (.int 4), some (.ref f), z] ∧ H' f = some (.lst (l.map V.int))) (fun D' kk => ?_) ?_
      · walk_at "w"
        refine w_rlenL (sqL h7) ?_
        rw [List.length_map]
        walk_at "w"
        refine if_d (fun d1 => ?_) (fun d1 => ?_)
        · walk_at "w"
          refine ⟨j, 2, rfl, hj7, by decide, fun r H8 r0 r2 s8 hj8 => ?_⟩
          have h8 := s8 _ _ hfj h7
          walk_at "w"
          refine if_d (fun d2 => ?_) (fun d2 => ?_)
          · obtain ⟨xa, hxa⟩ := get_lt (l := l) (i := 2) (by omega)
            obtain ⟨xb, hxb⟩ := get_lt (l := l) (i := 4) (by omega)
            have ba := (hb 2 xa hxa).2 (by decide)
            have bb := (hb 4 xb hxb).2 (by decide)
            walk_at "w"
            refine w_ixL (sqL h8) (ix_int hxa) ?_
            walk_at "w"
            refine w_ixL (sqL h8) (ix_int hxb) ?_
            walk_at "w"
            refine ⟨le_line (by simp), fun p9 hp9 => ?_⟩
            have h9 := sameU (o := .tup [.int (xa + 1), .int (xb - 1)]) hp9 _ _ h8
            refine ⟨p9, _, rfl, sqTu, rfl, .int (xa + 1), [.int (xb - 1)], rfl, ?_⟩
            walk_at "w"
            refine w_setL h9 (by rw [List.length_map]; exact ixN_nat (i := 2) (by omega)) ?_
            rw [map_set]
            refine ⟨.int (xb - 1), [], rfl, ?_⟩
            walk_at "w"
            refine w_setL upd_same (by rw [List.length_map, List.length_set]; exact ixN_nat (i := 4) (by omega)) ?_
            rw [map_set, upd_upd]
            refine ⟨rfl, ?_⟩
            exact kk _ _ ⟨((s7.trans s8).u hp9).w hf0', jset (hj8.at (sameU hp9)), _, _, by simp [hl], ((hb.mono (by decide)).set (by decide) (by decide) (by omega)).set (by decide) (by decide) (by omega), rfl, upd_same⟩
          · walk_at "w"
            exact kk _ _ ⟨s7.trans s8, hj8, l, _, hl, hb.mono (by decide), rfl, h8⟩
        · walk_at "w"
          exact kk _ _ ⟨s7, hj7, l, _, hl, hb.mono (by decide), rfl, h7⟩
      clear hb h7 hj7 s7 hl
      rintro σ H' ⟨s7, hj7, l, z, hl, hb, rfl, h7⟩
      with_reducible refine w_seq ?_
      refine stm_join (fun σ H' => SX j H H' ∧ JarAt H' j ∧ ∃ l : List Int, ∃ z, l.length = l1.length ∧ BdB 5 l ∧ σ = [some (.ref j), some (.int 4), some (.ref f), z] ∧ H' f = some (.lst (l.map V.int))) (fun D' kk => ?_) ?_
      · walk_at "w"
        refine w_rlenL (sqL h7) ?_
        rw [List.length_map]
        walk_at "w"
        refine if_d (fun d1 => ?_) (fun d1 => ?_)
        · walk_at "w"
          refine ⟨j, 2, rfl, hj7, by decide, fun r H8 r0 r2 s8 hj8 => ?_⟩
          have h8 := s8 _ _ hfj h7
          walk_at "w"
          refine if_d (fun d2 => ?_) (fun d2 => ?_)
          · obtain ⟨xa, hxa⟩ := get_lt (l := l) (i := 3) (by omega)
            obtain ⟨xb, hxb⟩ := get_lt (l := l) (i := 5) (by omega)
            have ba := (hb 3 xa hxa).2 (by decide)
            have bb := (hb 5 xb hxb).2 (by decide)
            walk_at "w"
            refine w_ixL (sqL h8) (ix_int hxa) ?_
            walk_at "w"
            refine w_ixL (sqL h8) (ix_int hxb) ?_
            walk_at "w"
            refine ⟨le_line (by simp), fun p9 hp9 => ?_⟩
            have h9 := sameU (o := .tup [.int (xa - 1), .int (xb + 1)]) hp9 _ _ h8
            refine ⟨p9, _, rfl, sqTu, rfl, .int (xa - 1), [.int (xb + 1)], rfl, ?_⟩
            walk_at "w"
            refine w_setL h9 (by rw [List.length_map]; exact ixN_nat (i := 3) (by omega)) ?_
            rw [map_set]
            refine ⟨.int (xb + 1), [], rfl, ?_⟩
            walk_at "w"
            refine w_setL upd_same (by rw [List.length_map, List.length_set]; exact ixN_nat (i := 5) (by omega)) ?_
            rw [map_set, upd_upd]
            refine ⟨rfl, ?_⟩
            exact kk _ _ ⟨((s7.trans s8).u hp9).w hf0', jset (hj8.at (sameU hp9)), _, _, by simp [hl], ((hb.mono (by decide)).set (by decide) (by decide) (by omega)).set (by decide) (by decide) (by omega), rfl, upd_same⟩
          · walk_at "w"
            exact kk _ _ ⟨s7.trans s8, hj8, l, _, hl, hb.mono (by decide), rfl, h8⟩
        · walk_at "w"
          exact kk _ _ ⟨s7, hj7, l, _, hl, hb.mono (by decide), rfl, h7⟩
      clear hb h7 hj7 s7 hl
      rintro σ H' ⟨s7, hj7, l, z, hl, hb, rfl, h7⟩
      walk_at "w"
      refine ⟨f, l, rfl, sqL h7, by omega, fun t ms H9 s9 hp hm hlast ht => ?_⟩
      have := hp.length_le
      refine q t ms _ (s7.trans (sxS s9)) (hj7.at s9) ⟨⟨hm, by omega, fun n hn => ?_, hlast⟩, fun i x hx h1 => ?_⟩ ht
      · obtain ⟨i, hi, e⟩ := List.mem_iff_getElem.mp (hp.subset hn)
        exact (hb i n (by rw [List.getElem?_eq_getElem hi, e])).1
      · obtain ⟨rest, hr⟩ := hp
        have hi := (List.getElem?_eq_some_iff.mp hx).1
        exact (hb i x (by rw [← hr, List.getElem?_append_left hi]; exact hx)).2 h1
end


section
variable {w : World} {K : PySem.W.Frag} {mg : Str → Option Value} {base : Heap}
theorem sc_law_ring_numbers : FnScope ns_law_ring_numbers ps_law_ring_numbers (defScope s_law_ring_numbers) := ⟨rfl, rfl, rfl, by decide +kernel, rfl, by decide +kernel, by decide +kernel⟩
def sp_law_ring_numbers (K : PySem.W.Frag) : Sp := fun vs H Q _ => ∃ (j : Addr), vs = [.ref j, .int 4] ∧ JarAt H j ∧ ∀ t ns H', SX j H H' → JarAt H' j → NumsM 9 ns → SqT K H' t (ns.map V.int) → Q (.ref t) H'
theorem ok_law_ring_numbers (T : Txt w K mg) : Has PP w K mg base d_law_ring_numbers 5 ps_law_ring_numbers (sp_law_ring_numbers K) := by
  refine mkHas T.f_law_ring_numbers sc_law_ring_numbers (fun _ _ _ _ _ _ us hl => match us, hl with | [_, _], _ => rfl) (fun vs H Q E h => ?_) (fun cdv A outer s H vs Q E hr h => ⟨_, (pss_cons (ps_set (i := 2) sc_law_ring_numbers.nd rfl (Or.inl rfl) (pe_op op_cat (pe_callTy ca_list rfl T.n_list boot_list (pa_cons (cF (ok_law_shuffle_numbers T) (hr.mono (by decide)) T.g_law_shuffle_numbers (pa_cons (pv 0) (pa_cons (pv 1) pa_nil))) pa_nil)) (pe_lst (pa_cons pe_int (pa_cons pe_int (pa_cons pe_int pa_nil))))))
 (pss_cons (ps_set (i := 2) sc_law_ring_numbers.nd rfl (Or.inl rfl) (pe_slice sl_list (pv 2) po_none (po_some pe_int)))
 (pss_cons (ps_asg (pe_ifExp (pt_cmpR op_lt (pe_callB ca_abs rfl T.n_abs (by kernel_rfl) (pa_cons (pe_ix (r := rIxL K) ix_list (pv 2) pe_int (fun _ _ => rfl)) pa_nil)) (pe_op op_pow pe_int pe_int) (nomark _)) (pe_op op_add (pe_op op_mul pe_int (pe_op op_fdiv (pe_ix (r := rIxL K) ix_list (pv 2) pe_int (fun _ _ => rfl)) pe_int)) pe_int) pe_int) (pg_sub (pv 2) pe_int set_list))
 (pss_cons (ps_set (i := 3) sc_law_ring_numbers.nd rfl (Or.inl rfl) (pe_op op_mod (pe_callTy ca_int1 rfl T.n_int boot_int (pa_cons (pe_op op_sub (pe_callB (cr_sum rfl) rfl T.n_sum (by kernel_rfl) (pa_cons (pe_stp2 (a := 5) (pv 2)) pa_nil)) (pe_op op_mul pe_int (pe_ix (r := rIxL K) ix_list (pv 2) pe_int (fun _ _ => rfl)))) pa_nil)) pe_int))
 (pss_cons (ps_asg (pe_op op_sub (pe_ix (r := rIxL K) ix_list (pv 2) pe_int (fun _ _ => rfl)) (pe_op op_mod (pe_callTy ca_int1 rfl T.n_int boot_int (pa_cons (pe_op op_add (pe_ix (r := rIxL K) ix_list (pv 2) pe_int (fun _ _ => rfl)) (pv 3)) pa_nil)) pe_int)) (pg_sub (pv 2) pe_int set_list))
 (pss_cons (ps_asg (pe_op op_sub (pe_ix (r := rIxL K) ix_list (pv 2) pe_int (fun _ _ => rfl)) (pe_op op_mod (pe_callTy ca_int1 rfl T.n_int boot_int (pa_cons (pe_op op_sub (pe_op op_sub (pe_op op_add (pe_ix (r := rIxL K) ix_list (pv 2) pe_int (fun _ _ => rfl)) (pe_ix (r := rIxL K) ix_list (pv 2) pe_int (fun _ _ => rfl))) pe_int) (pe_callB (cr_sum rfl) rfl T.n_sum (by kernel_rfl) (pa_cons (pe_stp2 (a := 4) (pv 2)) pa_nil))) pa_nil)) pe_int)) (pg_sub (pv 2) pe_int set_list))
 (pss_one (ps_ret (cF (ok_law_cut T) (hr.mono (by decide)) T.g_law_cut (pa_cons (pv 2) pa_nil)))))))))), ?_⟩)
  · obtain ⟨j, rfl, _⟩ := h
    rfl
  · obtain ⟨j, rfl, hj, q⟩ := h
    walk_at "w"
    refine ⟨j, rfl, hj, fun t ns H1 s1 hj1 hns ht => ?_⟩
    walk_at "w"
    refine ⟨t, _, rfl, .inr ht, fun l hl => ?_⟩
    have s2 := s1.u (o := .lst (ns.map V.int)) hl
    have hj2 := hj1.at (sameU (o := .lst (ns.map V.int)) hl)
    have h2 := upd_same (H := H1) (a := l) (o := .lst (ns.map V.int))
    generalize upd H1 l (.lst (ns.map V.int)) = H2 at s2 hj2 h2
    walk_at "w"
    refine ⟨le_line (by simp), fun p hp => ?_⟩
    have s3 := s2.u (o := .lst [.int 0, .int 0, .int 0]) hp
    have hj3 := hj2.at (sameU (o := .lst [.int 0, .int 0, .int 0]) hp)
    have h3 := sameU (o := .lst [.int 0, .int 0, .int 0]) hp _ _ h2
    have h3' := upd_same (H := H2) (a := p) (o := .lst [.int 0, .int 0, .int 0])
    generalize upd H2 p (.lst [.int 0, .int 0, .int 0]) = H3 at s3 hj3 h3 h3'
    have hle := hns.n.le
    have hpos := hns.n.pos
    refine ⟨l, p, _, _, rfl, rfl, h3, h3', le_line (by rw [List.length_map]; show _ + 3 ≤ 1000; omega), fun f0 hf0 => ?_⟩
    rw [show ns.map V.int ++ [.int 0, .int 0, .int 0] = (ns ++ [0, 0, 0]).map V.int from by rw [List.map_append]; rfl]
    have s4 := s3.u (o := .lst ((ns ++ [0, 0, 0]).map V.int)) hf0
    have hj4 := hj3.at (sameU (o := .lst ((ns ++ [0, 0, 0]).map V.int)) hf0)
    have h4 := upd_same (H := H3) (a := f0) (o := .lst ((ns ++ [0, 0, 0]).map V.int))
    generalize upd H3 f0 (.lst ((ns ++ [0, 0, 0]).map V.int)) = H4 at s4 hj4 h4
    obtain ⟨l0, hl0, hb0, el0⟩ : ∃ l0 : List Int, (4 ≤ l0.length ∧ l0.length ≤ 9) ∧ BdB 5 l0 ∧ ns ++ [0, 0, 0] = l0 := ⟨_, by simp; omega, fun i x e => by
      by_cases c : i < ns.length
      · rw [List.getElem?_append_left c] at e
        exact ⟨hns.n.ok x (List.mem_of_getElem? e), hns.s i x e⟩
      · rw [List.getElem?_append_right (by omega)] at e
        have := List.mem_of_getElem? e
        simp only [List.mem_cons, List.not_mem_nil, or_false, or_self] at this
        subst this
        exact ⟨by decide, fun _ => by decide⟩, rfl⟩
    rw [el0] at h4
    clear el0
    walk_at "w"
    refine w_slL (sqL h4) fun f hf => ?_
    have e13 := cut_upto (l0.map V.int) 13
    rw [show ((13 : Nat) : Int) = 13 from rfl] at e13
    rw [e13, List.take_of_length_le (by rw [List.length_map]; omega)]
    have s5 := s4.u (o := .lst (l0.map V.int)) hf
    have hj5 := hj4.at (sameU (o := .lst (l0.map V.int)) hf)
    have h5 := upd_same (H := H4) (a := f) (o := .lst (l0.map V.int))
    have hfj : f ≠ j := hj4.some hf
    have hf0' : H f = none := s4.free hfj hf
    generalize upd H4 f (.lst (l0.map V.int)) = H5 at s5 hj5 h5
    have jset : ∀ {H : Hp} {o : HO}, JarAt H j → JarAt (upd H f o) j := fun {H o} hj => by
      obtain ⟨a, b, c, e1, e2⟩ := hj
      exact ⟨a, b, c, by rw [upd_ne (Ne.symm hfj)]; exact e1, e2⟩
    obtain ⟨x0, hx0⟩ := get_lt (l := l0) (i := 0) (by omega)
    obtain ⟨x1, hx1⟩ := get_lt (l := l0) (i := 1) (by omega)
    obtain ⟨x2, hx2⟩ := get_lt (l := l0) (i := 2) (by omega)
    obtain ⟨x3, hx3⟩ := get_lt (l := l0) (i := 3) (by omega)
    have bx1 := (hb0 1 x1 hx1).2 (by decide)
    have bx3 := (hb0 3 x3 hx3).2 (by decide)
    walk_at "w"
    refine w_ixL (sqL h5) (ix_int hx0) ?_
    walk_at "w"
    refine w_I (show CPow 10 29 from ⟨by decide, by decide, by decide⟩) ?_
    walk_at "w"
    have half : ∀ x : Int, (if x < 0 then -x else x) < 10 ^ Int.toNat 29 → -(10 ^ 29 + 3) ≤ 2 * (x / 2) ∧ 2 * (x / 2) + 1 ≤ 10 ^ 29 + 3 := fun x hx => by
      have e : (10 : Int) ^ Int.toNat 29 = 10 ^ 29 := rfl
      rw [e] at hx
      split at hx <;> omega
    refine tif_join (fun v => ∃ z : Int, v = .int z ∧ -(10 ^ 29 + 3) ≤ z ∧ z ≤ 10 ^ 29 + 3) (fun hc R' k => ?_) (fun _ R' k => ?_) ?_
    · walk_at "w"
      refine w_ixL (sqL h5) (ix_int hx0) ?_
      walk_at "w"
      refine w_div (by decide) (by decide) ?_
      walk_at "w"
      refine w_I (.inl (by decide)) ?_
      walk_at "w"
      exact k _ ⟨_, rfl, by have := half x0 hc; omega, by have := half x0 hc; omega⟩
    · exact k _ ⟨1, rfl, by decide, by decide⟩
    rintro _ ⟨v0, rfl, hv0⟩
    walk_at "w"
    refine w_setL (j := 0) h5 (by rw [List.length_map]; exact ixN_nat (i := 0) (by omega)) ?_
    rw [map_set]
    have hb1 : ∀ n ∈ l0.set 0 v0, -10 ^ 30 ≤ n ∧ n ≤ 10 ^ 30 := fun n hn => by
      rcases List.mem_or_eq_of_mem_set hn with h | h
      · obtain ⟨i, hi, e⟩ := List.mem_iff_getElem.mp h
        exact (hb0 i n (by rw [List.getElem?_eq_getElem hi, e])).1
      · subst h; omega
    have hy1 : (l0.set 0 v0)[1]? = some x1 := by rw [List.getElem?_set_ne (by decide)]; exact hx1
    have hy2 : (l0.set 0 v0)[2]? = some x2 := by rw [List.getElem?_set_ne (by decide)]; exact hx2
    have hy3 : (l0.set 0 v0)[3]? = some x3 := by rw [List.getElem?_set_ne (by decide)]; exact hx3
    have hl1 : (l0.set 0 v0).length = l0.length := by simp
    generalize l0.set 0 v0 = l1 at hb1 hy1 hy2 hy3 hl1
    have s6 := s5.w (o := .lst (l1.map V.int)) hf0'
    have hj6 := jset (o := .lst (l1.map V.int)) hj5
    have h6 := upd_same (H := H5) (a := f) (o := .lst (l1.map V.int))
    generalize upd H5 f (.lst (l1.map V.int)) = H6 at s6 hj6 h6
    walk_at "w"
    refine w_stp2L (sqL h6) fun p7 hp7 => ?_
    rw [show (((5 : Nat) : Int)).toNat = 5 from rfl, ← List.map_drop, evs_map]
    have s7 := s6.u (o := .lst ((evs (l1.drop 5)).map V.int)) hp7
    have hj7 := hj6.at (sameU (o := .lst ((evs (l1.drop 5)).map V.int)) hp7)
    have h7 := sameU (o := .lst ((evs (l1.drop 5)).map V.int)) hp7 _ _ h6
    have h7' := upd_same (H := H6) (a := p7) (o := .lst ((evs (l1.drop 5)).map V.int))
    generalize upd H6 p7 (.lst ((evs (l1.drop 5)).map V.int)) = H7 at s7 hj7 h7 h7'
    walk_at "w"
    refine w_rsumL (sqL h7') ?_
    walk_at "w"
    refine w_ixL (sqL h7) (ix_int hy2) ?_
    walk_at "w"
    refine w_I (.inl (by decide)) ?_
    walk_at "w"
    refine w_I (by decide) ?_
    walk_at "w"
    refine w_ixL (sqL h7) (ix_int hy3) ?_
    walk_at "w"
    refine w_ixL (sqL h7) (ix_int hy3) ?_
    walk_at "w"
    refine w_I (by decide) ?_
    walk_at "w"
    generalize ((evs (l1.drop 5)).sum - 2 * x2) % 4 = gap
    refine w_setL (j := 3) h7 (by rw [List.length_map]; exact ixN_nat (i := 3) (by omega)) ?_
    rw [map_set]
    have hb2 : ∀ n ∈ l1.set 3 (x3 - (x3 + gap) % 4), -10 ^ 30 ≤ n ∧ n ≤ 10 ^ 30 := fun n hn => by
      rcases List.mem_or_eq_of_mem_set hn with h | h
      · exact hb1 n h
      · subst h
        have := Int.emod_nonneg (x3 + gap) (show (4 : Int) ≠ 0 by decide)
        have := Int.emod_lt_of_pos (x3 + gap) (show (0 : Int) < 4 by decide)
        omega
    have hz1 : (l1.set 3 (x3 - (x3 + gap) % 4))[1]? = some x1 := by rw [List.getElem?_set_ne (by decide)]; exact hy1
    have hz2 : (l1.set 3 (x3 - (x3 + gap) % 4))[2]? = some x2 := by rw [List.getElem?_set_ne (by decide)]; exact hy2
    have hl2 : (l1.set 3 (x3 - (x3 + gap) % 4)).length = l0.length := by simp [hl1]
    generalize l1.set 3 (x3 - (x3 + gap) % 4) = l2 at hb2 hz1 hz2 hl2
    have s8 := s7.w (o := .lst (l2.map V.int)) hf0'
    have hj8 := jset (o := .lst (l2.map V.int)) hj7
    have h8 := upd_same (H := H7) (a := f) (o := .lst (l2.map V.int))
    generalize upd H7 f (.lst (l2.map V.int)) = H8 at s8 hj8 h8
    walk_at "w"
    refine w_ixL (sqL h8) (ix_int hz1) ?_
    walk_at "w"
    refine w_ixL (sqL h8) (ix_int hz1) ?_
    walk_at "w"
    refine w_ixL (sqL h8) (ix_int hz2) ?_
    walk_at "w"
    refine w_stp2L (sqL h8) fun p9 hp9 => ?_
    rw [show (((4 : Nat) : Int)).toNat = 4 from rfl, ← List.map_drop, evs_map]
    have s9 := s8.u (o := .lst ((evs (l2.drop 4)).map V.int)) hp9
    have hj9 := hj8.at (sameU (o := .lst ((evs (l2.drop 4)).map V.int)) hp9)
    have h9 := sameU (o := .lst ((evs (l2.drop 4)).map V.int)) hp9 _ _ h8
    have h9' := upd_same (H := H8) (a := p9) (o := .lst ((evs (l2.drop 4)).map V.int))
    generalize upd H8 p9 (.lst ((evs (l2.drop 4)).map V.int)) = H9 at s9 hj9 h9 h9'
    walk_at "w"
    refine w_rsumL (sqL h9') ?_
    walk_at "w"
    refine w_I (by decide) ?_
    walk_at "w"
    generalize x1 + x2 - 1 - (evs (l2.drop 4)).sum = gp
    refine w_setL (j := 1) h9 (by rw [List.length_map]; exact ixN_nat (i := 1) (by omega)) ?_
    rw [map_set]
    have hb3 : ∀ n ∈ l2.set 1 (x1 - gp % 4), -10 ^ 30 ≤ n ∧ n ≤ 10 ^ 30 := fun n hn => by
      rcases List.mem_or_eq_of_mem_set hn with h | h
      · exact hb2 n h
      · subst h
        have := Int.emod_nonneg gp (show (4 : Int) ≠ 0 by decide)
        have := Int.emod_lt_of_pos gp (show (0 : Int) < 4 by decide)
        omega
    have hl3 : (l2.set 1 (x1 - gp % 4)).length = l0.length := by simp [hl2]
    generalize l2.set 1 (x1 - gp % 4) = l3 at hb3 hl3
    walk_at "w"
    refine ⟨f, l3, rfl, sqLu, by omega, fun t ms H10 s10 hp hm hlast ht => ?_⟩
    have := hp.length_le
    exact q t ms _ ((s9.w hf0').trans (sxS s10)) ((jset hj9).at s10) ⟨hm, by omega, fun n hn => hb3 n (hp.subset hn), hlast⟩ ht
theorem sc_law_numbers : FnScope ns_law_numbers ps_law_numbers (defScope s_law_numbers) := ⟨rfl, rfl, rfl, by decide +kernel, rfl, by decide +kernel, by decide +kernel⟩
def sp_law_numbers (K : PySem.W.Frag) : Sp := fun vs H Q _ => ∃ (j : Addr), vs = [.ref j, .int 4] ∧ JarAt H j ∧ ∀ t ns H', SX j H H' → JarAt H' j → NumsM 9 ns → SqT K H' t (ns.map V.int) → Q (.ref t) H'
theorem ok_law_numbers (T : Txt w K mg) : Has PP w K mg base d_law_numbers 6 ps_law_numbers (sp_law_numbers K) := by
  refine mkHas T.f_law_numbers sc_law_numbers (fun _ _ _ _ _ _ us hl => match us, hl with | [_, _], _ => rfl) (fun vs H Q E h => ?_) (fun cdv A outer s H vs Q E hr h => ⟨_, (pss_cons (ps_set (i := 2) sc_law_numbers.nd rfl (Or.inl rfl) (cF (ok_law_dip T) (hr.mono (by decide)) T.g_law_dip (pa_cons (pv 0) (pa_cons pe_int pa_nil))))
 (pss_cons (ps_if (pt_cmpR op_eq (pv 2) pe_int (nomark _)) (pss_one (ps_ret (cF (ok_law_any_numbers T) (hr.mono (by decide)) T.g_law_any_numbers (pa_cons (pv 0) (pa_cons (pv 1) pa_nil))))) pss_nil)
 (pss_one (ps_ret (pe_ifExp (pt_cmpR op_eq (pv 2) pe_int (nomark _)) (cF (ok_law_shuffle_numbers T) (hr.mono (by decide)) T.g_law_shuffle_numbers (pa_cons (pv 0) (pa_cons (pv 1) pa_nil))) (cF (ok_law_ring_numbers T) (hr.mono (by decide)) T.g_law_ring_numbers (pa_cons (pv 0) (pa_cons (pv 1) pa_nil)))))))), ?_⟩)
  · obtain ⟨j, rfl, _⟩ := h
    rfl
  · obtain ⟨j, rfl, hj, q⟩ := h
    walk_at "w"
    refine ⟨j, 3, rfl, hj, by decide, fun r H1 r0 r1 s1 hj1 => ?_⟩
    walk_at "w"
    refine if_d (fun c => ?_) (fun c => ?_)
    · walk_at "w"
      exact ⟨j, rfl, hj1, fun t ns H2 s2 hj2 hn ht => q t ns _ (s1.trans s2) hj2 (hn.mono (by decide)) ht⟩
    · walk_at "w"
      refine if_d (fun c => ?_) (fun c => ?_)
      · walk_at "w"
        exact ⟨j, rfl, hj1, fun t ns H2 s2 hj2 hn ht => q t ns _ (s1.trans s2) hj2 (hn.n.mono (by decide)) ht⟩
      · walk_at "w"
        exact ⟨j, rfl, hj1, fun t ns H2 s2 hj2 hn ht => q t ns _ (s1.trans s2) hj2 hn ht⟩
end


theorem valOf_snoc (l : List Int) (z x : Int) : valOf (l ++ [z]) x = valOf l x + z * x ^ l.length := by
  induction l with
  | nil => simp [valOf]
  | cons a l ih =>
    rw [List.cons_append, valOf_cons, valOf_cons, ih, Int.add_mul, List.length_cons, Int.pow_succ, Int.mul_assoc]
    omega
theorem pow_small {x : Int} (h : 0 ≤ x ∧ x < 32) : ∀ i : Nat, 0 ≤ x ^ i ∧ x ^ i ≤ 32 ^ i
  | 0 => by simp
  | i + 1 => by
    obtain ⟨h1, h2⟩ := pow_small h i
    rw [Int.pow_succ, Int.pow_succ]
    exact ⟨Int.mul_nonneg h1 h.1, Int.mul_le_mul h2 (by omega) h.1 (by omega)⟩
theorem pow_small2 {x : Int} (h : 0 ≤ x ∧ x < 32) {i : Nat} (hi : i ≤ 12) : -(2 ^ 64) < x ^ i ∧ x ^ i < 2 ^ 64 := by
  obtain ⟨h1, h2⟩ := pow_small h i
  have h3 : (32 : Int) ^ i = ((32 ^ i : Nat) : Int) := by simp
  have h4 : (32 : Nat) ^ i ≤ 32 ^ 12 := Nat.pow_le_pow_right (by decide) hi
  have h5 : (32 : Nat) ^ 12 < 2 ^ 64 := by decide
  omega
section
variable {w : World} {K : PySem.W.Frag} {mg : Str → Option Value} {base : Heap}
theorem sc_law_value : FnScope ns_law_value ps_law_value (defScope s_law_value) := ⟨rfl, rfl, rfl, by decide +kernel, rfl, by decide +kernel, by decide +kernel⟩
def sp_law_value (K : PySem.W.Frag) : Sp := fun vs H Q _ => ∃ (t : Addr) (ns : List Int) (x : Int), vs = [.ref t, .int x] ∧ SqT K H t (ns.map V.int) ∧ ns.length ≤ 13 ∧ (0 ≤ x ∧ x < 32) ∧ ∀ H', Same H H' → Q (.int (valOf ns x)) H'
theorem ok_law_value (T : Txt w K mg) : Has PP w K mg base d_law_value 1 ps_law_value (sp_law_value K) := by
  refine mkHas T.f_law_value sc_law_value (fun _ _ _ _ _ _ us hl => match us, hl with | [_, _], _ => rfl) (fun vs H Q E h => ?_) (fun cdv A outer s H vs Q E hr h => ⟨_, (pss_cons (ps_asg (pe_tup (pa_cons pe_int (pa_cons pe_int pa_nil))) (pg_tup rfl (pgs_cons (pg_name (i := 2) sc_law_value.nd rfl (Or.inl rfl)) (pgs_cons (pg_name (i := 3) sc_law_value.nd rfl (Or.inl rfl)) pgs_nil))))
 (pss_cons (ps_for (passes_of rfl) rfl (pi_tup (pv 0)) (pg_name (i := 4) sc_law_value.nd rfl (Or.inl rfl))
 (pss_one (ps_par (i := 2) (j := 3) rfl sc_law_value.nd rfl rfl (by decide) rfl rfl (pa_cons (pe_op op_add (pv 2) (pe_op op_mul (pv 4) (pv 3))) (pa_cons (pe_op op_mul (pv 3) (pv 1)) pa_nil)) rfl)))
 (pss_one (ps_ret (pv 2))))), ?_⟩)
  · obtain ⟨t, ns, x, rfl, _⟩ := h
    rfl
  · obtain ⟨t, ns, x, rfl, ht, hn, hx, q⟩ := h
    walk_at "w"
    refine ⟨le_line (by simp), fun p hp => w_tg2 rfl sqTu ?_⟩
    have s1 := sameU (o := .tup [.int 0, .int 1]) hp
    generalize upd H p (.tup [.int 0, .int 1]) = H1 at s1
    walk_at "w"
    refine ⟨t, rfl, ⟨_, s1.tq ht⟩, for_tup (xs := ns.map V.int) (fun i σ H' => Same H1 H' ∧ ∃ z, σ = [some (.ref t), some (.int x), some (.int (valOf (ns.take i) x)), some (.int (x ^ i)), z]) ⟨Same.refl _, _, by rw [Int.pow_zero]; rfl⟩ (fun i σ H' _ q => q.1.tq (s1.tq ht)) ?_ ?_⟩
    · rintro i v σ H' hv ⟨s2, z, rfl⟩
      obtain ⟨y, hy, rfl⟩ := mapInt_at hv
      have hi := (List.getElem?_eq_some_iff.mp hy).1
      walk_at "w"
      refine w_I (.inr (pow_small2 hx (by omega))) ?_
      walk_at "w"
      refine w_I (.inr (by omega)) ?_
      walk_at "w"
      refine ⟨s2, some (.int y), ?_⟩
      rw [take_at hy, valOf_snoc, List.length_take_of_le (by omega), Int.pow_succ]
      rfl
    · rintro σ H' ⟨s2, z, rfl⟩
      rw [List.length_map, List.take_length]
      walk_at "w"
      exact q _ (s1.trans s2)
theorem sc_law_next : FnScope ns_law_next ps_law_next (defScope s_law_next) := ⟨rfl, rfl, rfl, by decide +kernel, rfl, by decide +kernel, by decide +kernel⟩
def sp_law_next (K : PySem.W.Frag) : Sp := fun vs H Q _ => ∃ (t : Addr) (ns : List Int) (n : Nat) (x : Int), vs = [.ref t, .int n, .int x] ∧ SqT K H t (ns.map V.int) ∧ ns.length ≤ 13 ∧ n ≤ 5 ∧ (0 ≤ x ∧ x < 2 ^ n) ∧ ∀ H', Same H H' → Q (.int (nx ns n x)) H'
theorem ok_law_next (T : Txt w K mg) : Has PP w K mg base d_law_next 2 ps_law_next (sp_law_next K) := by
  refine mkHas T.f_law_next sc_law_next (fun _ _ _ _ _ _ us hl => match us, hl with | [_, _, _], _ => rfl) (fun vs H Q E h => ?_) (fun cdv A outer s H vs Q E hr h => ⟨_, (pss_one (ps_ret (pe_op op_mod (pe_callTy ca_int1 rfl T.n_int boot_int (pa_cons (cF (ok_law_value T) (hr.mono (by decide)) T.g_law_value (pa_cons (pv 0) (pa_cons (pv 2) pa_nil))) pa_nil)) (cF (ok_law_size T) (hr.mono (by decide)) T.g_law_size (pa_cons (pv 1) pa_nil))))), ?_⟩)
  · obtain ⟨t, ns, n, x, rfl, _⟩ := h
    rfl
  · obtain ⟨t, ns, n, x, rfl, ht, hn, h5, hx, q⟩ := h
    have := two_pow_le (m := n) (n := 5) h5
    walk_at "w"
    refine ⟨t, ns, x, rfl, ht, hn, by omega, fun H1 s1 => ?_⟩
    walk_at "w"
    refine ⟨n, rfl, by omega, ?_⟩
    exact w_I (pow_pos2 n) (q _ s1)
def fol (ns : List Int) (n : Nat) : List Int := (List.range (2 ^ n)).map fun i => nx ns n (i : Nat)
theorem sc_law_followers : FnScope ns_law_followers ps_law_followers (defScope s_law_followers) := ⟨rfl, rfl, rfl, by decide +kernel, rfl, by decide +kernel, by decide +kernel⟩
def sp_law_followers (K : PySem.W.Frag) : Sp := fun vs H Q _ => ∃ (t : Addr) (ns : List Int) (n : Nat), vs = [.ref t, .int n] ∧ SqT K H t (ns.map V.int) ∧ ns.length ≤ 13 ∧ n ≤ 5 ∧ ∀ p H', Same H H' → H' p = some (.lst ((fol ns n).map V.int)) → Q (.ref p) H'
theorem ok_law_followers (T : Txt w K mg) : Has PP w K mg base d_law_followers 3 ps_law_followers (sp_law_followers K) := by
  refine mkHas T.f_law_followers sc_law_followers (fun _ _ _ _ _ _ us hl => match us, hl with | [_, _], _ => rfl) (fun vs H Q E h => ?_) (fun cdv A outer s H vs Q E hr h => ⟨_, (pss_one (ps_ret (pe_lc rfl sc_law_followers.nd (pi_range1 rfl T.n_range (pa_cons (cF (ok_law_size T) (hr.mono (by decide)) T.g_law_size (pa_cons (pv 1) pa_nil)) pa_nil)) (blkOk_by (own := [("_law_spot", 2)]) (N := ns_law_followers) (sc := defScope s_law_followers) (by decide +kernel)) (fun _ _ _ _ _ => pg_name (i := 2) sc_law_followers.nd rfl (Or.inl rfl)) (fun _ _ _ _ _ => pts_nil) (fun _ _ _ _ _ => (cF (ok_law_next T) (hr.mono (by decide)) T.g_law_next (pa_cons (pv 0) (pa_cons (pv 1) (pa_cons (pv 2) pa_nil)))))))), ?_⟩)
  · obtain ⟨t, ns, n, rfl, _⟩ := h
    rfl
  · obtain ⟨t, ns, n, rfl, ht, hn, h5, q⟩ := h
    have h32 : 2 ^ n ≤ 2 ^ 5 := Nat.pow_le_pow_right (by decide) h5
    have e2 : (2 : Int) ^ n = ((2 ^ n : Nat) : Int) := by simp
    walk_at "w"
    refine ⟨n, rfl, by omega, ?_⟩
    walk_at "w"
    rw [e2]
    have h0 : (0 : Int) ≤ ((2 ^ n : Nat) : Int) := Int.natCast_nonneg _
    refine ⟨((2 ^ n : Nat) : Int), rfl, by omega, by omega, ?_⟩
    rw [Int.toNat_natCast]
    refine lc_map walk_range (fun i => (List.range i).map fun (k : Nat) => V.int (nx ns n k)) rfl (fun _ _ => trivial) (fun i x H1 H' D hi hD p y => ?_) (fun D H' s1 _ hl => ?_)
    · obtain ⟨rfl, rfl⟩ := y
      refine ⟨rfl, ?_⟩
      dsimp only
      rw [Int.zero_add]
      walk_at "w"
      refine ⟨t, ns, n, i, rfl, p.1.tq ht, hn, h5, by omega, fun H2 s2 => ?_⟩
      refine p.yes hD s2 (by rw [List.length_map, List.length_range]; exact lt_line (by omega)) ?_
      rw [List.range_succ, List.map_append]
      rfl
    · refine q D _ s1 ?_
      rw [hl]
      unfold fol
      rw [List.map_map]
      rfl
theorem sc_law_path : FnScope ns_law_path ps_law_path (defScope s_law_path) := ⟨rfl, rfl, rfl, by decide +kernel, rfl, by decide +kernel, by decide +kernel⟩
def sp_law_path (K : PySem.W.Frag) : Sp := fun vs H Q _ => ∃ (t : Addr) (ns : List Int) (n : Nat) (x : Int) (L j : Nat), vs = [.ref t, .int n, .int x] ∧ SqT K H t (ns.map V.int) ∧ ns.length ≤ 13 ∧ n ≤ 5 ∧ (0 ≤ x ∧ x < 2 ^ n) ∧ Cyc ns n x L j ∧
  ∀ p q H', Same H H' → H' p = some (.lst [.ref q, .int j]) → H' q = some (.lst (orb ns n x L)) → Q (.ref p) H'
theorem ok_law_path (T : Txt w K mg) : Has PP w K mg base d_law_path 3 ps_law_path (sp_law_path K) := by
  refine mkHas T.f_law_path sc_law_path (fun _ _ _ _ _ _ us hl => match us, hl with | [_, _, _], _ => rfl) (fun vs H Q E h => ?_) (fun cdv A outer s H vs Q E hr h => ⟨_, (pss_cons (ps_par (i := 3) (j := 4) rfl sc_law_path.nd rfl rfl (by decide) rfl rfl (pa_cons (pe_lst (pa_cons (pv 2) pa_nil)) (pa_cons pe_dnewK pa_nil)) rfl)
 (pss_cons (ps_dput (hu_of hr) (pv 4) (pv 2) pe_int rfl)
 (pss_cons (ps_for (passes_of rfl) rfl (pi_range1 rfl T.n_range (pa_cons (cF (ok_law_size T) (hr.mono (by decide)) T.g_law_size (pa_cons (pv 1) pa_nil)) pa_nil)) (pg_name (i := 5) sc_law_path.nd rfl (Or.inl rfl))
 (pss_cons (ps_set (i := 6) sc_law_path.nd rfl (Or.inl rfl) (cF (ok_law_next T) (hr.mono (by decide)) T.g_law_next (pa_cons (pv 0) (pa_cons (pv 1) (pa_cons (pe_ix (r := rIxL K) ix_list (pv 3) (pe_un un_neg pe_int) (fun _ _ => rfl)) pa_nil)))))
 (pss_cons (ps_if (pt_cmp (pc_din (hu_of hr) (pv 6) (pv 4)) rfl) (pss_one (ps_ret (pe_lst (pa_cons (pv 3) (pa_cons (pe_dget (hu_of hr) (pv 4) (pv 6) (fun _ _ => rfl)) pa_nil))))) pss_nil)
 (pss_cons (ps_dput (hu_of hr) (pv 4) (pv 6) (pe_callB ca_len rfl T.n_len PySem.boot_len (pa_cons (pv 3) pa_nil)) rfl)
 (pss_one (ps_expr (pe_bm PySem.F.plainAttrs_list PySem.F.slot_list_append PySem.F.type_list_append mt_append (pv 3) (pa_cons (pv 6) pa_nil))))))))
 (pss_one (ps_ret (pe_lst (pa_cons (pv 3) (pa_cons pe_int pa_nil)))))))), ?_⟩)
  · obtain ⟨t, ns, n, x, L, j, rfl, _⟩ := h
    rfl
  · obtain ⟨t, ns, n, x, L, j, rfl, ht, hn, h5, hx, c, q⟩ := h
    have hc := c.le
    have hlt := c.lt
    have hsz := c.size hx
    have h32 : 2 ^ n ≤ 2 ^ 5 := Nat.pow_le_pow_right (by decide) h5
    have e2 : (2 : Int) ^ n = ((2 ^ n : Nat) : Int) := by simp
    walk_at "w"
    refine ⟨le_line (by simp), fun f hf => ?_⟩
    have s1 := sameU (o := .lst [.int x]) hf
    have f1 := upd_same (H := H) (a := f) (o := .lst [.int x])
    generalize upd H f (.lst [.int x]) = H1 at s1 f1
    walk_at "w"
    intro d hd
    have s2 := s1.u (o := .dK []) hd
    have f2 := sameU (o := .dK []) hd _ _ f1
    have d2 := upd_same (H := H1) (a := d) (o := .dK [])
    have hdn : H d = none := s1.free hd
    generalize upd H1 d (.dK []) = H2 at s2 f2 d2
    walk_at "w"
    refine w_dputI d2 (lt_line (by simp)) ?_
    have hfd : f ≠ d := ne_of f2 d2 (by intro z; cases z)
    have s3 := s2.w (o := .dK (putK [] (.inl x) (.int 0))) hdn
    have f3 : (upd H2 d (.dK (putK [] (.inl x) (.int 0)))) f = some (.lst [.int x]) := by rw [upd_ne hfd]; exact f2
    have d3 := upd_same (H := H2) (a := d) (o := .dK (putK [] (.inl x) (.int 0)))
    generalize upd H2 d (.dK (putK [] (.inl x) (.int 0))) = H3 at s3 f3 d3
    walk_at "w"
    refine ⟨n, rfl, by omega, ?_⟩
    walk_at "w"
    rw [e2]
    refine ⟨_, rfl, by omega, by omega, for_rng rfl (fun m σ H' => m < L ∧ Same H H' ∧ (∃ z0 z1, σ = [some (.ref t), some (.int n), some (.int x), some (.ref f), some (.ref d), z0, z1]) ∧ H' f = some (.lst (orb ns n x (m + 1))) ∧ ∃ kvs, H' d = some (.dK kvs) ∧ Known ns n x m kvs) ⟨by omega, s3, ⟨_, _, rfl⟩, f3, _, d3, by simp [putK], fun i hi => ?_, fun z hz => ?_⟩ ?_ ?_⟩
    · have : i = 0 := by omega
      subst this
      rw [valV_put]
      exact if_pos rfl
    · rw [valV_put]
      exact if_neg fun e => hz 0 (Nat.le_refl _) (Sum.inl.inj e).symm
    · rintro m σ H' hm ⟨hmL, s4, ⟨z0, z1, rfl⟩, h3, kvs, h4, kn⟩
      have hr := itn_range (ns := ns) hx m
      walk_at "w"
      refine w_ixL (sqL h3) (orb_last ..) ?_
      walk_at "w"
      refine ⟨t, ns, n, _, rfl, s4.tq ht, hn, h5, hr, fun H5 s5 => ?_⟩
      rw [show nx ns n (itn ns n m x) = itn ns n (m + 1) x from rfl]
      have h35 := s5 _ _ h3
      have h45 := s5 _ _ h4
      walk_at "w"
      refine w_dinI h45 ?_
      by_cases e : m + 1 = L
      · have e1 : valV kvs (.inl (itn ns n (m + 1) x)) = some (.int j) := by
          rw [e, c.back]
          exact kn.2.1 j (by omega)
        rw [e1, Option.isSome_some]
        walk_at "w"
        refine w_dgetI h45 e1 ?_
        walk_at "w"
        refine ⟨le_line (by simp), fun p hp => ?_⟩
        rw [e] at h35
        exact q p f _ ((s4.trans s5).u hp) upd_same (by rw [upd_ne (ne_of_none h35 hp)]; exact h35)
      · have e1 : valV kvs (.inl (itn ns n (m + 1) x)) = none := kn.2.2 _ fun i hi => c.inj i (m + 1) (by omega) (by omega)
        rw [e1, Option.isSome_none]
        walk_at "w"
        refine w_rlenL (sqL h35) ?_
        rw [orb_len]
        walk_at "w"
        refine w_dputI h45 (Nat.lt_of_le_of_lt kn.1 (lt_line (by omega))) ?_
        have s6 := (s4.trans s5).w (o := .dK (putK kvs (.inl (itn ns n (m + 1) x)) (.int ((m + 1 : Nat) : Int)))) hdn
        have f6 : (upd H5 d (.dK (putK kvs (.inl (itn ns n (m + 1) x)) (.int ((m + 1 : Nat) : Int))))) f = some (.lst (orb ns n x (m + 1))) := by rw [upd_ne hfd]; exact h35
        have d6 := upd_same (H := H5) (a := d) (o := .dK (putK kvs (.inl (itn ns n (m + 1) x)) (.int ((m + 1 : Nat) : Int))))
        generalize upd H5 d (.dK (putK kvs (.inl (itn ns n (m + 1) x)) (.int ((m + 1 : Nat) : Int)))) = H6 at s6 f6 d6
        walk_at "w"
        refine ⟨tyL (sqL f6), ?_⟩
        walk_at "w"
        refine w_app f6 (by rw [orb_len]; exact lt_line (by omega)) ?_
        rw [← orb_succ]
        walk_at "w"
        exact ⟨by omega, s6.w hf, ⟨_, _, rfl⟩, upd_same, _, by rw [upd_ne (Ne.symm hfd)]; exact d6, kn.more c (by omega)⟩
    · rintro σ H' ⟨hmL, _⟩
      exact absurd hmL (by omega)
end


theorem w_unl {K : PySem.W.Frag} {H : Hp} {Q : L2.St → Hp → Prop} {σ : L2.St} {T : Addr} {x y : V} {n i j : Nat} (hn : n = 2) (h : SqL K H T [x, y]) (q : Q ((σ.set i (some x)).set j (some y)) H) : gUnl K n (gCons (gName i) (gCons (gName j) gNil)) (.ref T) σ H Q := ⟨T, [x, y], rfl, h, hn.symm, x, [y], rfl, y, [], rfl, rfl, q⟩
theorem Cyc.far' {ns : List Int} {n : Nat} {x : Int} {L j : Nat} (c : Cyc ns n x L j) {m : Nat} (h : L ≤ m) : ∃ k : Nat, k < L ∧ ((j : Int) + ((m : Int) - j) % ((L : Int) - j) = (k : Nat)) ∧ itn ns n m x = itn ns n k x := by
  have hl := c.lt
  refine ⟨j + (m - j) % (L - j), ?_, ?_, ?_⟩
  · have := Nat.mod_lt (m - j) (show 0 < L - j by omega)
    omega
  · rw [Int.natCast_add, Int.natCast_emod, Int.ofNat_sub (by omega), Int.ofNat_sub (by omega)]
  · have h1 := c.per' ((m - j) / (L - j)) ((m - j) % (L - j))
    have h2 := Nat.mod_add_div (m - j) (L - j)
    rw [Nat.mul_comm] at h2
    rw [show j + (m - j) % (L - j) + (m - j) / (L - j) * (L - j) = m by omega] at h1
    exact h1
theorem fm_full (f : Nat → Int) : ∀ N, (PyProof.Rows.firstMet f N).length = N ↔ ∀ a b, a < b → b < N → f a ≠ f b
  | 0 => ⟨fun _ a b _ h => absurd h (Nat.not_lt_zero _), fun _ => rfl⟩
  | N + 1 => by
    rw [PyProof.Rows.firstMet_succ]
    have ih := fm_full f N
    have le := fm_le f N
    have an := PyProof.Rows.firstMet_any f N (f N)
    show (if (PyProof.Rows.firstMet f N).any (· == f N) then PyProof.Rows.firstMet f N else PyProof.Rows.firstMet f N ++ [f N]).length = N + 1 ↔ _
    by_cases c : (PyProof.Rows.firstMet f N).any (· == f N) = true
    · rw [if_pos c]
      refine ⟨fun h => absurd h (by omega), fun h => ?_⟩
      rw [an, List.any_eq_true] at c
      obtain ⟨y, hy, e⟩ := c
      obtain ⟨a, ha, rfl⟩ := List.mem_map.mp hy
      exact absurd (eq_of_beq e) (h a N (List.mem_range.mp ha) (Nat.lt_succ_self _))
    · rw [if_neg c, List.length_append]
      show _ + 1 = N + 1 ↔ _
      refine ⟨fun h a b hab hb => ?_, fun h => by rw [ih.mpr fun a b hab hb => h a b hab (by omega)]⟩
      by_cases e : b = N
      · subst e
        intro q
        exact c (by rw [an, List.any_eq_true]; exact ⟨f a, List.mem_map.mpr ⟨a, List.mem_range.mpr hab, rfl⟩, beq_iff_eq.mpr q⟩)
      · exact ih.mp (by omega) a b hab (by omega)
theorem fol_len (ns : List Int) (n : Nat) : (fol ns n).length = 2 ^ n := by unfold fol; rw [List.length_map, List.length_range]
theorem fol_at {ns : List Int} {n i : Nat} (h : i < 2 ^ n) : (fol ns n).getD i 0 = nx ns n i := by
  unfold fol
  rw [List.getD_eq_getElem?_getD, List.getElem?_map, List.getElem?_range h]
  rfl
theorem fol_sh {ns : List Int} {n : Nat} (hn : n = 1 ∨ n = 2) : decide ((((PyProof.Rows.firstMet (fun i => (fol ns n).getD i 0) (fol ns n).length).length : Nat) : Int) = 2 ^ n) = isSh ns n := by
  have e2 : (2 : Int) ^ n = ((2 ^ n : Nat) : Int) := by simp
  have key : (isSh ns n = true) ↔ Inj ns n := by
    rcases hn with rfl | rfl
    · exact sh1_inj ns
    · exact sh2_inj ns
  rw [e2, Bool.eq_iff_iff, decide_eq_true_iff, key, fol_len, Int.natCast_inj, fm_full]
  constructor
  · intro h a b hab hb
    have := h a b hab hb
    rwa [fol_at (by omega), fol_at hb] at this
  · intro h a b hab hb
    rw [fol_at (by omega), fol_at hb]
    exact h a b hab hb
theorem spots_head {ns : List Int} {n : Nat} {x y : Int} {L i : Nat} (h : (spots ns n x y L).head? = some i) : i < L ∧ itn ns n i x = y ∧ ∀ k, k < i → itn ns n k x ≠ y := by
  unfold spots at h
  rw [List.head?_filter, List.find?_range_eq_some] at h
  refine ⟨List.mem_range.mp h.2.1, of_decide_eq_true h.1, fun k hk => ?_⟩
  have := h.2.2 k hk
  rw [Bool.not_eq_true'] at this
  exact of_decide_eq_false this
theorem spots_none {ns : List Int} {n : Nat} {x y : Int} {L : Nat} (h : (spots ns n x y L).head? = none) (k : Nat) (hk : k < L) : itn ns n k x ≠ y := by
  unfold spots at h
  rw [List.head?_filter, List.find?_range_eq_none] at h
  have := h k hk
  rw [Bool.not_eq_true'] at this
  exact of_decide_eq_false this
theorem orb_flat (ns : List Int) (n : Nat) (x : Int) (L : Nat) : (orb ns n x L).all flatV = true := by
  unfold orb
  rw [List.all_map, List.all_eq_true]
  intro a _
  rfl
theorem inV_orb (ns : List Int) (n : Nat) (x y : Int) (L : Nat) : inV (.int y) (orb ns n x L) = (spots ns n x y L).head?.isSome := by
  unfold inV orb
  rw [List.any_map]
  cases h : (spots ns n x y L).head? with
  | none =>
    show _ = false
    rw [List.any_eq_false]
    intro k hk
    have := spots_none h k (List.mem_range.mp hk)
    show ¬ (itn ns n k x == y) = true
    rw [beq_iff_eq]
    exact this
  | some i =>
    show _ = true
    obtain ⟨h1, h2, _⟩ := spots_head h
    rw [List.any_eq_true]
    exact ⟨i, List.mem_range.mpr h1, by show (itn ns n i x == y) = true; rw [beq_iff_eq]; exact h2⟩
section
variable {w : World} {K : PySem.W.Frag} {mg : Str → Option Value} {base : Heap}
theorem w_rin {H : Hp} {Q : VK} {x : V} {p : Addr} {xs : List V} (h : SqL K H p xs ∨ SqT K H p xs) (f : flatV x = true) (fs : xs.all flatV = true) (q : Q (.bl (inV x xs)) H) : rIn K false x (.ref p) H Q := ⟨p, xs, rfl, h, f, fs, q⟩
theorem w_lenSet {H : Hp} {Q : VK} {ta : TE} {σ : L2.St} (h : ta σ H fun x H1 => rLenSet K x H1 Q) : tLenSetG K ta σ H Q := h
theorem w_rLenSet {H : Hp} {Q : VK} {l : Addr} {ns : List Int} (h : SqL K H l (ns.map V.int)) (hn : ns.length ≤ 4000) (q : Q (.int ((PyProof.Rows.firstMet (fun i => ns.getD i 0) ns.length).length : Nat)) H) : rLenSet K (.ref l) H Q := ⟨l, ns, rfl, h, hn, q⟩
theorem sc_law_after : FnScope ns_law_after ps_law_after (defScope s_law_after) := ⟨rfl, rfl, rfl, by decide +kernel, rfl, by decide +kernel, by decide +kernel⟩
def sp_law_after (K : PySem.W.Frag) : Sp := fun vs H Q _ => ∃ (t : Addr) (ns : List Int) (n : Nat) (x : Int) (m : Nat), vs = [.ref t, .int n, .int x, .int m] ∧ SqT K H t (ns.map V.int) ∧ ns.length ≤ 13 ∧ n ≤ 5 ∧ (0 ≤ x ∧ x < 2 ^ n) ∧ ∀ H', Same H H' → Q (.int (itn ns n m x)) H'
theorem ok_law_after (T : Txt w K mg) : Has PP w K mg base d_law_after 4 ps_law_after (sp_law_after K) := by
  refine mkHas T.f_law_after sc_law_after (fun _ _ _ _ _ _ us hl => match us, hl with | [_, _, _, _], _ => rfl) (fun vs H Q E h => ?_) (fun cdv A outer s H vs Q E hr h => ⟨_, (pss_cons (ps_asg (cF (ok_law_path T) (hr.mono (by decide)) T.g_law_path (pa_cons (pv 0) (pa_cons (pv 1) (pa_cons (pv 2) pa_nil)))) (pg_unl rfl (pgs_cons (pg_name (i := 4) sc_law_after.nd rfl (Or.inl rfl)) (pgs_cons (pg_name (i := 5) sc_law_after.nd rfl (Or.inl rfl)) pgs_nil))))
 (pss_cons (ps_if (pt_chain op_le op_lt pe_int (pv 3) (pe_callB ca_len rfl T.n_len PySem.boot_len (pa_cons (pv 4) pa_nil))) (pss_one (ps_ret (pe_ix (r := rIxL K) ix_list (pv 4) (pv 3) (fun _ _ => rfl)))) pss_nil)
 (pss_one (ps_ret (pe_ix (r := rIxL K) ix_list (pv 4) (pe_op op_add (pv 5) (pe_op op_mod (pe_callTy ca_int1 rfl T.n_int boot_int (pa_cons (pe_op op_sub (pv 3) (pv 5)) pa_nil)) (pe_op op_sub (pe_callB ca_len rfl T.n_len PySem.boot_len (pa_cons (pv 4) pa_nil)) (pv 5)))) (fun _ _ => rfl)))))), ?_⟩)
  · obtain ⟨t, ns, n, x, m, rfl, _⟩ := h
    rfl
  · obtain ⟨t, ns, n, x, m, rfl, ht, hn, h5, hx, q⟩ := h
    have c := cyc_at (ns := ns) h5 hx
    generalize cycL ns n x = L at c
    generalize cycJ ns n x = j at c
    have hl := c.lt
    walk_at "w"
    refine ⟨t, ns, n, x, L, j, rfl, ht, hn, h5, hx, c, fun p f H1 s1 h1 h2 => w_unl rfl (sqL h1) ?_⟩
    walk_at "w"
    refine if_dT (by omega) ?_
    walk_at "w"
    refine w_rlenL (sqL h2) ?_
    rw [orb_len]
    walk_at "w"
    refine if_d (fun e => ?_) fun e => ?_
    · have e : m < L := by omega
      walk_at "w"
      refine w_ixL (sqL h2) (atI_nat (orb_at e)) ?_
      walk_at "w"
      exact q _ s1
    · have e : L ≤ m := by omega
      walk_at "w"
      refine w_rlenL (sqL h2) ?_
      rw [orb_len]
      walk_at "w"
      refine w_I (by show (0 : Int) < (L : Int) - j; omega) ?_
      walk_at "w"
      obtain ⟨k, hk, e1, e2⟩ := c.far' e
      rw [e1]
      refine w_ixL (sqL h2) (atI_nat (orb_at hk)) ?_
      rw [← e2]
      walk_at "w"
      exact q _ s1
theorem sc_law_is_shuffle : FnScope ns_law_is_shuffle ps_law_is_shuffle (defScope s_law_is_shuffle) := ⟨rfl, rfl, rfl, by decide +kernel, rfl, by decide +kernel, by decide +kernel⟩
def sp_law_is_shuffle (K : PySem.W.Frag) : Sp := fun vs H Q _ => ∃ (t : Addr) (ns : List Int) (n : Nat), vs = [.ref t, .int n] ∧ SqT K H t (ns.map V.int) ∧ ns.length ≤ 13 ∧ (1 ≤ n ∧ n ≤ 5) ∧ ∀ H', Same H H' → Q (.bl (isSh ns n)) H'
theorem ok_law_is_shuffle (T : Txt w K mg) : Has PP w K mg base d_law_is_shuffle 4 ps_law_is_shuffle (sp_law_is_shuffle K) := by
  refine mkHas T.f_law_is_shuffle sc_law_is_shuffle (fun _ _ _ _ _ _ us hl => match us, hl with | [_, _], _ => rfl) (fun vs H Q E h => ?_) (fun cdv A outer s H vs Q E hr h => ⟨_, (pss_cons (ps_set (i := 2) sc_law_is_shuffle.nd rfl (Or.inl rfl) (pe_callB (ca_min2 rfl) rfl T.n_min (by kernel_rfl) (pa_cons (pv 1) (pa_cons pe_int pa_nil))))
 (pss_one (ps_ret (pe_cmpR op_eq (pe_lenSetG rfl T.n_len rfl T.n_set (cF (ok_law_followers T) (hr.mono (by decide)) T.g_law_followers (pa_cons (pv 0) (pa_cons (pv 2) pa_nil)))) (cF (ok_law_size T) (hr.mono (by decide)) T.g_law_size (pa_cons (pv 2) pa_nil)) (nomark _))))), ?_⟩)
  · obtain ⟨t, ns, n, rfl, _⟩ := h
    rfl
  · obtain ⟨t, ns, n, rfl, ht, hn, h5, q⟩ := h
    obtain ⟨few, hf, e1, e2⟩ : ∃ few : Nat, (few = 1 ∨ few = 2) ∧ (if (2 : Int) < (n : Int) then (2 : Int) else (n : Int)) = (few : Nat) ∧ isSh ns n = isSh ns few := by
      refine ⟨min n 2, by omega, ?_, sh_min h5.1⟩
      split <;> omega
    walk_at "w"
    rw [e1]
    walk_at "w"
    refine w_lenSet ?_
    walk_at "w"
    refine ⟨t, ns, few, rfl, ht, hn, by omega, fun l H1 s1 hl => ?_⟩
    have hfl : (fol ns few).length ≤ 4000 := by
      rw [fol_len]
      rcases hf with rfl | rfl <;> decide
    refine w_rLenSet (sqL hl) hfl ?_
    walk_at "w"
    refine ⟨few, rfl, by omega, ?_⟩
    walk_at "w"
    rw [fol_sh hf, ← e2]
    exact q _ s1
theorem sc_law_is_ring : FnScope ns_law_is_ring ps_law_is_ring (defScope s_law_is_ring) := ⟨rfl, rfl, rfl, by decide +kernel, rfl, by decide +kernel, by decide +kernel⟩
def sp_law_is_ring (K : PySem.W.Frag) : Sp := fun vs H Q _ => ∃ (t : Addr) (ns : List Int), vs = [.ref t, .int 3] ∧ SqT K H t (ns.map V.int) ∧ ns.length ≤ 13 ∧ ∀ H', Same H H' → Q (.bl (isRing ns)) H'
theorem ok_law_is_ring (T : Txt w K mg) : Has PP w K mg base d_law_is_ring 4 ps_law_is_ring (sp_law_is_ring K) := by
  refine mkHas T.f_law_is_ring sc_law_is_ring (fun _ _ _ _ _ _ us hl => match us, hl with | [_, _], _ => rfl) (fun vs H Q E h => ?_) (fun cdv A outer s H vs Q E hr h => ⟨_, (pss_cons (ps_set (i := 2) sc_law_is_ring.nd rfl (Or.inl rfl) (pe_callB (ca_min2 rfl) rfl T.n_min (by kernel_rfl) (pa_cons (pv 1) (pa_cons pe_int pa_nil))))
 (pss_cons (ps_asg (cF (ok_law_path T) (hr.mono (by decide)) T.g_law_path (pa_cons (pv 0) (pa_cons (pv 2) (pa_cons pe_int pa_nil)))) (pg_unl rfl (pgs_cons (pg_name (i := 3) sc_law_is_ring.nd rfl (Or.inl rfl)) (pgs_cons (pg_name (i := 4) sc_law_is_ring.nd rfl (Or.inl rfl)) pgs_nil))))
 (pss_one (ps_ret (pe_and (pe_cmpR op_eq (pe_callB ca_len rfl T.n_len PySem.boot_len (pa_cons (pv 3) pa_nil)) (cF (ok_law_size T) (hr.mono (by decide)) T.g_law_size (pa_cons (pv 2) pa_nil)) (nomark _)) (pe_one (pe_cmpR op_eq (pv 4) pe_int (nomark _)))))))), ?_⟩)
  · obtain ⟨t, ns, rfl, _⟩ := h
    rfl
  · obtain ⟨t, ns, rfl, ht, hn, q⟩ := h
    rw [ring_eq] at q
    have c := ring_cyc ns
    generalize cycL ns 3 0 = L at c q
    generalize cycJ ns 3 0 = j at c q
    walk_at "w"
    rw [show (if (3 : Int) < 3 then (3 : Int) else 3) = ((3 : Nat) : Int) from rfl]
    walk_at "w"
    refine ⟨t, ns, 3, 0, L, j, rfl, ht, hn, by decide, by decide, c, fun p f H1 s1 h1 h2 => w_unl rfl (sqL h1) ?_⟩
    walk_at "w"
    refine w_rlenL (sqL h2) ?_
    rw [orb_len]
    walk_at "w"
    refine ⟨3, rfl, by decide, ?_⟩
    walk_at "w"
    have q := q _ s1
    refine if_d (fun e => ?_) fun e => ?_
    · have e : L = 8 := by have e : (L : Int) = 8 := e; omega
      walk_at "w"
      refine q_bl ?_ q
      rw [decide_eq_true e, Bool.true_and, Bool.eq_iff_iff, decide_eq_true_iff, decide_eq_true_iff]
      omega
    · have e : ¬ L = 8 := fun z => e (by rw [z]; rfl)
      refine q_bl ?_ q
      rw [decide_eq_false e]
      rfl
theorem sc_law_length : FnScope ns_law_length ps_law_length (defScope s_law_length) := ⟨rfl, rfl, rfl, by decide +kernel, rfl, by decide +kernel, by decide +kernel⟩
def sp_law_length (K : PySem.W.Frag) : Sp := fun vs H Q _ => ∃ (t : Addr) (ns : List Int) (n : Nat) (x : Int), vs = [.ref t, .int n, .int x] ∧ SqT K H t (ns.map V.int) ∧ ns.length ≤ 13 ∧ (1 ≤ n ∧ n ≤ 5) ∧ (0 ≤ x ∧ x < 2 ^ n) ∧ ∀ H', Same H H' → Q (optV (if isSh ns n = true then some (cycL ns n x) else none)) H'
theorem ok_law_length (T : Txt w K mg) : Has PP w K mg base d_law_length 5 ps_law_length (sp_law_length K) := by
  refine mkHas T.f_law_length sc_law_length (fun _ _ _ _ _ _ us hl => match us, hl with | [_, _, _], _ => rfl) (fun vs H Q E h => ?_) (fun cdv A outer s H vs Q E hr h => ⟨_, (pss_one (ps_ret (pe_ifExp (pt_val (cF (ok_law_is_shuffle T) (hr.mono (by decide)) T.g_law_is_shuffle (pa_cons (pv 0) (pa_cons (pv 1) pa_nil)))) (pe_callB ca_len rfl T.n_len PySem.boot_len (pa_cons (pe_ix (r := rIxL K) ix_list (cF (ok_law_path T) (hr.mono (by decide)) T.g_law_path (pa_cons (pv 0) (pa_cons (pv 1) (pa_cons (pv 2) pa_nil)))) pe_int (fun _ _ => rfl)) pa_nil)) pe_non))), ?_⟩)
  · obtain ⟨t, ns, n, x, rfl, _⟩ := h
    rfl
  · obtain ⟨t, ns, n, x, rfl, ht, hn, h5, hx, q⟩ := h
    walk_at "w"
    refine ⟨t, ns, n, rfl, ht, hn, h5, fun H1 s1 => ?_⟩
    walk_at "w"
    by_cases e : isSh ns n = true
    · rw [e] at q ⊢
      walk_at "w"
      refine ⟨t, ns, n, x, _, _, rfl, s1.tq ht, hn, h5.2, hx, cyc_at h5.2 hx, fun p f H2 s2 h1 h2 => ?_⟩
      walk_at "w"
      refine w_ixL (sqL h1) (atI_nat (j := 0) rfl) ?_
      walk_at "w"
      refine w_rlenL (sqL h2) ?_
      rw [orb_len]
      exact q _ (s1.trans s2)
    · rw [Bool.not_eq_true] at e
      rw [e] at q ⊢
      walk_at "w"
      exact q _ s1
theorem sc_law_coming : FnScope ns_law_coming ps_law_coming (defScope s_law_coming) := ⟨rfl, rfl, rfl, by decide +kernel, rfl, by decide +kernel, by decide +kernel⟩
def sp_law_coming (K : PySem.W.Frag) : Sp := fun vs H Q _ => ∃ (t : Addr) (ns : List Int) (n : Nat) (x y : Int), vs = [.ref t, .int n, .int x, .int y] ∧ SqT K H t (ns.map V.int) ∧ ns.length ≤ 13 ∧ (1 ≤ n ∧ n ≤ 5) ∧ (0 ≤ x ∧ x < 2 ^ n) ∧
  ∀ H', Same H H' → Q (optV (if isSh ns n = true then (spots ns n x y (cycL ns n x)).head? else none)) H'
theorem ok_law_coming (T : Txt w K mg) : Has PP w K mg base d_law_coming 5 ps_law_coming (sp_law_coming K) := by
  refine mkHas T.f_law_coming sc_law_coming (fun _ _ _ _ _ _ us hl => match us, hl with | [_, _, _, _], _ => rfl) (fun vs H Q E h => ?_) (fun cdv A outer s H vs Q E hr h => ⟨_, (pss_cons (ps_if (pt_not (pt_val (cF (ok_law_is_shuffle T) (hr.mono (by decide)) T.g_law_is_shuffle (pa_cons (pv 0) (pa_cons (pv 1) pa_nil))))) (pss_one (ps_ret pe_non)) pss_nil)
 (pss_cons (ps_set (i := 4) sc_law_coming.nd rfl (Or.inl rfl) (pe_ix (r := rIxL K) ix_list (cF (ok_law_path T) (hr.mono (by decide)) T.g_law_path (pa_cons (pv 0) (pa_cons (pv 1) (pa_cons (pv 2) pa_nil)))) pe_int (fun _ _ => rfl)))
 (pss_one (ps_ret (pe_ifExp (pt_cmpR op_in_seq (pv 3) (pv 4) rfl) (pe_bm PySem.F.plainAttrs_list PySem.F.slot_list_index PySem.F.type_list_index mt_index (pv 4) (pa_cons (pv 3) pa_nil)) pe_non))))), ?_⟩)
  · obtain ⟨t, ns, n, x, y, rfl, _⟩ := h
    rfl
  · obtain ⟨t, ns, n, x, y, rfl, ht, hn, h5, hx, q⟩ := h
    walk_at "w"
    refine ⟨t, ns, n, rfl, ht, hn, h5, fun H1 s1 => ?_⟩
    walk_at "w"
    by_cases e : isSh ns n = true
    · rw [e] at q ⊢
      walk_at "w"
      refine ⟨t, ns, n, x, _, _, rfl, s1.tq ht, hn, h5.2, hx, cyc_at h5.2 hx, fun p f H2 s2 h1 h2 => ?_⟩
      walk_at "w"
      refine w_ixL (sqL h1) (atI_nat (j := 0) rfl) ?_
      walk_at "w"
      refine w_rin (.inl (sqL h2)) rfl (orb_flat ..) ?_
      rw [inV_orb]
      have q := q _ (s1.trans s2)
      rw [if_pos rfl] at q
      cases hs : (spots ns n x y (cycL ns n x)).head? with
      | none =>
        rw [hs] at q
        rw [Option.isSome_none]
        walk_at "w"
        exact q
      | some i =>
        rw [hs] at q
        obtain ⟨a1, a2, a3⟩ := spots_head hs
        rw [Option.isSome_some]
        walk_at "w"
        refine ⟨tyL (sqL h2), ?_⟩
        walk_at "w"
        refine ⟨f, _, _, i, _, rfl, rfl, sqL h2, rfl, orb_flat .., orb_at a1, ?_, fun m z hm hz => ?_, q⟩
        · show (itn ns n i x == y) = true
          rw [beq_iff_eq]
          exact a2
        · rw [orb_at (by omega)] at hz
          cases hz
          show (itn ns n m x == y) = false
          rw [beq_eq_false_iff_ne]
          exact a3 m hm
    · rw [Bool.not_eq_true] at e
      rw [e] at q ⊢
      walk_at "w"
      exact q _ s1
end


theorem dec_bl {a b : Bool} : decide (V.bl a = V.bl b) = (a == b) := by cases a <;> cases b <;> rfl
theorem dec_optI {o : Option Nat} {m : Nat} : decide (optV o = V.int m) = decide (o = some m) := by
  cases o with
  | none => rw [decide_eq_false (by intro z; cases z), decide_eq_false (by intro z; cases z)]
  | some k =>
    rw [Bool.eq_iff_iff, decide_eq_true_iff, decide_eq_true_iff]
    constructor
    · intro z
      have : (k : Int) = m := by injection z
      rw [Int.natCast_inj.mp this]
    · intro z
      cases z
      rfl
theorem dec_optN {o : Option Nat} : (!decide (optV o = V.non)) = o.isSome := by
  cases o with
  | none => rfl
  | some k => rw [decide_eq_false (by intro z; cases z)]; rfl
section
variable {w : World} {K : PySem.W.Frag} {mg : Str → Option Value} {base : Heap}
theorem w_eqV {x y : V} {H : Hp} {Q : VK} (h : scal x y = true) (q : Q (.bl (decide (x = y))) H) : rEq x y H Q := ⟨h, q⟩
theorem sc_law_holds : FnScope ns_law_holds ps_law_holds (defScope s_law_holds) := ⟨rfl, rfl, rfl, by decide +kernel, rfl, by decide +kernel, by decide +kernel⟩
def sp_law_holds (K : PySem.W.Frag) : Sp := fun vs H Q _ => ∃ (t nt : Addr) (ns : List Int) (wi : Wish), vs = [.ref t, .ref nt] ∧ SqT K H nt (ns.map V.int) ∧ ns.length ≤ 13 ∧ SqT K H t (wishV wi) ∧ WishOk wi ∧ ∀ H', Same H H' → Q (.bl (holdsB ns wi)) H'
theorem ok_law_holds (T : Txt w K mg) : Has PP w K mg base d_law_holds 6 ps_law_holds (sp_law_holds K) := by
  refine mkHas T.f_law_holds sc_law_holds (fun _ _ _ _ _ _ us hl => match us, hl with | [_, _], _ => rfl) (fun vs H Q E h => ?_) (fun cdv A outer s H vs Q E hr h => ⟨_, (pss_cons (ps_if (pt_cmpR op_in_seq (pe_ix (r := rIxT K) ix_tup (pv 0) pe_int (fun _ _ => rfl)) (pe_lst (pa_cons pe_str (pa_cons pe_str pa_nil))) rfl) (pss_one (ps_ret (pe_cmpR op_eq (cF (ok_law_is_ring T) (hr.mono (by decide)) T.g_law_is_ring (pa_cons (pv 1) (pa_cons pe_int pa_nil))) (pe_cmpR op_eq (pe_ix (r := rIxT K) ix_tup (pv 0) pe_int (fun _ _ => rfl)) pe_str (nomark _)) (nomark _)))) pss_nil)
 (pss_cons (ps_if (pt_cmpR op_eq (pe_ix (r := rIxT K) ix_tup (pv 0) pe_int (fun _ _ => rfl)) pe_str (nomark _)) (pss_one (ps_ret (cF (ok_law_is_shuffle T) (hr.mono (by decide)) T.g_law_is_shuffle (pa_cons (pv 1) (pa_cons pe_int pa_nil))))) pss_nil)
 (pss_cons (ps_if (pt_cmpR op_eq (pe_ix (r := rIxT K) ix_tup (pv 0) pe_int (fun _ _ => rfl)) pe_str (nomark _)) (pss_one (ps_ret (pe_cmpR op_eq (cF (ok_law_length T) (hr.mono (by decide)) T.g_law_length (pa_cons (pv 1) (pa_cons (pe_ix (r := rIxT K) ix_tup (pv 0) pe_int (fun _ _ => rfl)) (pa_cons (pe_ix (r := rIxT K) ix_tup (pv 0) pe_int (fun _ _ => rfl)) pa_nil)))) (pe_ix (r := rIxT K) ix_tup (pv 0) pe_int (fun _ _ => rfl)) (nomark _)))) pss_nil)
 (pss_cons (ps_if (pt_cmpR op_eq (pe_ix (r := rIxT K) ix_tup (pv 0) pe_int (fun _ _ => rfl)) pe_str (nomark _)) (pss_one (ps_ret (pe_cmpR op_eq (cF (ok_law_after T) (hr.mono (by decide)) T.g_law_after (pa_cons (pv 1) (pa_cons (pe_ix (r := rIxT K) ix_tup (pv 0) pe_int (fun _ _ => rfl)) (pa_cons (pe_ix (r := rIxT K) ix_tup (pv 0) pe_int (fun _ _ => rfl)) (pa_cons (pe_ix (r := rIxT K) ix_tup (pv 0) pe_int (fun _ _ => rfl)) pa_nil))))) (pe_ix (r := rIxT K) ix_tup (pv 0) pe_int (fun _ _ => rfl)) (nomark _)))) pss_nil)
 (pss_one (ps_ret (pe_cmpR op_notN (cF (ok_law_coming T) (hr.mono (by decide)) T.g_law_coming (pa_cons (pv 1) (pa_cons (pe_ix (r := rIxT K) ix_tup (pv 0) pe_int (fun _ _ => rfl)) (pa_cons (pe_ix (r := rIxT K) ix_tup (pv 0) pe_int (fun _ _ => rfl)) (pa_cons (pe_ix (r := rIxT K) ix_tup (pv 0) pe_int (fun _ _ => rfl)) pa_nil))))) pe_non (nomark _)))))))), ?_⟩)
  · obtain ⟨t, nt, ns, wi, rfl, _⟩ := h
    rfl
  · obtain ⟨t, nt, ns, wi, rfl, h1, hn, ht, ok, q⟩ := h
    walk_at "w"
    refine w_ixT ht (atI_nat (j := 0) rfl) ?_
    walk_at "w"
    refine ⟨le_line (by decide), fun l hl => ?_⟩
    have s0 := sameU (o := .lst [.str "ring", .str "no ring"]) hl
    have l0 := upd_same (H := H) (a := l) (o := .lst [.str "ring", .str "no ring"])
    generalize upd H l (.lst [.str "ring", .str "no ring"]) = H0 at s0 l0
    have ht := s0.tq ht
    have h1 := s0.tq h1
    refine w_rin (.inl (sqL l0)) rfl rfl ?_
    cases wi with
    | ring nm =>
      rw [show inV (.str (wk (.ring nm))) [.str "ring", .str "no ring"] = true from rfl]
      walk_at "w"
      refine ⟨nt, ns, rfl, h1, hn, fun H1 s1 => ?_⟩
      walk_at "w"
      refine w_ixT (s1.tq ht) (atI_nat (j := 0) rfl) ?_
      walk_at "w"
      refine w_eqV rfl (q_bl ?_ (q _ (s0.trans s1)))
      rw [dec_bl]
      show isRing ns = (isRing ns == true)
      cases isRing ns <;> rfl
    | noring nm =>
      rw [show inV (.str (wk (.noring nm))) [.str "ring", .str "no ring"] = true from rfl]
      walk_at "w"
      refine ⟨nt, ns, rfl, h1, hn, fun H1 s1 => ?_⟩
      walk_at "w"
      refine w_ixT (s1.tq ht) (atI_nat (j := 0) rfl) ?_
      walk_at "w"
      refine w_eqV rfl (q_bl ?_ (q _ (s0.trans s1)))
      rw [dec_bl]
      show (!isRing ns) = (isRing ns == false)
      cases isRing ns <;> rfl
    | shuffle nm =>
      rw [show inV (.str (wk (.shuffle nm))) [.str "ring", .str "no ring"] = false from rfl]
      walk_at "w"
      refine w_ixT ht (atI_nat (j := 0) rfl) ?_
      walk_at "w"
      refine if_dT rfl ?_
      walk_at "w"
      exact ⟨nt, ns, 2, rfl, h1, hn, by decide, fun H1 s1 => q _ (s0.trans s1)⟩
    | length nm n x m =>
      obtain ⟨o1, o2, o3⟩ := ok.ok
      rw [show inV (.str (wk (.length nm n x m))) [.str "ring", .str "no ring"] = false from rfl]
      walk_at "w"
      refine w_ixT ht (atI_nat (j := 0) rfl) ?_
      walk_at "w"
      simp only [wk]
      refine if_dF (by decide) ?_
      walk_at "w"
      refine w_ixT ht (atI_nat (j := 0) rfl) ?_
      walk_at "w"
      refine if_dT rfl ?_
      walk_at "w"
      refine w_ixT ht (atI_nat (j := 2) rfl) ?_
      walk_at "w"
      refine w_ixT ht (atI_nat (j := 3) rfl) ?_
      walk_at "w"
      refine ⟨nt, ns, n, x, rfl, h1, hn, o1, o2, fun H1 s1 => ?_⟩
      walk_at "w"
      refine w_ixT (s1.tq ht) (atI_nat (j := 4) rfl) ?_
      refine w_eqV (by split <;> rfl) (q_bl ?_ (q _ (s0.trans s1)))
      rw [dec_optI]
      show (isSh ns n && decide (cycL ns n x = m)) = _
      cases isSh ns n with
      | false => rfl
      | true =>
        show decide (cycL ns n x = m) = decide (some (cycL ns n x) = some m)
        rw [Bool.eq_iff_iff, decide_eq_true_iff, decide_eq_true_iff, Option.some.injEq]
    | after nm n x m y =>
      obtain ⟨o1, o2, o3, o4⟩ := ok.ok
      rw [show inV (.str (wk (.after nm n x m y))) [.str "ring", .str "no ring"] = false from rfl]
      walk_at "w"
      refine w_ixT ht (atI_nat (j := 0) rfl) ?_
      walk_at "w"
      simp only [wk]
      refine if_dF (by decide) ?_
      walk_at "w"
      refine w_ixT ht (atI_nat (j := 0) rfl) ?_
      walk_at "w"
      simp only [wk]
      refine if_dF (by decide) ?_
      walk_at "w"
      refine w_ixT ht (atI_nat (j := 0) rfl) ?_
      walk_at "w"
      refine if_dT rfl ?_
      walk_at "w"
      refine w_ixT ht (atI_nat (j := 2) rfl) ?_
      walk_at "w"
      refine w_ixT ht (atI_nat (j := 3) rfl) ?_
      walk_at "w"
      refine w_ixT ht (atI_nat (j := 4) rfl) ?_
      walk_at "w"
      refine ⟨nt, ns, n, x, m, rfl, h1, hn, o1.2, o2, fun H1 s1 => ?_⟩
      walk_at "w"
      refine w_ixT (s1.tq ht) (atI_nat (j := 5) rfl) ?_
      walk_at "w"
      exact q _ (s0.trans s1)
    | comes nm n x y =>
      obtain ⟨o1, o2, o3⟩ := ok.ok
      rw [show inV (.str (wk (.comes nm n x y))) [.str "ring", .str "no ring"] = false from rfl]
      walk_at "w"
      refine w_ixT ht (atI_nat (j := 0) rfl) ?_
      walk_at "w"
      simp only [wk]
      refine if_dF (by decide) ?_
      walk_at "w"
      refine w_ixT ht (atI_nat (j := 0) rfl) ?_
      walk_at "w"
      simp only [wk]
      refine if_dF (by decide) ?_
      walk_at "w"
      refine w_ixT ht (atI_nat (j := 0) rfl) ?_
      walk_at "w"
      simp only [wk]
      refine if_dF (by decide) ?_
      walk_at "w"
      refine w_ixT ht (atI_nat (j := 2) rfl) ?_
      walk_at "w"
      refine w_ixT ht (atI_nat (j := 3) rfl) ?_
      walk_at "w"
      refine w_ixT ht (atI_nat (j := 4) rfl) ?_
      walk_at "w"
      refine ⟨nt, ns, n, x, y, rfl, h1, hn, o1, o2, fun H1 s1 => ?_⟩
      walk_at "w"
      refine q_bl ?_ (q _ (s0.trans s1))
      rw [dec_optN]
      show (isSh ns n && (spots ns n x y (cycL ns n x)).head?.isSome) = _
      cases isSh ns n <;> rfl
end


section
variable {w : World} {K : PySem.W.Frag} {mg : Str → Option Value} {base : Heap}
theorem w_isNN {x : V} {H : Hp} {Q : VK} (h : Q (.bl (!decide (x = .non))) H) : V.non = V.non ∧ Q (.bl (!decide (x = .non))) H := ⟨rfl, h⟩
theorem sc_law_wish : FnScope ns_law_wish ps_law_wish (defScope s_law_wish) := ⟨rfl, rfl, rfl, by decide +kernel, rfl, by decide +kernel, by decide +kernel⟩
def sp_law_wish (K : PySem.W.Frag) : Sp := fun vs H Q _ => ∃ (j nt : Addr) (nm : Str) (ns : List Int), vs = [.ref j, .str nm, .ref nt] ∧ JarAt H j ∧ nm ∈ NAMES ∧ SqT K H nt (ns.map V.int) ∧ ns.length ≤ 13 ∧
  ∀ p t b wi H', SX j H H' → JarAt H' j → H' p = some (.lst [.ref t, .bl b]) → SqT K H' t (wishV wi) → WishOk wi → wn wi = nm → Q (.ref p) H'
theorem pow_dip {n : Nat} (h : n ≤ 5) : (0 : Int) < 2 ^ n ∧ (2 : Int) ^ n ≤ 4 * 10 ^ 30 := by
  have := two_pow_le (m := n) (n := 5) h
  have := pow_pos2 n
  omega
theorem ok_law_wish (T : Txt w K mg) : Has PP w K mg base d_law_wish 6 ps_law_wish (sp_law_wish K) := by
  refine mkHas T.f_law_wish sc_law_wish (fun _ _ _ _ _ _ us hl => match us, hl with | [_, _, _], _ => rfl) (fun vs H Q E h => ?_) (fun cdv A outer s H vs Q E hr h => ⟨_, (pss_cons (ps_par (i := 3) (j := 4) rfl sc_law_wish.nd rfl rfl (by decide) rfl rfl (pa_cons (cF (ok_law_dip T) (hr.mono (by decide)) T.g_law_dip (pa_cons (pv 0) (pa_cons pe_int pa_nil))) (pa_cons (pe_op op_add pe_int (cF (ok_law_dip T) (hr.mono (by decide)) T.g_law_dip (pa_cons (pv 0) (pa_cons pe_int pa_nil)))) pa_nil)) rfl)
 (pss_cons (ps_par (i := 5) (j := 6) rfl sc_law_wish.nd rfl rfl (by decide) rfl rfl (pa_cons (cF (ok_law_dip T) (hr.mono (by decide)) T.g_law_dip (pa_cons (pv 0) (pa_cons (cF (ok_law_size T) (hr.mono (by decide)) T.g_law_size (pa_cons (pv 4) pa_nil)) pa_nil))) (pa_cons (cF (ok_law_dip T) (hr.mono (by decide)) T.g_law_dip (pa_cons (pv 0) (pa_cons (cF (ok_law_size T) (hr.mono (by decide)) T.g_law_size (pa_cons (pv 4) pa_nil)) pa_nil))) pa_nil)) rfl)
 (pss_cons (ps_if (pt_cmpR op_eq (pv 3) pe_int (nomark _)) (pss_one (ps_ret (pe_lst (pa_cons (pe_tup (pa_cons pe_str (pa_cons (pv 1) pa_nil))) (pa_cons (cF (ok_law_is_ring T) (hr.mono (by decide)) T.g_law_is_ring (pa_cons (pv 2) (pa_cons pe_int pa_nil))) pa_nil))))) pss_nil)
 (pss_cons (ps_if (pt_cmpR op_eq (pv 3) pe_int (nomark _)) (pss_one (ps_ret (pe_lst (pa_cons (pe_tup (pa_cons pe_str (pa_cons (pv 1) pa_nil))) (pa_cons (pe_not (cF (ok_law_is_ring T) (hr.mono (by decide)) T.g_law_is_ring (pa_cons (pv 2) (pa_cons pe_int pa_nil)))) pa_nil))))) pss_nil)
 (pss_cons (ps_if (pt_cmpR op_eq (pv 3) pe_int (nomark _)) (pss_one (ps_ret (pe_lst (pa_cons (pe_tup (pa_cons pe_str (pa_cons (pv 1) pa_nil))) (pa_cons (cF (ok_law_is_shuffle T) (hr.mono (by decide)) T.g_law_is_shuffle (pa_cons (pv 2) (pa_cons pe_int pa_nil))) pa_nil))))) pss_nil)
 (pss_cons (ps_if (pt_cmpR op_eq (pv 3) pe_int (nomark _)) (pss_cons (ps_set (i := 7) sc_law_wish.nd rfl (Or.inl rfl) (cF (ok_law_length T) (hr.mono (by decide)) T.g_law_length (pa_cons (pv 2) (pa_cons (pv 4) (pa_cons (pv 5) pa_nil)))))
 (pss_cons (ps_set (i := 8) sc_law_wish.nd rfl (Or.inl rfl) (pe_ifExp (pt_cmpR op_notN (pv 7) pe_non (nomark _)) (cF (ok_law_one_of T) (hr.mono (by decide)) T.g_law_one_of (pa_cons (pv 0) (pa_cons (pe_lst (pa_cons (pv 7) (pa_cons (pv 7) (pa_cons (pv 7) (pa_cons pe_int (pa_cons pe_int (pa_cons pe_int (pa_cons pe_int (pa_cons pe_int (pa_cons (pe_op op_pow pe_int pe_int) pa_nil)))))))))) pa_nil))) pe_int))
 (pss_one (ps_ret (pe_lst (pa_cons (pe_tup (pa_cons pe_str (pa_cons (pv 1) (pa_cons (pv 4) (pa_cons (pv 5) (pa_cons (pv 8) pa_nil)))))) (pa_cons (pe_and (pe_cmpR op_notN (pv 7) pe_non (nomark _)) (pe_one (pe_cmpR op_eq (pv 7) (pv 8) (nomark _)))) pa_nil))))))) pss_nil)
 (pss_cons (ps_if (pt_cmpR op_eq (pv 3) pe_int (nomark _)) (pss_one (ps_ret (pe_lst (pa_cons (pe_tup (pa_cons pe_str (pa_cons (pv 1) (pa_cons (pv 4) (pa_cons (pv 5) (pa_cons (pv 6) pa_nil)))))) (pa_cons (pe_cmpR op_notN (cF (ok_law_coming T) (hr.mono (by decide)) T.g_law_coming (pa_cons (pv 2) (pa_cons (pv 4) (pa_cons (pv 5) (pa_cons (pv 6) pa_nil))))) pe_non (nomark _)) pa_nil))))) pss_nil)
 (pss_cons (ps_set (i := 8) sc_law_wish.nd rfl (Or.inl rfl) (cF (ok_law_one_of T) (hr.mono (by decide)) T.g_law_one_of (pa_cons (pv 0) (pa_cons (pe_lst (pa_cons pe_int (pa_cons pe_int (pa_cons pe_int (pa_cons (pe_op op_pow pe_int pe_int) (pa_cons (pe_op op_add (pe_op op_pow pe_int pe_int) pe_int) (pa_cons (cF (ok_law_dip T) (hr.mono (by decide)) T.g_law_dip (pa_cons (pv 0) (pa_cons pe_int pa_nil))) pa_nil))))))) pa_nil))))
 (pss_cons (ps_set (i := 7) sc_law_wish.nd rfl (Or.inl rfl) (cF (ok_law_after T) (hr.mono (by decide)) T.g_law_after (pa_cons (pv 2) (pa_cons (pv 4) (pa_cons (pv 5) (pa_cons (pv 8) pa_nil))))))
 (pss_cons (ps_set (i := 9) sc_law_wish.nd rfl (Or.inl rfl) (pe_ifExp (pt_cmpR op_gt (cF (ok_law_dip T) (hr.mono (by decide)) T.g_law_dip (pa_cons (pv 0) (pa_cons pe_int pa_nil))) pe_int (nomark _)) (pv 7) (pv 6)))
 (pss_one (ps_ret (pe_lst (pa_cons (pe_tup (pa_cons pe_str (pa_cons (pv 1) (pa_cons (pv 4) (pa_cons (pv 5) (pa_cons (pv 8) (pa_cons (pv 9) pa_nil))))))) (pa_cons (pe_cmpR op_eq (pv 9) (pv 7) (nomark _)) pa_nil))))))))))))))), ?_⟩)
  · obtain ⟨j, nt, nm, ns, rfl, _⟩ := h
    rfl
  · obtain ⟨j, nt, nm, ns, rfl, hj, hnm, h0, hl, q⟩ := h
    walk_at "w"
    refine ⟨j, 7, rfl, hj, by decide, fun way H1 w0 w1 s1 hj1 => ?_⟩
    walk_at "w"
    refine ⟨j, 5, rfl, hj1, by decide, fun r H2 r0 r1 s2 hj2 => ?_⟩
    walk_at "w"
    obtain ⟨n, e1, hn⟩ : ∃ n : Nat, 1 + r = (n : Int) ∧ (1 ≤ n ∧ n ≤ 5) := ⟨(1 + r).toNat, by omega, by omega⟩
    rw [e1]
    have s2 := s1.trans s2
    clear e1 r0 r1 r s1 hj1
    have pd := pow_dip hn.2
    refine ⟨n, rfl, by omega, ?_⟩
    walk_at "w"
    refine ⟨j, 2 ^ n, rfl, hj2, pd, fun x H3 x0 x1 s3 hj3 => ?_⟩
    walk_at "w"
    refine ⟨n, rfl, by omega, ?_⟩
    walk_at "w"
    refine ⟨j, 2 ^ n, rfl, hj3, pd, fun y H4 y0 y1 s4 hj4 => ?_⟩
    have s4 := (s2.trans s3).trans s4
    clear s2 s3 hj2 hj3
    have h1 := (hj.kp s4).tq h0
    have fin : ∀ (wi : Wish) (b : Bool) (H4 : Hp) (tp : Addr) (H6 : Hp) (p : Addr), WishOk wi → wn wi = nm → SX j H H4 → JarAt H4 j → H4 tp = none → Same (upd H4 tp (.tup (wishV wi))) H6 → H6 p = none → Q (.ref p) (upd H6 p (.lst [.ref tp, .bl b])) :=
      fun wi b H4 tp H6 p ok en s hj htp s6 hp => q p tp b wi _ ((s.u htp).trans ((sxS s6).u hp)) (((hj.at (sameU htp)).at s6).at (sameU hp)) upd_same ((sameU hp).tq (s6.tq sqTu)) ok en
    walk_at "w"
    refine if_d (fun c => ?_) (fun c => ?_)
    · walk_at "w"
      refine ⟨le_line (by simp), fun tp htp => ?_⟩
      walk_at "w"
      refine ⟨nt, ns, rfl, (sameU htp).tq h1, hl, fun H6 s6 => ?_⟩
      walk_at "w"
      exact ⟨le_line (by simp), fun p hp => fin (.ring nm) _ _ tp _ p ⟨hnm, trivial⟩ rfl s4 hj4 htp s6 hp⟩
    clear c
    walk_at "w"
    refine if_d (fun c => ?_) (fun c => ?_)
    · walk_at "w"
      refine ⟨le_line (by simp), fun tp htp => ?_⟩
      walk_at "w"
      refine ⟨nt, ns, rfl, (sameU htp).tq h1, hl, fun H6 s6 => ?_⟩
      walk_at "w"
      exact ⟨le_line (by simp), fun p hp => fin (.noring nm) _ _ tp _ p ⟨hnm, trivial⟩ rfl s4 hj4 htp s6 hp⟩
    clear c
    walk_at "w"
    refine if_d (fun c => ?_) (fun c => ?_)
    · walk_at "w"
      refine ⟨le_line (by simp), fun tp htp => ?_⟩
      walk_at "w"
      refine ⟨nt, ns, 2, rfl, (sameU htp).tq h1, hl, by decide, fun H6 s6 => ?_⟩
      walk_at "w"
      exact ⟨le_line (by simp), fun p hp => fin (.shuffle nm) _ _ tp _ p ⟨hnm, trivial⟩ rfl s4 hj4 htp s6 hp⟩
    clear c
    walk_at "w"
    refine if_d (fun c => ?_) (fun c => ?_)
    · walk_at "w"
      refine ⟨nt, ns, n, x, rfl, h1, hl, hn, ⟨x0, x1⟩, fun H5 s5 => ?_⟩
      have hj5 := hj4.at s5
      have s5 := s4.trans (sxS s5)
      obtain ⟨o, eo, ho⟩ : ∃ o : Option Nat, (if isSh ns n = true then some (cycL ns n x) else none) = o ∧ ∀ k, o = some k → k ≤ 32 := ⟨_, rfl, fun k hk => by
        have := (cyc_at (ns := ns) hn.2 ⟨x0, x1⟩).le
        split at hk
        · cases hk; exact this
        · cases hk⟩
      rw [eo]
      walk_at "w"
      have fin2 : ∀ (m : Nat) (b : Bool) (H4 : Hp), m ≤ 10 ^ 30 → SX j H H4 → JarAt H4 j → ∀ tp, H4 tp = none → ∀ p, upd H4 tp (.tup (wishV (.length nm n x m))) p = none → Q (.ref p) (upd (upd H4 tp (.tup (wishV (.length nm n x m)))) p (.lst [.ref tp, .bl b])) :=
        fun m b H4 hm s hj tp htp p hp => fin (.length nm n x m) b H4 tp _ p ⟨hnm, hn, ⟨x0, x1⟩, hm⟩ rfl s hj htp (Same.refl _) hp
      refine ⟨rfl, ?_⟩
      rw [dec_optN]
      cases o with
      | none =>
        rw [Option.isSome_none]
        walk_at "w"
        refine ⟨le_line (by simp), fun tp htp => ?_⟩
        walk_at "w"
        refine ⟨rfl, ?_⟩
        rw [dec_optN, Option.isSome_none]
        walk_at "w"
        refine ⟨le_line (by simp), fun p hp => fin2 1 false H5 (by decide) s5 hj5 tp htp p hp⟩
      | some k =>
        have hk := ho k rfl
        rw [Option.isSome_some]
        walk_at "w"
        refine w_I (show CPow 10 30 from ⟨by decide, by decide, by decide⟩) ?_
        walk_at "w"
        refine ⟨le_line (by simp), fun l hl5 => ?_⟩
        have sl := sameU (o := .lst [optV (some k), optV (some k), optV (some k), .int 0, .int 1, .int 2, .int 4, .int 8, .int (10 ^ (Int.toNat 30))]) hl5
        walk_at "w"
        refine ⟨j, l, _, rfl, hj5.at sl, sqLu, fun z => hj5.some hl5 z, ⟨Nat.succ_pos _, by simp⟩, fun v H6 hv s6 hj6 => ?_⟩
        obtain ⟨m, rfl, hm⟩ : ∃ m : Nat, v = .int m ∧ m ≤ 10 ^ 30 := by
          simp only [List.mem_cons, List.not_mem_nil, or_false] at hv
          rcases hv with rfl | rfl | rfl | rfl | rfl | rfl | rfl | rfl | rfl
          · exact ⟨k, rfl, by omega⟩
          · exact ⟨k, rfl, by omega⟩
          · exact ⟨k, rfl, by omega⟩
          · exact ⟨0, rfl, by decide⟩
          · exact ⟨1, rfl, by decide⟩
          · exact ⟨2, rfl, by decide⟩
          · exact ⟨4, rfl, by decide⟩
          · exact ⟨8, rfl, by decide⟩
          · exact ⟨10 ^ 30, rfl, Nat.le_refl _⟩
        have s6 := (s5.u hl5).trans s6
        walk_at "w"
        refine ⟨le_line (by simp), fun tp htp => ?_⟩
        walk_at "w"
        refine ⟨rfl, ?_⟩
        rw [dec_optN, Option.isSome_some]
        walk_at "w"
        refine w_eqV rfl ?_
        walk_at "w"
        refine ⟨le_line (by simp), fun p hp => fin2 m _ H6 hm s6 hj6 tp htp p hp⟩
    clear c
    walk_at "w"
    refine if_d (fun c => ?_) (fun c => ?_)
    · walk_at "w"
      refine ⟨le_line (by simp), fun tp htp => ?_⟩
      walk_at "w"
      refine ⟨nt, ns, n, x, y, rfl, (sameU htp).tq h1, hl, hn, ⟨x0, x1⟩, fun H6 s6 => ?_⟩
      walk_at "w"
      refine ⟨rfl, ?_⟩
      rw [dec_optN]
      walk_at "w"
      exact ⟨le_line (by simp), fun p hp => fin (.comes nm n x y) _ _ tp _ p ⟨hnm, hn, ⟨x0, x1⟩, ⟨y0, y1⟩⟩ rfl s4 hj4 htp s6 hp⟩
    clear c
    walk_at "w"
    refine w_I (show CPow 10 30 from ⟨by decide, by decide, by decide⟩) ?_
    walk_at "w"
    refine w_I (show CPow 10 9 from ⟨by decide, by decide, by decide⟩) ?_
    walk_at "w"
    refine ⟨j, 99, rfl, hj4, by decide, fun u H5 u0 u1 s5 hj5 => ?_⟩
    walk_at "w"
    refine ⟨le_line (by simp), fun l hl5 => ?_⟩
    have s5 := s4.trans s5
    have sl := sameU (o := .lst [.int 0, .int 1, .int 2, .int (10 ^ (Int.toNat 30)), .int (10 ^ (Int.toNat 9) + 7), .int u]) hl5
    walk_at "w"
    refine ⟨j, l, _, rfl, hj5.at sl, sqLu, fun z => hj5.some hl5 z, ⟨Nat.succ_pos _, by simp⟩, fun v H6 hv s6 hj6 => ?_⟩
    obtain ⟨m, rfl, hm⟩ : ∃ m : Nat, v = .int m ∧ m ≤ 10 ^ 30 := by
      simp only [List.mem_cons, List.not_mem_nil, or_false] at hv
      rcases hv with rfl | rfl | rfl | rfl | rfl | rfl
      · exact ⟨0, rfl, by decide⟩
      · exact ⟨1, rfl, by decide⟩
      · exact ⟨2, rfl, by decide⟩
      · exact ⟨10 ^ 30, rfl, Nat.le_refl _⟩
      · exact ⟨10 ^ 9 + 7, rfl, by decide⟩
      · exact ⟨u.toNat, by rw [Int.toNat_of_nonneg u0], by omega⟩
    have s6 := (s5.u hl5).trans s6
    walk_at "w"
    refine ⟨nt, ns, n, x, m, rfl, (hj.kp s6).tq h0, hl, hn.2, ⟨x0, x1⟩, fun H7 s7 => ?_⟩
    have rg := itn_range (ns := ns) ⟨x0, x1⟩ m
    walk_at "w"
    refine ⟨j, 3, rfl, hj6.at s7, by decide, fun r H8 r0 r1 s8 hj8 => ?_⟩
    have s8 := (s6.trans (sxS s7)).trans s8
    walk_at "w"
    refine tif_join (fun v => ∃ z : Int, v = .int z ∧ (0 ≤ z ∧ z < 2 ^ n)) (fun hc R' k => ?_) (fun _ R' k => ?_) ?_
    · walk_at "w"
      exact k _ ⟨_, rfl, rg⟩
    · walk_at "w"
      exact k _ ⟨_, rfl, y0, y1⟩
    rintro _ ⟨z, rfl, hz⟩
    walk_at "w"
    refine ⟨le_line (by simp), fun tp htp => ?_⟩
    walk_at "w"
    exact ⟨le_line (by simp), fun p hp => fin (.after nm n x m z) _ _ tp _ p ⟨hnm, hn, ⟨x0, x1⟩, hm, hz⟩ rfl s8 hj8 htp (Same.refl _) hp⟩
end


/-! ### dicts of names: the law's own book -/
def KvR (K : PySem.W.Frag) (H : Hp) (kv : Key × V) (p : Str × List Int) : Prop := ∃ t, kv = (Sum.inr p.1, .ref t) ∧ SqT K H t (p.2.map V.int)
def DictAt (K : PySem.W.Frag) (H : Hp) (d : Addr) (kept : List (Str × List Int)) : Prop := ∃ kvs, H d = some (.dK kvs) ∧ Paired (KvR K H) kvs kept
theorem KvR.kp {K : PySem.W.Frag} {H H' : Hp} {kv : Key × V} {p : Str × List Int} (h : KvR K H kv p) (s : Kp H H') : KvR K H' kv p := by
  obtain ⟨t, e, h1⟩ := h
  exact ⟨t, e, s.tq h1⟩
theorem kvs_kp {K : PySem.W.Frag} {H H' : Hp} (s : Kp H H') : ∀ {kvs : List (Key × V)} {kept : List (Str × List Int)}, Paired (KvR K H) kvs kept → Paired (KvR K H') kvs kept
  | _, _, .nil => .nil
  | _, _, .cons h t => .cons (h.kp s) (kvs_kp s t)
theorem DictAt.kp {K : PySem.W.Frag} {H H' : Hp} {d : Addr} {kept : List (Str × List Int)} (h : DictAt K H d kept) (s : Kp H H') : DictAt K H' d kept := by
  obtain ⟨kvs, h1, h2⟩ := h
  exact ⟨kvs, s d _ h1 (fun z => z), kvs_kp s h2⟩
theorem unlock {d : Addr} {u : HO} {H H' : Hp} (hd : H d = some u) (s : SX d H H') : Same H (upd H' d u) := fun a o h => by
  by_cases e : a = d
  · subst e
    rw [upd_same]
    rw [hd] at h
    exact h
  · rw [upd_ne e]
    exact s a o e h
theorem prd_filter {α β : Type} {F : α → β → Prop} {p : α → Bool} {q : β → Bool} (h : ∀ a b, F a b → p a = q b) : ∀ {l₁ : List α} {l₂ : List β}, Paired F l₁ l₂ → Paired F (l₁.filter p) (l₂.filter q)
  | _, _, .nil => .nil
  | a :: _, b :: _, .cons f t => by
    have e := h a b f
    have ih := prd_filter h t
    rw [List.filter_cons, List.filter_cons, e]
    split
    · exact .cons f ih
    · exact ih
theorem kvs_keys {K : PySem.W.Frag} {H : Hp} : ∀ {kvs : List (Key × V)} {kept : List (Str × List Int)}, Paired (KvR K H) kvs kept → kvs.map (·.1) = kept.map fun p => (Sum.inr p.1 : Key)
  | _, _, .nil => rfl
  | _, _, .cons ⟨t, e, _⟩ h => by rw [List.map_cons, List.map_cons, kvs_keys h, e]
theorem kvs_nd {K : PySem.W.Frag} {H : Hp} {kvs : List (Key × V)} {kept : List (Str × List Int)} (h : Paired (KvR K H) kvs kept) (n : (kept.map (·.1)).Nodup) : (kvs.map (·.1)).Nodup := by
  rw [kvs_keys h, show (kept.map fun p => (Sum.inr p.1 : Key)) = (kept.map (·.1)).map Sum.inr by rw [List.map_map]; rfl]
  exact List.Pairwise.map _ (fun a b hab e => hab (Sum.inr.inj e)) n
theorem valV_at : ∀ {kvs : List (Key × V)} {i : Nat} {k : Key} {v : V}, (kvs.map (·.1)).Nodup → kvs[i]? = some (k, v) → valV kvs k = some v
  | [], i, k, v, _, h => by cases h
  | (k0, v0) :: l, 0, k, v, _, h => by
    cases h
    unfold valV
    rw [List.find?_cons_of_pos (by exact decide_eq_true rfl)]
    rfl
  | (k0, v0) :: l, i + 1, k, v, n, h => by
    rw [List.map_cons, List.nodup_cons] at n
    have h : l[i]? = some (k, v) := h
    have ne : k0 ≠ k := fun e => n.1 (by rw [e]; exact List.mem_map.mpr ⟨_, List.mem_of_getElem? h, rfl⟩)
    have ih := valV_at n.2 h
    unfold valV at ih ⊢
    rw [List.find?_cons_of_neg (by rw [decide_eq_false (show ¬ (k0, v0).1 = k from ne)]; decide)]
    exact ih
theorem putK_new {kvs : List (Key × V)} {k : Key} {v : V} (h : ∀ kv ∈ kvs, kv.1 ≠ k) : putK kvs k v = kvs ++ [(k, v)] := by
  unfold putK
  rw [if_neg]
  rw [List.any_eq_true]
  rintro ⟨kv, h1, h2⟩
  exact h kv h1 (of_decide_eq_true h2)
/-- one place before another: its key is another -/
theorem nd_take {kvs : List (Key × V)} {i : Nat} {k : Key} {v : V} (n : (kvs.map (·.1)).Nodup) (h : kvs[i]? = some (k, v)) : ∀ kv ∈ kvs.take i, kv.1 ≠ k := by
  intro kv hkv e
  obtain ⟨m, hm⟩ := List.getElem?_of_mem hkv
  have hmi : m < i := by
    have := (List.getElem?_eq_some_iff.mp hm).1
    rw [List.length_take] at this
    omega
  rw [List.getElem?_take_of_lt hmi] at hm
  obtain ⟨h1, e1⟩ := List.getElem?_eq_some_iff.mp hm
  obtain ⟨h2, e2⟩ := List.getElem?_eq_some_iff.mp h
  have := List.pairwise_iff_getElem.mp n m i (by rw [List.length_map]; exact h1) (by rw [List.length_map]; exact h2) hmi
  rw [List.getElem_map, List.getElem_map, e1, e2] at this
  exact this e
def flK (kvs : List (Key × V)) (nm : Str) : List (Key × V) := kvs.filter fun kv => decide (kv.1 ≠ .inr nm)
theorem flK_at {kvs : List (Key × V)} {nm s : Str} {i : Nat} {v : V} (h : kvs[i]? = some (Sum.inr s, v)) : flK (kvs.take (i + 1)) nm = flK (kvs.take i) nm ++ (if s = nm then [] else [(Sum.inr s, v)]) := by
  unfold flK
  rw [take_at h, List.filter_append]
  congr 1
  rw [List.filter_cons]
  by_cases e : s = nm
  · subst e
    rw [if_pos rfl, if_neg (fun h => absurd rfl (of_decide_eq_true (p := ¬ ((Sum.inr s : Key) = Sum.inr s)) h))]
    rfl
  · rw [if_neg e, if_pos (decide_eq_true (show (Sum.inr s : Key) ≠ Sum.inr nm from fun z => e (Sum.inr.inj z)))]
    rfl
theorem flK_len (kvs : List (Key × V)) (nm : Str) (i : Nat) : (flK (kvs.take i) nm).length ≤ kvs.length := by
  unfold flK
  exact Nat.le_trans (List.length_filter_le ..) (by rw [List.length_take]; omega)
theorem flK_pr {K : PySem.W.Frag} {H : Hp} {kvs : List (Key × V)} {kept : List (Str × List Int)} {nm : Str} (h : Paired (KvR K H) kvs kept) : Paired (KvR K H) (flK kvs nm) (without kept nm) := by
  refine prd_filter (fun a b hab => ?_) h
  obtain ⟨t, e, _⟩ := hab
  rw [e]
  show decide ((Sum.inr b.1 : Key) ≠ Sum.inr nm) = decide (b.1 ≠ nm)
  rw [Bool.eq_iff_iff, decide_eq_true_iff, decide_eq_true_iff]
  exact ⟨fun z e => z (congrArg Sum.inr e), fun z e => z (Sum.inr.inj e)⟩
theorem flK_not (kvs : List (Key × V)) (nm : Str) : ∀ kv ∈ flK kvs nm, kv.1 ≠ Sum.inr nm := fun kv h => of_decide_eq_true (List.mem_filter.mp h).2
section
variable {w : World} {K : PySem.W.Frag} {mg : Str → Option Value} {base : Heap}
theorem w_lock {t : TS} {D : Ends} {σ : L2.St} {H : Hp} {d : Addr} {u : HO} (hd : H d = some u) (m : L2.Mut (some u)) (h : ∀ od, t ⟨fun σ' H' => H' d = some (.frz od u) ∧ D.nx σ' (upd H' d u), fun v H' => H' d = some (.frz od u) ∧ D.rt v (upd H' d u), fun σ' H' => H' d = some (.frz od u) ∧ D.bk σ' (upd H' d u), fun σ' H' => H' d = some (.frz od u) ∧ D.ct σ' (upd H' d u)⟩ σ (upd H d (.frz od u))) : tLock t D σ H := ⟨d, u, hd, m, h⟩
theorem w_lockE {t : TE} {Q : VK} {σ : L2.St} {H : Hp} {d : Addr} {u : HO} (hd : H d = some u) (m : L2.Mut (some u)) (h : ∀ od, t σ (upd H d (.frz od u)) fun v H' => H' d = some (.frz od u) ∧ Q v (upd H' d u)) : tLockE t σ H Q := ⟨d, u, hd, m, h⟩
def rKeys (g : TG) (tb : TS) (D : Ends) (σ : L2.St) (x : V) (H1 : Hp) : Prop := ∃ d o, x = .ref d ∧ ((∃ kvs, H1 d = some (.frz o (.dK kvs)) ∧ ForG (Itk d o kvs) g tb D σ H1) ∨ ∃ kvs, H1 d = some (.frz o (.dT kvs)) ∧ ForG (Itkt d o kvs) g tb D σ H1)
theorem w_forK {td : TE} {g : TG} {tb : TS} {D : Ends} {σ : L2.St} {H : Hp} (h : td σ H fun x H1 => rKeys g tb D σ x H1) : tFor (iKeys td) g tb D σ H := h
theorem w_rkeys {g : TG} {tb : TS} {D : Ends} {σ : L2.St} {d : Addr} {H1 : Hp} {o : Obj} {kvs : List (Key × V)} (e : H1 d = some (.frz o (.dK kvs))) (h : ForG (Itk d o kvs) g tb D σ H1) : rKeys g tb D σ (.ref d) H1 := ⟨d, o, rfl, .inl ⟨kvs, e, h⟩⟩
def rKeysC (g : TG) (tt : TT) (te : TE) (vs : List Nat) (σ : L2.St) (Q : VK) (x : V) (H1 : Hp) : Prop := ∃ d o, x = .ref d ∧ ((∃ kvs, H1 d = some (.frz o (.dK kvs)) ∧ LcG (Itk d o kvs) g tt te vs σ H1 Q) ∨ ∃ kvs, H1 d = some (.frz o (.dT kvs)) ∧ LcG (Itkt d o kvs) g tt te vs σ H1 Q)
theorem w_lcK {td : TE} {g : TG} {tt : TT} {te : TE} {vs : List Nat} {σ : L2.St} {H : Hp} {Q : VK} (h : td σ H fun x H1 => rKeysC g tt te vs σ Q x H1) : tLc (iKeys td) g tt te vs σ H Q := h
theorem w_rkeysC {g : TG} {tt : TT} {te : TE} {vs : List Nat} {σ : L2.St} {Q : VK} {d : Addr} {H1 : Hp} {o : Obj} {kvs : List (Key × V)} (e : H1 d = some (.frz o (.dK kvs))) (h : LcG (Itk d o kvs) g tt te vs σ H1 Q) : rKeysC g tt te vs σ Q (.ref d) H1 := ⟨d, o, rfl, .inl ⟨kvs, e, h⟩⟩
theorem w_dgetZ {d : Addr} {od : Obj} {H : Hp} {Q : VK} {kvs : List (Key × V)} {i : Str} {v : V} (h : H d = some (.frz od (.dK kvs))) (e : valV kvs (.inr i) = some v) (q : Q v H) : rDGet (.ref d) (.str i) H Q := ⟨d, v, rfl, .inl ⟨kvs, .inr i, .inr ⟨od, h⟩, rfl, e.symm⟩, q⟩
theorem sc_law_kept : FnScope ns_law_kept ps_law_kept (defScope s_law_kept) := ⟨rfl, rfl, rfl, by decide +kernel, rfl, by decide +kernel, by decide +kernel⟩
def sp_law_kept (K : PySem.W.Frag) : Sp := fun vs H Q _ => ∃ (d : Addr) (nm : Str) (fresh : V) (kept add : List (Str × List Int)), vs = [.ref d, .str nm, fresh] ∧ DictAt K H d kept ∧ (kept.map (·.1)).Nodup ∧ kept.length ≤ 100 ∧
  ((fresh = .non ∧ add = []) ∨ ∃ t ns, fresh = .ref t ∧ SqT K H t (ns.map V.int) ∧ add = [(nm, ns)]) ∧ ∀ f H', Same H H' → DictAt K H' f (without kept nm ++ add) → Q (.ref f) H'
theorem ok_law_kept (T : Txt w K mg) : Has PP w K mg base d_law_kept 1 ps_law_kept (sp_law_kept K) := by
  refine mkHas T.f_law_kept sc_law_kept (fun _ _ _ _ _ _ us hl => match us, hl with | [_, _, _], _ => rfl) (fun vs H Q E h => ?_) (fun cdv A outer s H vs Q E hr h => ⟨_, (pss_cons (ps_set (i := 3) sc_law_kept.nd rfl (Or.inl rfl) pe_dnewK)
 (pss_cons (ps_lock (ps_for (passes_of rfl) rfl (pi_keys (pv 0)) (pg_name (i := 4) sc_law_kept.nd rfl (Or.inl rfl))
 (pss_one (ps_if (pt_cmpR op_ne (pv 4) (pv 1) (nomark _)) (pss_one (ps_dput (hu_of hr) (pv 3) (pv 4) (pe_dget (hu_of hr) (pv 0) (pv 4) (fun _ _ => rfl)) rfl)) pss_nil))))
 (pss_cons (ps_if (pt_cmpR op_notN (pv 2) pe_non (nomark _)) (pss_one (ps_dput (hu_of hr) (pv 3) (pv 1) (pv 2) rfl)) pss_nil)
 (pss_one (ps_ret (pv 3)))))), ?_⟩)
  · obtain ⟨d, nm, fresh, kept, add, rfl, _⟩ := h
    rfl
  · obtain ⟨d, nm, fresh, kept, add, rfl, ⟨kvs, hd, pr⟩, nd, hl, hf, q⟩ := h
    have nk := kvs_nd pr nd
    have len : kvs.length ≤ 100 := by rw [prd_len pr]; exact hl
    walk_at "w"
    intro f hfn
    have s1 := sameU (o := .dK []) hfn
    have f1 := upd_same (H := H) (a := f) (o := .dK [])
    generalize upd H f (.dK []) = H1 at s1 f1
    have d1 := s1 _ _ hd
    have hfd : f ≠ d := (ne_of_none hd hfn).symm
    walk_at "w"
    refine w_lock d1 trivial fun od => w_forK ?_
    walk_at "w"
    have s2 : SX d H (upd H1 d (.frz od (.dK kvs))) := (sxS s1).wj
    refine w_rkeys upd_same (for_it walk_keys (fun i σ H' => SX d H H' ∧ H' d = some (.frz od (.dK kvs)) ∧ (∃ z, σ = [some (.ref d), some (.str nm), some fresh, some (.ref f), z]) ∧ H' f = some (.dK (flK (kvs.take i) nm))) ⟨s2, upd_same, ⟨_, rfl⟩, by rw [upd_ne hfd]; exact f1⟩ (fun i σ H' _ q => q.2.1) ?_ ?_)
    · rintro i x σ H' H2 hi ⟨s3, d3, ⟨z, rfl⟩, f3⟩ ⟨rfl, k, v, hkv, rfl⟩
      obtain ⟨p, hp, ⟨t, e, ht⟩⟩ := prd_at pr hkv
      cases e
      have le := flK_len kvs nm i
      have fa := flK_at (nm := nm) hkv
      rw [show kV (Sum.inr p.1) = V.str p.1 from rfl]
      walk_at "w"
      refine if_dn (p := p.1 = nm) (fun c => ?_) (fun c => ?_)
      · rw [if_neg c] at fa
        walk_at "w"
        refine w_dgetZ d3 (valV_at nk hkv) ?_
        walk_at "w"
        refine w_dputS f3 (lt_line (by omega)) ?_
        have pk : putK (flK (kvs.take i) nm) (Sum.inr p.1) (V.ref t) = flK (kvs.take i) nm ++ [(Sum.inr p.1, V.ref t)] := putK_new fun kv h => nd_take nk hkv kv (List.mem_filter.mp h).1
        rw [pk, ← fa]
        walk_at "w"
        exact ⟨s3.w hfn, by rw [upd_ne hfd.symm]; exact d3, ⟨_, rfl⟩, upd_same⟩
      · rw [if_pos c, List.append_nil] at fa
        walk_at "w"
        rw [← fa] at f3
        exact ⟨s3, d3, ⟨_, rfl⟩, f3⟩
    · rintro σ H' ⟨s3, d3, ⟨z, rfl⟩, f3⟩
      refine ⟨d3, ?_⟩
      rw [List.take_length] at f3
      have s4 := unlock hd s3
      have f4 : (upd H' d (.dK kvs)) f = some (.dK (flK kvs nm)) := by rw [upd_ne hfd]; exact f3
      generalize upd H' d (.dK kvs) = H4 at s4 f4
      have le : (flK kvs nm).length ≤ kvs.length := List.length_filter_le ..
      have pr4 := kvs_kp (kpS s4) (flK_pr (nm := nm) pr)
      walk_at "w"
      refine ⟨rfl, ?_⟩
      rcases hf with ⟨rfl, rfl⟩ | ⟨t, ns, rfl, ht, rfl⟩
      · rw [decide_eq_true rfl]
        walk_at "w"
        exact q f _ s4 ⟨_, f4, by rw [List.append_nil]; exact pr4⟩
      · rw [decide_eq_false (by intro z; cases z)]
        walk_at "w"
        refine w_dputS f4 (lt_line (by omega)) ?_
        rw [putK_new (flK_not kvs nm)]
        have s5 := s4.w (o := .dK (flK kvs nm ++ [(Sum.inr nm, .ref t)])) hfn
        walk_at "w"
        exact q f _ s5 ⟨_, upd_same, (kvs_kp (kpS s5) (flK_pr (nm := nm) pr)).snoc ⟨t, rfl, s5.tq ht⟩⟩
end


/-! ### a deed -/
inductive Deed where
  | put (nm : Str) (ns : List Int)
  | wish (wi : Wish)
  | drop (nm : Str)
  | lift (i : Int)
  | undo
def DeedAt (K : PySem.W.Frag) (H : Hp) (p : Addr) : Deed → Prop
  | .put nm ns => ∃ t, H p = some (.lst [.str "put", .str nm, .ref t]) ∧ SqT K H t (ns.map V.int)
  | .wish wi => ∃ t, H p = some (.lst [.str "wish", .ref t]) ∧ SqT K H t (wishV wi)
  | .drop nm => H p = some (.lst [.str "drop", .str nm])
  | .lift i => H p = some (.lst [.str "lift", .int i])
  | .undo => H p = some (.lst [.str "undo"])
def DeedOk : Deed → Prop
  | .put nm ns => nm ∈ NAMES ∧ NumsM 9 ns
  | .wish wi => WishOk wi
  | .drop nm => nm ∈ NAMES
  | .lift i => -1 ≤ i ∧ i ≤ 100
  | .undo => True
theorem DeedAt.kp {K : PySem.W.Frag} {H H' : Hp} {p : Addr} {d : Deed} (h : DeedAt K H p d) (s : Kp H H') : DeedAt K H' p d := by
  cases d with
  | put nm ns =>
    obtain ⟨t, h1, h2⟩ := h
    exact ⟨t, s _ _ h1 (fun ⟨_, _, _, e⟩ => by cases e), s.tq h2⟩
  | wish wi =>
    obtain ⟨t, h1, h2⟩ := h
    exact ⟨t, s _ _ h1 (fun ⟨_, _, _, e⟩ => by cases e), s.tq h2⟩
  | drop nm => exact s _ _ h (fun ⟨_, _, _, e⟩ => by cases e)
  | lift i => exact s _ _ h (fun ⟨_, _, _, e⟩ => by cases e)
  | undo => exact s _ _ h (fun ⟨_, _, _, e⟩ => by cases e)
structure KeptOk (kept : List (Str × List Int)) : Prop where
  nd : (kept.map (·.1)).Nodup
  len : kept.length ≤ 40
  nm : ∀ p ∈ kept, p.1 ∈ NAMES
  ns : ∀ p ∈ kept, NumsM 9 p.2
section
variable {w : World} {K : PySem.W.Frag} {mg : Str → Option Value} {base : Heap}
theorem sc_law_book_deed : FnScope ns_law_book_deed ps_law_book_deed (defScope s_law_book_deed) := ⟨rfl, rfl, rfl, by decide +kernel, rfl, by decide +kernel, by decide +kernel⟩
def sp_law_book_deed (K : PySem.W.Frag) : Sp := fun vs H Q _ => ∃ (j d m : Addr) (kept : List (Str × List Int)) (ws : List V), vs = [.ref j, .ref d, .ref m] ∧ JarAt H j ∧ DictAt K H d kept ∧ KeptOk kept ∧ SqL K H m ws ∧ m ≠ j ∧ ws.length ≤ 100 ∧
  ∀ p de H', SX j H H' → JarAt H' j → DeedAt K H' p de → DeedOk de → Q (.ref p) H'
theorem ok_law_book_deed (T : Txt w K mg) : Has PP w K mg base d_law_book_deed 7 ps_law_book_deed (sp_law_book_deed K) := by
  refine mkHas T.f_law_book_deed sc_law_book_deed (fun _ _ _ _ _ _ us hl => match us, hl with | [_, _, _], _ => rfl) (fun vs H Q E h => ?_) (fun cdv A outer s H vs Q E hr h => ⟨_, (pss_cons (ps_par (i := 3) (j := 4) rfl sc_law_book_deed.nd rfl rfl (by decide) rfl rfl (pa_cons (cF (ok_law_dip T) (hr.mono (by decide)) T.g_law_dip (pa_cons (pv 0) (pa_cons pe_int pa_nil))) (pa_cons (cF (ok_law_one_of T) (hr.mono (by decide)) T.g_law_one_of (pa_cons (pv 0) (pa_cons (pe_lst (pa_cons pe_str (pa_cons pe_str (pa_cons pe_str pa_nil)))) pa_nil))) pa_nil)) rfl)
 (pss_cons (ps_if (PW.pt (pw_or (pt_cmpR op_lt (pv 3) pe_int (nomark _)) (pw_or1 (pt_cmpR (op_eqD0 (Nat.lt_of_le_of_lt (Nat.le_add_right _ _) hr.units)) (pv 1) pe_dnewK (nomark _))))) (pss_one (ps_ret (pe_lst (pa_cons pe_str (pa_cons (pv 4) (pa_cons (cF (ok_law_numbers T) (hr.mono (by decide)) T.g_law_numbers (pa_cons (pv 0) (pa_cons pe_int pa_nil))) pa_nil)))))) pss_nil)
 (pss_cons (ps_if (pt_cmpR op_lt (pv 3) pe_int (nomark _)) (pss_cons (ps_set (i := 4) sc_law_book_deed.nd rfl (Or.inl rfl) (cF (ok_law_one_of T) (hr.mono (by decide)) T.g_law_one_of (pa_cons (pv 0) (pa_cons (pe_callB cr_sortedS rfl T.n_sorted (by kernel_rfl) (pa_cons (pe_lock (pe_lc rfl sc_law_book_deed.nd (pi_keys (pv 1)) (blkOk_by (own := [("_law_each", 5)]) (N := ns_law_book_deed) (sc := defScope s_law_book_deed) (by decide +kernel)) (fun _ _ _ _ _ => pg_name (i := 5) sc_law_book_deed.nd rfl (Or.inl rfl)) (fun _ _ _ _ _ => pts_nil) (fun _ _ _ _ _ => (pv 5)))) pa_nil)) pa_nil))))
 (pss_one (ps_ret (pe_lst (pa_cons pe_str (pa_cons (pe_ix (r := rIxL K) ix_list (cF (ok_law_wish T) (hr.mono (by decide)) T.g_law_wish (pa_cons (pv 0) (pa_cons (pv 4) (pa_cons (pe_dget (hu_of hr) (pv 1) (pv 4) (fun _ _ => rfl)) pa_nil)))) pe_int (fun _ _ => rfl)) pa_nil)))))) pss_nil)
 (pss_cons (ps_if (pt_cmpR op_eq (pv 3) pe_int (nomark _)) (pss_one (ps_ret (pe_lst (pa_cons pe_str (pa_cons (pv 4) pa_nil))))) pss_nil)
 (pss_one (ps_ret (pe_ifExp (pt_cmpR op_eq (pv 3) pe_int (nomark _)) (pe_lst (pa_cons pe_str (pa_cons (cF (ok_law_one_of T) (hr.mono (by decide)) T.g_law_one_of (pa_cons (pv 0) (pa_cons (pe_lst (pa_cons pe_int (pa_cons pe_int (pa_cons pe_int (pa_cons (pe_callB ca_len rfl T.n_len PySem.boot_len (pa_cons (pv 2) pa_nil)) (pa_cons (pe_un un_neg pe_int) pa_nil)))))) pa_nil))) pa_nil))) (pe_lst (pa_cons pe_str pa_nil))))))))), ?_⟩)
  · obtain ⟨j, d, m, kept, ws, rfl, _⟩ := h
    rfl
  · obtain ⟨j, d, m, kept, ws, rfl, hj, hd, ok, hm, hmj, hw, q⟩ := h
    walk_at "w"
    refine ⟨j, 9, rfl, hj, by decide, fun way H1 w0 w1 s1 hj1 => ?_⟩
    walk_at "w"
    refine ⟨le_line (by simp), fun l hl => ?_⟩
    have sl := sameU (o := .lst [.str "a", .str "b", .str "cc"]) hl
    walk_at "w"
    refine ⟨j, l, _, rfl, hj1.at sl, sqLu, fun z => hj1.some hl z, by decide, fun v H2 hv s2 hj2 => ?_⟩
    obtain ⟨nm, rfl, hnm⟩ : ∃ nm : Str, v = .str nm ∧ nm ∈ NAMES := by
      simp only [List.mem_cons, List.not_mem_nil, or_false] at hv
      rcases hv with rfl | rfl | rfl
      · exact ⟨_, rfl, by decide⟩
      · exact ⟨_, rfl, by decide⟩
      · exact ⟨_, rfl, by decide⟩
    have s2 := (s1.u hl).trans s2
    clear sl hv
    have hd2 := hd.kp (hj.kp s2)
    have hm2 := s2.sq hmj hm
    obtain ⟨kvs, hk, pr⟩ := hd2
    have fput : ∀ H3, SX j H H3 → JarAt H3 j → ∀ t ns H4, SX j H3 H4 → JarAt H4 j → NumsM 9 ns → SqT K H4 t (ns.map V.int) → ∀ p, H4 p = none → Q (.ref p) (upd H4 p (.lst [.str "put", .str nm, .ref t])) :=
      fun H3 s3 hj3 t ns H4 s4 hj4 hn ht p hp => q p (.put nm ns) _ ((s3.trans s4).u hp) (hj4.at (sameU hp)) ⟨t, upd_same, (sameU hp).tq ht⟩ ⟨hnm, hn⟩
    walk_at "w"
    refine if_d (fun c => ?_) (fun c => ?_)
    · walk_at "w"
      refine ⟨j, rfl, hj2, fun t ns H4 s4 hj4 hn ht => ?_⟩
      walk_at "w"
      exact ⟨le_line (by simp), fun p hp => fput H2 s2 hj2 t ns H4 s4 hj4 hn ht p hp⟩
    · walk_at "w"
      intro e he
      have s3 := s2.u (o := .dK []) he
      have hj3 := hj2.at (sameU (o := .dK []) he)
      have hk3 := (sameU (o := .dK []) he) _ _ hk
      have hm3 := (sameU (o := .dK []) he).sq hm2
      have pr3 := kvs_kp (kpS (sameU (o := .dK []) he)) pr
      have e3 := upd_same (H := H2) (a := e) (o := .dK [])
      generalize upd H2 e (.dK []) = H3 at s3 hj3 hk3 e3 hm3 pr3
      walk_at "w"
      refine ⟨d, e, kvs, rfl, rfl, hk3, e3, ?_⟩
      cases hke : kvs.isEmpty with
      | true =>
        walk_at "w"
        refine ⟨j, rfl, hj3, fun t ns H4 s4 hj4 hn ht => ?_⟩
        walk_at "w"
        exact ⟨le_line (by simp), fun p hp => fput H3 s3 hj3 t ns H4 s4 hj4 hn ht p hp⟩
      | false =>
        clear fput
        walk_at "w"
        refine if_d (fun c => ?_) (fun c => ?_)
        · walk_at "w"
          refine w_lockE hk3 trivial fun od => ?_
          refine w_lcK ?_
          walk_at "w"
          have nk := kvs_nd pr3 ok.nd
          have lk := prd_len pr3
          have lo := ok.len
          refine w_rkeysC upd_same (lc_map walk_keys (fun i => (kept.take i).map fun p => V.str p.1) rfl (fun H' s4 => s4 _ _ upd_same) (fun i x H4 H5 D hi hD p y => ?_) fun D H4 s4 hD h4 => ?_)
          · obtain ⟨rfl, k, v, hkv, rfl⟩ := y
            obtain ⟨b, hb, ⟨t, e5, _⟩⟩ := prd_at pr3 hkv
            cases e5
            rw [show kV (Sum.inr b.1) = V.str b.1 from rfl]
            walk_at "w"
            refine ⟨rfl, ?_⟩
            walk_at "w"
            refine p.yes hD (Same.refl _) (by rw [List.length_map, List.length_take]; exact lt_line (by omega)) ?_
            rw [take_at hb, List.map_append]
            rfl
          · have hd4 : H4 d = some (.frz od (.dK kvs)) := s4 _ _ upd_same
            refine ⟨hd4, ?_⟩
            have s5 : Same H3 (upd H4 d (.dK kvs)) := unlock hk3 fun a o n h => s4 a o (by rw [upd_ne n]; exact h)
            have nD : D ≠ d := fun z => by rw [z, hd4] at h4; cases h4
            have h5 : (upd H4 d (.dK kvs)) D = some (.lst ((kept.take kvs.length).map fun p => V.str p.1)) := by rw [upd_ne nD]; exact h4
            generalize upd H4 d (.dK kvs) = H5 at s5 h5
            clear s4 hd4 h4 hD
            rw [show (kept.take kvs.length).map (fun p => V.str p.1) = (kept.map (·.1)).map V.str by rw [lk, List.take_length, List.map_map]; rfl] at h5
            walk_at "w"
            refine ⟨D, kept.map (·.1), rfl, sqL h5, by rw [List.length_map]; omega, fun ys l6 pm srt hl6 => ?_⟩
            have hj5 := hj3.at s5
            have hj6 := hj5.at (sameU (o := .lst (ys.map V.str)) hl6)
            have ly := pm.length_eq
            rw [List.length_map] at ly
            have kpos : 0 < kvs.length := by
              cases kvs with
              | nil => cases hke
              | cons a l => exact Nat.succ_pos _
            walk_at "w"
            refine ⟨j, l6, ys.map V.str, rfl, hj6, sqLu, fun z => hj5.some hl6 z, by rw [List.length_map]; omega, fun v H7 hv s7 hj7 => ?_⟩
            obtain ⟨nm2, hn2, rfl⟩ := List.mem_map.mp hv
            obtain ⟨b, hb, rfl⟩ := List.mem_map.mp (pm.mem_iff.mp hn2)
            obtain ⟨i, hi⟩ := List.getElem?_of_mem hb
            have s7 : SX j H3 H7 := ((sxS s5).u hl6).trans s7
            have k7 := hj3.kp s7
            obtain ⟨kv, hkv, ⟨t, e5, ht⟩⟩ := prd_at' pr3 hi
            subst e5
            have hk7 := k7 _ _ hk3 (fun z => z)
            walk_at "w"
            refine w_dgetS hk7 (valV_at nk hkv) ?_
            walk_at "w"
            refine ⟨j, t, b.1, b.2, rfl, hj7, ok.nm b hb, k7.tq ht, Nat.le_trans (ok.ns b hb).le (by decide), fun pp tt bb wi H8 s8 hj8 hpp htt okw enw => ?_⟩
            walk_at "w"
            refine w_ixL (sqL hpp) (atI_nat (j := 0) rfl) ?_
            walk_at "w"
            exact ⟨le_line (by simp), fun p9 hp9 => q p9 (.wish wi) _ (((s3.trans s7).trans s8).u hp9) (hj8.at (sameU hp9)) ⟨tt, upd_same, (sameU hp9).tq htt⟩ okw⟩
        · walk_at "w"
          refine if_d (fun c => ?_) (fun c => ?_)
          · walk_at "w"
            exact ⟨le_line (by simp), fun p9 hp9 => q p9 (.drop nm) _ (s3.u hp9) (hj3.at (sameU hp9)) upd_same hnm⟩
          · walk_at "w"
            refine if_d (fun c => ?_) (fun c => ?_)
            · walk_at "w"
              refine w_rlenL hm3 ?_
              walk_at "w"
              refine ⟨le_line (by simp), fun l5 hl5 => ?_⟩
              have sl := sameU (o := .lst [.int 0, .int 0, .int 1, .int ws.length, .int (-1)]) hl5
              walk_at "w"
              refine ⟨j, l5, _, rfl, hj3.at sl, sqLu, fun z => hj3.some hl5 z, ⟨Nat.succ_pos _, by simp⟩, fun v H4 hv s4 hj4 => ?_⟩
              obtain ⟨i, rfl, hi⟩ : ∃ i : Int, v = .int i ∧ (-1 ≤ i ∧ i ≤ 100) := by
                simp only [List.mem_cons, List.not_mem_nil, or_false] at hv
                rcases hv with rfl | rfl | rfl | rfl | rfl
                · exact ⟨0, rfl, by decide⟩
                · exact ⟨0, rfl, by decide⟩
                · exact ⟨1, rfl, by decide⟩
                · exact ⟨_, rfl, by omega⟩
                · exact ⟨-1, rfl, by decide⟩
              walk_at "w"
              exact ⟨le_line (by simp), fun p9 hp9 => q p9 (.lift i) _ ((s3.trans ((sxS sl).trans s4)).u hp9) (hj4.at (sameU hp9)) upd_same hi⟩
            · walk_at "w"
              exact ⟨le_line (by simp), fun p9 hp9 => q p9 .undo _ (s3.u hp9) (hj3.at (sameU hp9)) upd_same trivial⟩
end


section
variable {X : Cx}
/-! ### repr and str of plain values -/
def rRepr : List V → Hp → VK → Prop := fun xs H Q => (∃ i, xs = [.int i] ∧ i.natAbs.log2 < 1920 ∧ Q (.str (toString i)) H) ∨ (∃ y : Str, xs = [.str y] ∧ (reprText y).length ≤ sizeLine ∧ Q (.str (reprText y)) H) ∨ (xs = [.non] ∧ Q (.str "None") H)
theorem ca_repr : CallR X (.builtin "repr") rRepr := by
  intro pins s σ H xs us Q I r h
  rcases h with ⟨i, rfl, hz, q⟩ | ⟨y, rfl, hz, q⟩ | ⟨rfl, q⟩
  · obtain ⟨u, rfl, t, rfl⟩ := vals1 r
    exact PySem.P.repr_of_int hz ⟨.str _, H, I.tok _, ⟨_, rfl⟩, q⟩
  · obtain ⟨u, rfl, t, rfl⟩ := vals1 r
    exact PySem.P.repr_of_str ⟨.str _, H, I.tok _, ⟨_, rfl⟩, q⟩ hz
  · obtain ⟨u, rfl, hu⟩ := vals1 r
    cases hu
    exact PySem.P.repr_of_none ⟨.str _, H, I.tok _, ⟨_, rfl⟩, q⟩
def rStrI : List V → Hp → VK → Prop := fun xs H Q => ∃ i, xs = [.int i] ∧ i.natAbs.log2 < 1920 ∧ Q (.str (toString i)) H
theorem ca_str : CallR X (.type "str") rStrI := call_str_int
end
/-! ### the law's past: dicts and wishes, the oldest first -/
def MadeAt (K : PySem.W.Frag) (H : Hp) (m : Addr) (made : List Wish) : Prop := ∃ vs, H m = some (.lst vs) ∧ Paired (WishR K H) vs made
def StR (K : PySem.W.Frag) (H : Hp) (v : V) (s : BSt) : Prop := ∃ a d m, v = .ref a ∧ H a = some (.lst [.ref d, .ref m]) ∧ DictAt K H d s.kept ∧ MadeAt K H m s.made
def PastAt (K : PySem.W.Frag) (H : Hp) (p : Addr) (sts : List BSt) : Prop := ∃ vs, H p = some (.lst vs) ∧ Paired (StR K H) vs sts.reverse
theorem not_mut {α : Type} {F : V → α → Prop} (hF : ∀ v b, F v b → ∃ a, v = .ref a) {vs : List V} {l : List α} (h : Paired F vs l) : ¬ Mut (.lst vs) := by
  rintro ⟨a, b, c, e⟩
  subst e
  cases h with
  | cons f _ =>
    obtain ⟨x, e⟩ := hF _ _ f
    cases e
theorem MadeAt.kp {K : PySem.W.Frag} {H H' : Hp} {m : Addr} {made : List Wish} (h : MadeAt K H m made) (s : Kp H H') : MadeAt K H' m made := by
  obtain ⟨vs, h1, h2⟩ := h
  exact ⟨vs, s _ _ h1 (not_mut (fun v b ⟨t, e, _⟩ => ⟨t, e⟩) h2), wishes_kp s h2⟩
theorem StR.kp {K : PySem.W.Frag} {H H' : Hp} {v : V} {st : BSt} (h : StR K H v st) (s : Kp H H') : StR K H' v st := by
  obtain ⟨a, d, m, e, h1, h2, h3⟩ := h
  exact ⟨a, d, m, e, s _ _ h1 (fun ⟨_, _, _, z⟩ => by cases z), h2.kp s, h3.kp s⟩
theorem sts_kp {K : PySem.W.Frag} {H H' : Hp} (s : Kp H H') : ∀ {vs : List V} {l : List BSt}, Paired (StR K H) vs l → Paired (StR K H') vs l
  | _, _, .nil => .nil
  | _, _, .cons h t => .cons (h.kp s) (sts_kp s t)
theorem PastAt.kp {K : PySem.W.Frag} {H H' : Hp} {p : Addr} {sts : List BSt} (h : PastAt K H p sts) (s : Kp H H') : PastAt K H' p sts := by
  obtain ⟨vs, h1, h2⟩ := h
  exact ⟨vs, s _ _ h1 (not_mut (fun v b ⟨a, _, _, e, _⟩ => ⟨a, e⟩) h2), sts_kp s h2⟩
theorem prd_last {α β : Type} {F : α → β → Prop} : ∀ {vs : List α} {l : List β} {b : β}, Paired F vs (l ++ [b]) → ∃ ws a, vs = ws ++ [a] ∧ Paired F ws l ∧ F a b
  | _, [], b, .cons f .nil => ⟨[], _, rfl, .nil, f⟩
  | _, c :: l, b, .cons f t => by
    obtain ⟨ws, a, e, h1, h2⟩ := prd_last t
    exact ⟨_ :: ws, a, by rw [e]; rfl, .cons f h1, h2⟩
theorem PastAt.last {K : PySem.W.Frag} {H : Hp} {p : Addr} {s : BSt} {rest : List BSt} (h : PastAt K H p (s :: rest)) :
    ∃ ws a d m, H p = some (.lst (ws ++ [.ref a])) ∧ Paired (StR K H) ws rest.reverse ∧ H a = some (.lst [.ref d, .ref m]) ∧ DictAt K H d s.kept ∧ MadeAt K H m s.made := by
  obtain ⟨vs, h1, h2⟩ := h
  rw [List.reverse_cons] at h2
  obtain ⟨ws, v, rfl, h3, ⟨a, d, m, rfl, h4, h5, h6⟩⟩ := prd_last h2
  exact ⟨ws, a, d, m, h1, h3, h4, h5, h6⟩
theorem PastAt.add {K : PySem.W.Frag} {H : Hp} {p a : Addr} {vs : List V} {s : BSt} {rest : List BSt} (h1 : H p = some (.lst (vs ++ [.ref a]))) (h2 : Paired (StR K H) vs rest.reverse) (h3 : StR K H (.ref a) s) : PastAt K H p (s :: rest) :=
  ⟨_, h1, by rw [List.reverse_cons]; exact h2.snoc h3⟩
inductive Due where
  | err (nm tx : Str)
  | go (sts : List BSt)
def DueAt (K : PySem.W.Frag) (H : Hp) (a : Addr) : Due → Prop
  | .err nm tx => H a = some (.lst [.str "error", .str nm, .str tx])
  | .go sts => PastAt K H a sts
noncomputable def dueOf (s : BSt) (rest : List BSt) : Deed → Due
  | .undo => if rest = [] then .err "NothingToUndo" "None" else .go rest
  | .lift i => if 0 ≤ i ∧ i < s.made.length then .go (⟨s.kept, s.made.take i.toNat ++ s.made.drop (i.toNat + 1)⟩ :: s :: rest) else .err "InvalidIndex" (toString i)
  | .wish wi => if fits s wi = true then .go (⟨s.kept, s.made ++ [wi]⟩ :: s :: rest) else .err "Broken" (toString (s.made.length : Int))
  | .drop nm => if idx s.kept nm = none then .err "UnknownName" (reprText nm) else match used s.made nm with
    | some i => .err "InUse" (toString (i : Int))
    | none => .go (⟨without s.kept nm, s.made⟩ :: s :: rest)
  | .put nm ns => match bad s.made nm ns with
    | some i => .err "Broken" (toString (i : Int))
    | none => .go (⟨without s.kept nm ++ [(nm, ns)], s.made⟩ :: s :: rest)
theorem firstIx {α : Type} (l : List α) (p : α → Bool) : ((List.range l.length).filter fun k => (l[k]?).any p).head? = l.findIdx? p := by
  rw [List.head?_filter]
  cases h : l.findIdx? p with
  | none =>
    rw [List.find?_range_eq_none]
    intro i hi
    rw [List.findIdx?_eq_none_iff] at h
    rw [List.getElem?_eq_getElem hi, Option.any_some, h _ (List.getElem_mem hi)]
    rfl
  | some i =>
    rw [List.findIdx?_eq_some_iff_getElem] at h
    obtain ⟨h1, h2, h3⟩ := h
    rw [List.find?_range_eq_some]
    refine ⟨by rw [List.getElem?_eq_getElem h1, Option.any_some]; exact h2, List.mem_range.mpr h1, fun j hj => ?_⟩
    rw [List.getElem?_eq_getElem (by omega), Option.any_some, Bool.not_eq_true']
    exact Bool.not_eq_true _ ▸ h3 j hj
/-- what a dict says of a name -/
theorem dict_idx {K : PySem.W.Frag} {H : Hp} {nm : Str} : ∀ {kvs : List (Key × V)} {kept : List (Str × List Int)}, Paired (KvR K H) kvs kept →
    (idx kept nm = none ∧ valV kvs (.inr nm) = none) ∨ ∃ i p t, idx kept nm = some i ∧ kept[i]? = some p ∧ valV kvs (.inr nm) = some (.ref t) ∧ SqT K H t (p.2.map V.int)
  | _, _, .nil => .inl ⟨rfl, rfl⟩
  | kv :: kvs, p :: kept, .cons ⟨t, e, ht⟩ h => by
    subst e
    unfold idx valV
    rw [List.findIdx?_cons]
    by_cases c : p.1 = nm
    · right
      refine ⟨0, p, t, by rw [decide_eq_true c]; rfl, rfl, ?_, ht⟩
      rw [List.find?_cons_of_pos (by exact decide_eq_true (congrArg Sum.inr c))]
      rfl
    · rw [decide_eq_false c, List.find?_cons_of_neg (by rw [decide_eq_false (fun z => c (Sum.inr.inj z))]; decide)]
      rcases dict_idx (nm := nm) h with ⟨h1, h2⟩ | ⟨i, q, t2, h1, h2, h3, h4⟩
      · left
        unfold idx at h1
        refine ⟨by rw [h1]; rfl, h2⟩
      · right
        unfold idx at h1
        exact ⟨i + 1, q, t2, by rw [h1]; rfl, h2, h3, h4⟩


section
variable {w : World} {K : PySem.W.Frag} {mg : Str → Option Value} {base : Heap}
theorem cut_init (ws : List V) (v : V) : cutV (ws ++ [v]) none (some (-1)) = ws := by
  have e : HT.sIx (ws ++ [v]).length (ws ++ [v]).length (some (-1)) = ws.length := by
    show (if (-1 : Int) < 0 then ((-1 : Int) + ((ws ++ [v]).length : Int)).toNat else min (Int.toNat (-1)) (ws ++ [v]).length) = ws.length
    rw [if_pos (by decide), List.length_append]
    show (-1 + ((ws.length + 1 : Nat) : Int)).toNat = ws.length
    omega
  unfold cutV
  rw [e, HT.sIx_none, List.drop_zero, Nat.sub_zero, List.take_append_of_le_length (Nat.le_refl _), List.take_length]
theorem w_reprI {i : Int} {H : Hp} {Q : VK} (h : -1000 ≤ i ∧ i ≤ 1000 → i.natAbs.log2 < 1920) (b : -1000 ≤ i ∧ i ≤ 1000) (q : Q (.str (toString i)) H) : rRepr [.int i] H Q := .inl ⟨i, rfl, h b, q⟩
/-- the places below m whose wish fits p -/
def ixs (made : List Wish) (p : Wish → Bool) (m : Nat) : List Nat := (List.range m).filter fun k => (made[k]?).any p
theorem ixs_succ (made : List Wish) (p : Wish → Bool) (m : Nat) : ixs made p (m + 1) = ixs made p m ++ (if (made[m]?).any p = true then [m] else []) := by
  unfold ixs
  rw [List.range_succ, List.filter_append]
  congr 1
  rw [List.filter_cons]
  split <;> rfl
theorem ixs_len (made : List Wish) (p : Wish → Bool) (m : Nat) : (ixs made p m).length ≤ m := by
  unfold ixs
  exact Nat.le_trans (List.length_filter_le ..) (by rw [List.length_range]; exact Nat.le_refl _)
theorem ixs_head (made : List Wish) (p : Wish → Bool) : (ixs made p made.length).head? = made.findIdx? p := firstIx made p
def natsV (l : List Nat) : List V := l.map fun (k : Nat) => V.int k
theorem w_neE {K : PySem.W.Frag} {H : Hp} {Q : VK} {l : List Nat} {f e : Addr} (h1 : SqL K H f (natsV l)) (h2 : SqL K H e []) (q : Q (.bl (!l.isEmpty)) H) : rNeD K (.ref f) (.ref e) H Q := by
  have e2 : natsV l = (l.map fun (k : Nat) => (k : Int)).map V.int := by unfold natsV; rw [List.map_map]; rfl
  rw [e2] at h1
  refine ⟨_, _, .lst h1 (dpInts _), .lst h2 .nil, shIntsL _, shIntsL [], ?_⟩
  cases l with
  | nil => exact q
  | cons a l => exact q
theorem repr_nm {nm : Str} (h : nm ∈ NAMES) : (reprText nm).length ≤ 1000 := by
  simp only [NAMES, List.mem_cons, List.not_mem_nil, or_false] at h
  rcases h with rfl | rfl | rfl <;> decide +kernel
theorem log_small {i : Int} (h : -1000 ≤ i ∧ i ≤ 1000) : i.natAbs.log2 < 1920 := by
  by_cases c : i.natAbs = 0
  · rw [c]; decide
  · exact Nat.lt_trans ((Nat.log2_lt c).mpr (show i.natAbs < 2 ^ 10 by omega)) (by decide)
theorem sc_law_book_due : FnScope ns_law_book_due ps_law_book_due (defScope s_law_book_due) := ⟨rfl, rfl, rfl, by decide +kernel, rfl, by decide +kernel, by decide +kernel⟩
def sp_law_book_due (K : PySem.W.Frag) : Sp := fun vs H Q _ => ∃ (p q : Addr) (s : BSt) (rest : List BSt) (de : Deed), vs = [.ref p, .ref q] ∧ PastAt K H p (s :: rest) ∧ DeedAt K H q de ∧ DeedOk de ∧ KeptOk s.kept ∧ (∀ wi ∈ s.made, WishOk wi) ∧ s.made.length ≤ 40 ∧ rest.length ≤ 40 ∧
  ∀ a H', Same H H' → DueAt K H' a (dueOf s rest de) → Q (.ref a) H'
theorem ok_law_book_due (T : Txt w K mg) : Has PP w K mg base d_law_book_due 7 ps_law_book_due (sp_law_book_due K) := by
  refine mkHas T.f_law_book_due sc_law_book_due (fun _ _ _ _ _ _ us hl => match us, hl with | [_, _], _ => rfl) (fun vs H Q E h => ?_) (fun cdv A outer s H vs Q E hr h => ⟨_, (pss_cons (ps_asg (pe_ix (r := rIxL K) ix_list (pv 0) (pe_un un_neg pe_int) (fun _ _ => rfl)) (pg_unl rfl (pgs_cons (pg_name (i := 2) sc_law_book_due.nd rfl (Or.inl rfl)) (pgs_cons (pg_name (i := 3) sc_law_book_due.nd rfl (Or.inr rfl)) pgs_nil))))
 (pss_cons (ps_set (i := 4) sc_law_book_due.nd rfl (Or.inl rfl) (pe_ix (r := rIxL K) ix_list (pv 1) pe_int (fun _ _ => rfl)))
 (pss_cons (ps_if (pt_cmpR op_eq (pv 4) pe_str (nomark _)) (pss_one (ps_ret (pe_ifExp (pt_cmpR op_gt (pe_callB ca_len rfl T.n_len PySem.boot_len (pa_cons (pv 0) pa_nil)) pe_int (nomark _)) (pe_slice sl_list (pv 0) po_none (po_some (pe_un un_neg pe_int))) (pe_lst (pa_cons pe_str (pa_cons pe_str (pa_cons pe_str pa_nil))))))) pss_nil)
 (pss_cons (ps_if (pt_cmpR op_eq (pv 4) pe_str (nomark _)) (pss_cons (ps_if (pt_not (pt_chain op_le op_lt pe_int (pe_ix (r := rIxL K) ix_list (pv 1) pe_int (fun _ _ => rfl)) (pe_callB ca_len rfl T.n_len PySem.boot_len (pa_cons (pv 3) pa_nil)))) (pss_one (ps_ret (pe_lst (pa_cons pe_str (pa_cons pe_str (pa_cons (pe_callB ca_repr rfl T.n_repr (by kernel_rfl) (pa_cons (pe_ix (r := rIxL K) ix_list (pv 1) pe_int (fun _ _ => rfl)) pa_nil)) pa_nil)))))) pss_nil)
 (pss_one (ps_ret (pe_op op_cat (pv 0) (pe_lst (pa_cons (pe_lst (pa_cons (pv 2) (pa_cons (pe_op op_cat (pe_slice sl_list (pv 3) po_none (po_some (pe_ix (r := rIxL K) ix_list (pv 1) pe_int (fun _ _ => rfl)))) (pe_slice sl_list (pv 3) (po_some (pe_op op_add (pe_ix (r := rIxL K) ix_list (pv 1) pe_int (fun _ _ => rfl)) pe_int)) po_none)) pa_nil))) pa_nil)))))) pss_nil)
 (pss_cons (ps_if (pt_cmpR op_eq (pv 4) pe_str (nomark _)) (pss_cons (ps_set (i := 5) sc_law_book_due.nd rfl (Or.inl rfl) (pe_ix (r := rIxL K) ix_list (pv 1) pe_int (fun _ _ => rfl)))
 (pss_cons (ps_if (PW.pt (pw_or (pt_cmp (pc_dnotin (hu_of hr) (pe_ix (r := rIxT K) ix_tup (pv 5) pe_int (fun _ _ => rfl)) (pv 2)) rfl) (pw_or1 (pt_not (pt_val (cF (ok_law_holds T) (hr.mono (by decide)) T.g_law_holds (pa_cons (pv 5) (pa_cons (pe_dget (hu_of hr) (pv 2) (pe_ix (r := rIxT K) ix_tup (pv 5) pe_int (fun _ _ => rfl)) (fun _ _ => rfl)) pa_nil)))))))) (pss_one (ps_ret (pe_lst (pa_cons pe_str (pa_cons pe_str (pa_cons (pe_callTy ca_str rfl T.n_str boot_str (pa_cons (pe_callB ca_len rfl T.n_len PySem.boot_len (pa_cons (pv 3) pa_nil)) pa_nil)) pa_nil)))))) pss_nil)
 (pss_one (ps_ret (pe_op op_cat (pv 0) (pe_lst (pa_cons (pe_lst (pa_cons (pv 2) (pa_cons (pe_op op_cat (pv 3) (pe_lst (pa_cons (pv 5) pa_nil))) pa_nil))) pa_nil))))))) pss_nil)
 (pss_cons (ps_set (i := 6) sc_law_book_due.nd rfl (Or.inr rfl) (pe_ix (r := rIxL K) ix_list (pv 1) pe_int (fun _ _ => rfl)))
 (pss_cons (ps_setLc (i := 7) rfl sc_law_book_due.nd rfl rfl (sw_true rfl rfl rfl (by decide +kernel)) (pi_range1 rfl T.n_range (pa_cons (pe_callB ca_len rfl T.n_len PySem.boot_len (pa_cons (pv 3) pa_nil)) pa_nil)) (blkOk_by (own := [("_law_k", 8)]) (N := ns_law_book_due) (sc := defScope s_law_book_due) (by decide +kernel)) (fun _ _ _ _ _ => pg_name (i := 8) sc_law_book_due.nd rfl (Or.inl rfl)) (fun _ _ _ _ _ => (pts_one (pt_cmpR op_eq (pe_ix (r := rIxT K) ix_tup (pe_ix (r := rIxL K) ix_list (pv 3) (pv 8) (fun _ _ => rfl)) pe_int (fun _ _ => rfl)) (pv 6) (nomark _)))) (fun _ _ _ _ _ => (pv 8)))
 (pss_cons (ps_if (pt_cmpR op_eq (pv 4) pe_str (nomark _)) (pss_cons (ps_if (pt_cmp (pc_dnotin (hu_of hr) (pv 6) (pv 2)) rfl) (pss_one (ps_ret (pe_lst (pa_cons pe_str (pa_cons pe_str (pa_cons (pe_callB ca_repr rfl T.n_repr (by kernel_rfl) (pa_cons (pv 6) pa_nil)) pa_nil)))))) pss_nil)
 (pss_cons (ps_if (pt_cmpR (op_neD hr.units) (pv 7) (pe_lst pa_nil) (nomark _)) (pss_one (ps_ret (pe_lst (pa_cons pe_str (pa_cons pe_str (pa_cons (pe_callTy ca_str rfl T.n_str boot_str (pa_cons (pe_ix (r := rIxL K) ix_list (pv 7) pe_int (fun _ _ => rfl)) pa_nil)) pa_nil)))))) pss_nil)
 (pss_one (ps_ret (pe_op op_cat (pv 0) (pe_lst (pa_cons (pe_lst (pa_cons (cF (ok_law_kept T) (hr.mono (by decide)) T.g_law_kept (pa_cons (pv 2) (pa_cons (pv 6) (pa_cons pe_non pa_nil)))) (pa_cons (pv 3) pa_nil))) pa_nil))))))) pss_nil)
 (pss_cons (ps_setLc (i := 9) rfl sc_law_book_due.nd rfl rfl (sw_true rfl rfl rfl (by decide +kernel)) (pi_list (pv 7)) (blkOk_by (own := [("_law_k", 8)]) (N := ns_law_book_due) (sc := defScope s_law_book_due) (by decide +kernel)) (fun _ _ _ _ _ => pg_name (i := 8) sc_law_book_due.nd rfl (Or.inl rfl)) (fun _ _ _ _ _ => (pts_one (pt_not (pt_val (cF (ok_law_holds T) (hr.mono (by decide)) T.g_law_holds (pa_cons (pe_ix (r := rIxL K) ix_list (pv 3) (pv 8) (fun _ _ => rfl)) (pa_cons (pe_ix (r := rIxL K) ix_list (pv 1) pe_int (fun _ _ => rfl)) pa_nil))))))) (fun _ _ _ _ _ => (pv 8)))
 (pss_cons (ps_if (pt_cmpR (op_neD hr.units) (pv 9) (pe_lst pa_nil) (nomark _)) (pss_one (ps_ret (pe_lst (pa_cons pe_str (pa_cons pe_str (pa_cons (pe_callTy ca_str rfl T.n_str boot_str (pa_cons (pe_ix (r := rIxL K) ix_list (pv 9) pe_int (fun _ _ => rfl)) pa_nil)) pa_nil)))))) pss_nil)
 (pss_one (ps_ret (pe_op op_cat (pv 0) (pe_lst (pa_cons (pe_lst (pa_cons (cF (ok_law_kept T) (hr.mono (by decide)) T.g_law_kept (pa_cons (pv 2) (pa_cons (pv 6) (pa_cons (pe_ix (r := rIxL K) ix_list (pv 1) pe_int (fun _ _ => rfl)) pa_nil)))) (pa_cons (pv 3) pa_nil))) pa_nil))))))))))))))), ?_⟩)
  · obtain ⟨p, q, s, rest, de, rfl, _⟩ := h
    rfl
  · obtain ⟨p, q, s, rest, de, rfl, hp, hq, dok, kok, wok, hml, hrl, fin⟩ := h
    obtain ⟨ws, a, d, m, p1, p2, a1, d1, m1⟩ := hp.last
    have lws : ws.length ≤ 40 := by rw [prd_len p2, List.length_reverse]; exact hrl
    obtain ⟨ms, m2, m3⟩ := id m1
    have lms := prd_len m3
    obtain ⟨kvs, k1, k2⟩ := id d1
    have err : ∀ (nm tx : Str) (H1 : Hp), Same H H1 → dueOf s rest de = .err nm tx → ∀ e, H1 e = none → Q (.ref e) (upd H1 e (.lst [.str "error", .str nm, .str tx])) :=
      fun nm tx H1 s1 e1 e he => fin e _ (s1.u he) (by rw [e1]; exact upd_same)
    -- a new state: its pair, the list of the pair, the new past
    have go : ∀ (st : BSt) (H1 : Hp), Same H H1 → dueOf s rest de = .go (st :: s :: rest) → ∀ d' m', DictAt K H1 d' st.kept → MadeAt K H1 m' st.made → ∀ x, H1 x = none → ∀ y, (upd H1 x (.lst [.ref d', .ref m'])) y = none → ∀ z, (upd (upd H1 x (.lst [.ref d', .ref m'])) y (.lst [.ref x])) z = none →
        Q (.ref z) (upd (upd (upd H1 x (.lst [.ref d', .ref m'])) y (.lst [.ref x])) z (.lst (ws ++ [.ref a] ++ [.ref x]))) := by
      intro st H1 s1 e1 d' m' hd hm x hx y hy z hz
      have s2 := ((s1.u (o := .lst [.ref d', .ref m']) hx).u (o := .lst [.ref x]) hy).u (o := .lst (ws ++ [.ref a] ++ [.ref x])) hz
      have t2 := ((sameU (o := .lst [.ref d', .ref m']) hx).u (o := .lst [.ref x]) hy).u (o := .lst (ws ++ [.ref a] ++ [.ref x])) hz
      have ex : (upd (upd (upd H1 x (.lst [.ref d', .ref m'])) y (.lst [.ref x])) z (.lst (ws ++ [.ref a] ++ [.ref x]))) x = some (.lst [.ref d', .ref m']) := by
        rw [upd_ne (fun e => by rw [← e, upd_ne (fun e => by rw [← e, upd_same] at hy; cases hy), upd_same] at hz; cases hz), upd_ne (fun e => by rw [← e, upd_same] at hy; cases hy), upd_same]
      refine fin z _ s2 ?_
      rw [e1]
      refine PastAt.add upd_same ?_ ⟨x, d', m', rfl, ex, hd.kp (kpS t2), hm.kp (kpS t2)⟩
      rw [List.reverse_cons]
      exact sts_kp (kpS s2) (p2.snoc ⟨a, d, m, rfl, a1, d1, m1⟩)
    walk_at "w"
    refine w_ixL (sqL p1) (atI_last ..) ?_
    refine w_unl rfl (sqL a1) ?_
    walk_at "w"
    cases de with
    | undo =>
      refine w_ixL (sqL hq) (atI_nat (j := 0) rfl) ?_
      walk_at "w"
      refine if_dT rfl ?_
      walk_at "w"
      refine w_rlenL (sqL p1) ?_
      rw [List.length_append]
      walk_at "w"
      refine if_d (fun c => ?_) (fun c => ?_)
      · have c : rest ≠ [] := fun e => by
          rw [e] at p2
          cases p2
          exact absurd c (by simp)
        walk_at "w"
        refine w_slL (sqL p1) fun l hl => ?_
        rw [cut_init]
        have s1 := sameU (o := .lst ws) hl
        exact fin l _ s1 (by show DueAt K _ l (if rest = [] then _ else _); rw [if_neg c]; exact ⟨ws, upd_same, sts_kp (kpS s1) p2⟩)
      · have c : rest = [] := by
          cases rest with
          | nil => rfl
          | cons b l =>
            have := prd_len p2
            rw [List.length_reverse, List.length_cons] at this
            exact absurd (show (1 : Int) < ((ws.length + [V.ref a].length : Nat) : Int) by rw [this, List.length_singleton]; omega) c
        walk_at "w"
        exact ⟨le_line (by simp), fun e he => err _ _ H (Same.refl _) (by show (if rest = [] then _ else _) = _; rw [if_pos c]) e he⟩
    | lift i =>
      refine w_ixL (sqL hq) (atI_nat (j := 0) rfl) ?_
      walk_at "w"
      refine if_dF (by decide) ?_
      walk_at "w"
      refine if_dT rfl ?_
      walk_at "w"
      refine w_ixL (sqL hq) (atI_nat (j := 1) rfl) ?_
      walk_at "w"
      have bad : ¬ (0 ≤ i ∧ i < s.made.length) → ∀ e, H e = none → Q (.ref e) (upd H e (.lst [.str "error", .str "InvalidIndex", .str (toString i)])) := fun c e he =>
        err _ _ H (Same.refl _) (by show (if 0 ≤ i ∧ i < s.made.length then _ else _) = _; rw [if_neg c]) e he
      have hi : -1 ≤ i ∧ i ≤ 100 := dok
      refine if_d (fun c => ?_) (fun c => ?_)
      · walk_at "w"
        refine w_rlenL (sqL m2) ?_
        rw [lms]
        walk_at "w"
        refine if_dn (fun c2 => ?_) (fun c2 => ?_)
        · walk_at "w"
          refine w_ixL (sqL hq) (atI_nat (j := 1) rfl) ?_
          walk_at "w"
          refine w_reprI log_small (by omega) ?_
          walk_at "w"
          exact ⟨le_line (by simp), fun e he => bad (fun z => c2 z.2) e he⟩
        · obtain ⟨k, rfl⟩ : ∃ k : Nat, i = k := ⟨i.toNat, by omega⟩
          walk_at "w"
          refine w_ixL (sqL hq) (atI_nat (j := 1) rfl) ?_
          walk_at "w"
          refine w_slL (sqL m2) fun l1 hl1 => ?_
          rw [cut_upto]
          have s1 := sameU (o := .lst (ms.take k)) hl1
          have e1 := upd_same (H := H) (a := l1) (o := .lst (ms.take k))
          generalize upd H l1 (.lst (ms.take k)) = H1 at s1 e1
          walk_at "w"
          refine w_ixL (sqL (s1 _ _ hq)) (atI_nat (j := 1) rfl) ?_
          walk_at "w"
          refine w_slL (sqL (s1 _ _ m2)) fun l2 hl2 => ?_
          rw [show (k : Int) + 1 = ((k + 1 : Nat) : Int) from rfl, cut_from]
          have s2 := s1.u (o := .lst (ms.drop (k + 1))) hl2
          have e2 := upd_same (H := H1) (a := l2) (o := .lst (ms.drop (k + 1)))
          have e3 := sameU (o := .lst (ms.drop (k + 1))) hl2 _ _ e1
          generalize upd H1 l2 (.lst (ms.drop (k + 1))) = H2 at s2 e2 e3
          have lt1 : (ms.take k).length ≤ ms.length := List.length_take_le' ..
          have lt2 : (ms.drop (k + 1)).length ≤ ms.length := by rw [List.length_drop]; omega
          walk_at "w"
          refine ⟨l1, l2, _, _, rfl, rfl, e3, e2, le_line (by omega), fun l3 hl3 => ?_⟩
          have s3 := s2.u (o := .lst (ms.take k ++ ms.drop (k + 1))) hl3
          have e4 := upd_same (H := H2) (a := l3) (o := .lst (ms.take k ++ ms.drop (k + 1)))
          generalize upd H2 l3 (.lst (ms.take k ++ ms.drop (k + 1))) = H3 at s3 e4
          walk_at "w"
          refine ⟨le_line (by simp), fun x hx => ?_⟩
          walk_at "w"
          refine ⟨le_line (by simp), fun y hy => ?_⟩
          walk_at "w"
          have s4 := (s3.u (o := .lst [.ref d, .ref l3]) hx).u (o := .lst [.ref x]) hy
          refine ⟨p, y, _, _, rfl, rfl, s4 _ _ p1, upd_same, le_line (by simp; omega), fun z hz => ?_⟩
          refine go ⟨s.kept, s.made.take k ++ s.made.drop (k + 1)⟩ H3 s3 ?_ d l3 (d1.kp (kpS s3)) ⟨_, e4, wishes_kp (kpS s3) (prd_append (prd_take k m3) (prd_drop (k + 1) m3))⟩ x hx y hy z hz
          show (if 0 ≤ (k : Int) ∧ (k : Int) < s.made.length then _ else _) = _
          rw [if_pos ⟨by omega, c2⟩, Int.toNat_natCast]
      · walk_at "w"
        refine w_ixL (sqL hq) (atI_nat (j := 1) rfl) ?_
        walk_at "w"
        refine w_reprI log_small (by omega) ?_
        walk_at "w"
        exact ⟨le_line (by simp), fun e he => bad (fun z => c z.1) e he⟩
    | wish wi =>
      obtain ⟨t, hq1, hq2⟩ := hq
      have okw : WishOk wi := dok
      refine w_ixL (sqL hq1) (atI_nat (j := 0) rfl) ?_
      walk_at "w"
      refine if_dF (by decide) ?_
      walk_at "w"
      refine if_dF (by decide) ?_
      walk_at "w"
      refine if_dT rfl ?_
      walk_at "w"
      refine w_ixL (sqL hq1) (atI_nat (j := 1) rfl) ?_
      walk_at "w"
      refine w_ixT hq2 (atI_nat (j := 1) rfl) ?_
      walk_at "w"
      refine w_dnotinS k1 ?_
      have bad : ∀ H1, Same H H1 → fits s wi = false → ∀ e, H1 e = none → Q (.ref e) (upd H1 e (.lst [.str "error", .str "Broken", .str (toString (s.made.length : Int))])) := fun H1 s1 c e he =>
        err _ _ H1 s1 (by show (if fits s wi = true then _ else _) = _; rw [c]; rfl) e he
      rcases dict_idx (nm := wn wi) k2 with ⟨i1, i2⟩ | ⟨i, b, tb, i1, i2, i3, i4⟩
      · have c : fits s wi = false := by unfold fits; rw [i1]
        rw [i2, Option.isSome_none]
        walk_at "w"
        refine w_rlenL (sqL m2) ?_
        rw [lms]
        walk_at "w"
        refine ⟨_, rfl, log_small (by omega), ?_⟩
        walk_at "w"
        exact ⟨le_line (by simp), fun e he => bad H (Same.refl _) c e he⟩
      · have hb : b ∈ s.kept := List.mem_of_getElem? i2
        have hf : fits s wi = holdsB b.2 wi := by unfold fits; rw [i1]; show (match s.kept[i]? with | none => false | some p => holdsB p.2 wi) = _; rw [i2]
        rw [i3, Option.isSome_some]
        walk_at "w"
        refine w_ixT hq2 (atI_nat (j := 1) rfl) ?_
        walk_at "w"
        refine w_dgetS k1 i3 ?_
        walk_at "w"
        refine ⟨t, tb, b.2, wi, rfl, i4, Nat.le_trans (kok.ns b hb).le (by decide), hq2, okw, fun H1 s1 => ?_⟩
        walk_at "w"
        by_cases c : holdsB b.2 wi = true
        · rw [c]
          walk_at "w"
          refine ⟨le_line (by simp), fun l2 hl2 => ?_⟩
          have s2 := s1.u (o := .lst [.ref t]) hl2
          have e2 := upd_same (H := H1) (a := l2) (o := .lst [.ref t])
          generalize upd H1 l2 (.lst [.ref t]) = H2 at s2 e2
          walk_at "w"
          refine ⟨m, l2, _, _, rfl, rfl, s2 _ _ m2, e2, le_line (by simp; omega), fun l3 hl3 => ?_⟩
          have s3 := s2.u (o := .lst (ms ++ [.ref t])) hl3
          have e4 := upd_same (H := H2) (a := l3) (o := .lst (ms ++ [.ref t]))
          generalize upd H2 l3 (.lst (ms ++ [.ref t])) = H3 at s3 e4
          walk_at "w"
          refine ⟨le_line (by simp), fun x hx => ?_⟩
          walk_at "w"
          refine ⟨le_line (by simp), fun y hy => ?_⟩
          walk_at "w"
          have s4 := (s3.u (o := .lst [.ref d, .ref l3]) hx).u (o := .lst [.ref x]) hy
          refine ⟨p, y, _, _, rfl, rfl, s4 _ _ p1, upd_same, le_line (by simp; omega), fun z hz => ?_⟩
          refine go ⟨s.kept, s.made ++ [wi]⟩ H3 s3 ?_ d l3 (d1.kp (kpS s3)) ⟨_, e4, wishes_kp (kpS s3) (m3.snoc ⟨t, rfl, hq2⟩)⟩ x hx y hy z hz
          show (if fits s wi = true then _ else _) = _
          rw [hf, c]
          rfl
        · rw [Bool.not_eq_true] at c
          rw [c]
          walk_at "w"
          refine w_rlenL (sqL (s1 _ _ m2)) ?_
          rw [lms]
          walk_at "w"
          refine ⟨_, rfl, log_small (by omega), ?_⟩
          walk_at "w"
          exact ⟨le_line (by simp), fun e he => bad H1 s1 (by rw [hf, c]) e he⟩
    | drop nm =>
      refine w_ixL (sqL hq) (atI_nat (j := 0) rfl) ?_
      walk_at "w"
      refine if_dF (by decide) ?_
      walk_at "w"
      refine if_dF (by decide) ?_
      walk_at "w"
      refine if_dF (by decide) ?_
      walk_at "w"
      refine w_ixL (sqL hq) (atI_nat (j := 1) rfl) ?_
      walk_at "w"
      refine w_rlenL (sqL m2) ?_
      rw [lms]
      walk_at "w"
      refine ⟨_, rfl, by omega, by omega, ?_⟩
      rw [Int.toNat_natCast]
      refine lc_map walk_range (fun i => natsV (ixs s.made (fun wi => decide (wn wi = nm)) i)) rfl (fun _ _ => trivial) (fun i z H3 H4 D hi hD pp yy => ?_) (fun f H3 s3 hD hl => ?_)
      · obtain ⟨rfl, rfl⟩ := yy
        refine ⟨rfl, ?_⟩
        dsimp only
        rw [Int.zero_add]
        obtain ⟨wi, hwi⟩ : ∃ wi, s.made[i]? = some wi := ⟨_, List.getElem?_eq_getElem hi⟩
        obtain ⟨v, hv, ⟨t, rfl, ht⟩⟩ := prd_at' m3 hwi
        have le := ixs_len s.made (fun wi => decide (wn wi = nm)) i
        have su := ixs_succ s.made (fun wi => decide (wn wi = nm)) i
        rw [hwi, Option.any_some] at su
        walk_at "w"
        refine w_ixL (sqL (pp.1 _ _ m2)) (atI_nat hv) ?_
        walk_at "w"
        refine w_ixT (pp.1.tq ht) (atI_nat (j := 1) rfl) ?_
        walk_at "w"
        refine if_d (fun e => ?_) (fun e => ?_)
        · rw [decide_eq_true e, if_pos rfl] at su
          walk_at "w"
          refine pp.yes hD (Same.refl _) (by unfold natsV; rw [List.length_map]; exact lt_line (by omega)) ?_
          rw [su]
          unfold natsV
          rw [List.map_append]
          rfl
        · rw [decide_eq_false e, if_neg (by decide), List.append_nil] at su
          refine pp.no (Same.refl _) ?_
          rw [su]
      · have hh := ixs_head s.made (fun wi => decide (wn wi = nm))
        have k3 := s3 _ _ k1
        walk_at "w"
        refine if_dT rfl ?_
        walk_at "w"
        refine w_dnotinS k3 ?_
        rcases dict_idx (nm := nm) k2 with ⟨i1, i2⟩ | ⟨i, b, tb, i1, i2', i3, i4⟩
        · rw [i2, Option.isSome_none]
          walk_at "w"
          refine .inr (.inl ⟨nm, rfl, le_line (repr_nm dok), ?_⟩)
          walk_at "w"
          exact ⟨le_line (by simp), fun e he => err _ _ H3 s3 (by show (if idx s.kept nm = none then _ else _) = _; rw [if_pos i1]) e he⟩
        · have ne : ¬ idx s.kept nm = none := by rw [i1]; intro z; cases z
          rw [i3, Option.isSome_some]
          walk_at "w"
          refine ⟨le_line (by simp), fun e he => ?_⟩
          have s4 := s3.u (o := .lst []) he
          have e4 := upd_same (H := H3) (a := e) (o := .lst [])
          have hl4 := sameU (o := .lst []) he _ _ hl
          generalize upd H3 e (.lst []) = H4 at s4 e4 hl4
          refine w_neE (sqL hl4) (sqL e4) ?_
          cases hx : ixs s.made (fun wi => decide (wn wi = nm)) s.made.length with
          | nil =>
            rw [hx] at hh
            rw [List.isEmpty_nil]
            walk_at "w"
            refine ⟨d, nm, .non, s.kept, [], rfl, d1.kp (kpS s4), kok.nd, Nat.le_trans kok.len (by decide), .inl ⟨rfl, rfl⟩, fun d5 H5 s5 hd5 => ?_⟩
            rw [List.append_nil] at hd5
            have s6 := s4.trans s5
            walk_at "w"
            refine ⟨le_line (by simp), fun x hx => ?_⟩
            walk_at "w"
            refine ⟨le_line (by simp), fun y hy => ?_⟩
            walk_at "w"
            have s7 := (s6.u (o := .lst [.ref d5, .ref m]) hx).u (o := .lst [.ref x]) hy
            refine ⟨p, y, _, _, rfl, rfl, s7 _ _ p1, upd_same, le_line (by simp; omega), fun z hz => ?_⟩
            refine go ⟨without s.kept nm, s.made⟩ H5 s6 ?_ d5 m hd5 (m1.kp (kpS s6)) x hx y hy z hz
            show (if idx s.kept nm = none then _ else match used s.made nm with | some i => _ | none => _) = _
            rw [if_neg ne, show used s.made nm = none from hh.symm]
          | cons k l =>
            rw [hx] at hh hl4
            rw [List.isEmpty_cons]
            walk_at "w"
            refine w_ixL (sqL hl4) (atI_nat (j := 0) rfl) ?_
            walk_at "w"
            have hk : k < s.made.length := (List.findIdx?_eq_some_iff_getElem.mp (show used s.made nm = some k from hh.symm)).1
            refine ⟨_, rfl, log_small (by omega), ?_⟩
            walk_at "w"
            refine ⟨le_line (by simp), fun e he => err _ _ H4 s4 ?_ e he⟩
            show (if idx s.kept nm = none then _ else match used s.made nm with | some i => _ | none => _) = _
            rw [if_neg ne, show used s.made nm = some k from hh.symm]
    | put nm ns =>
      obtain ⟨nt, hq, hq2⟩ := hq
      have hns : ns.length ≤ 13 := Nat.le_trans dok.2.le (by decide)
      refine w_ixL (sqL hq) (atI_nat (j := 0) rfl) ?_
      walk_at "w"
      refine if_dF (by decide) ?_
      walk_at "w"
      refine if_dF (by decide) ?_
      walk_at "w"
      refine if_dF (by decide) ?_
      walk_at "w"
      refine w_ixL (sqL hq) (atI_nat (j := 1) rfl) ?_
      walk_at "w"
      refine w_rlenL (sqL m2) ?_
      rw [lms]
      walk_at "w"
      refine ⟨_, rfl, by omega, by omega, ?_⟩
      rw [Int.toNat_natCast]
      refine lc_map walk_range (fun i => natsV (ixs s.made (fun wi => decide (wn wi = nm)) i)) rfl (fun _ _ => trivial) (fun i z H3 H4 D hi hD pp yy => ?_) (fun f H3 s3 hD hl => ?_)
      · obtain ⟨rfl, rfl⟩ := yy
        refine ⟨rfl, ?_⟩
        dsimp only
        rw [Int.zero_add]
        obtain ⟨wi, hwi⟩ : ∃ wi, s.made[i]? = some wi := ⟨_, List.getElem?_eq_getElem hi⟩
        obtain ⟨v, hv, ⟨t, rfl, ht⟩⟩ := prd_at' m3 hwi
        have le := ixs_len s.made (fun wi => decide (wn wi = nm)) i
        have su := ixs_succ s.made (fun wi => decide (wn wi = nm)) i
        rw [hwi, Option.any_some] at su
        walk_at "w"
        refine w_ixL (sqL (pp.1 _ _ m2)) (atI_nat hv) ?_
        walk_at "w"
        refine w_ixT (pp.1.tq ht) (atI_nat (j := 1) rfl) ?_
        walk_at "w"
        refine if_d (fun e => ?_) (fun e => ?_)
        · rw [decide_eq_true e, if_pos rfl] at su
          walk_at "w"
          refine pp.yes hD (Same.refl _) (by unfold natsV; rw [List.length_map]; exact lt_line (by omega)) ?_
          rw [su]
          unfold natsV
          rw [List.map_append]
          rfl
        · rw [decide_eq_false e, if_neg (by decide), List.append_nil] at su
          refine pp.no (Same.refl _) ?_
          rw [su]
      · have hh := ixs_head s.made (fun wi => decide (wn wi = nm) && !holdsB ns wi)
        have w9 : (ixs s.made (fun wi => decide (wn wi = nm)) s.made.length).filter (fun k => (s.made[k]?).any fun wi => !holdsB ns wi) = ixs s.made (fun wi => decide (wn wi = nm) && !holdsB ns wi) s.made.length := by
          unfold ixs
          rw [List.filter_filter]
          refine List.filter_congr fun k hk => ?_
          have hk := List.mem_range.mp hk
          rw [List.getElem?_eq_getElem hk, Option.any_some, Option.any_some, Option.any_some, Bool.and_comm]
        have mem : ∀ k, k ∈ ixs s.made (fun wi => decide (wn wi = nm)) s.made.length → k < s.made.length := fun k hk => List.mem_range.mp (List.mem_filter.mp hk).1
        have lx := ixs_len s.made (fun wi => decide (wn wi = nm)) s.made.length
        generalize ixs s.made (fun wi => decide (wn wi = nm)) s.made.length = xs at hl w9 mem lx
        have hq3 := s3 _ _ hq
        have m4 := s3 _ _ m2
        walk_at "w"
        refine if_dF (by decide) ?_
        walk_at "w"
        refine ⟨f, rfl, ⟨_, sqL hl⟩, lc_map (walk_list (xs := natsV xs)) (fun i => natsV ((xs.take i).filter fun k => (s.made[k]?).any fun wi => !holdsB ns wi)) rfl (fun H' s' => s'.sq (sqL hl)) (fun i z H5 H6 D hi hD pp yy => ?_) (fun g H5 s5 hD2 hg => ?_)⟩
        · obtain ⟨rfl, yy⟩ := yy
          refine ⟨rfl, ?_⟩
          obtain ⟨k, hk, rfl⟩ : ∃ k : Nat, xs[i]? = some k ∧ z = .int k := by
            unfold natsV at yy
            rw [List.getElem?_map] at yy
            cases e : xs[i]? with
            | none => rw [e] at yy; cases yy
            | some k => rw [e] at yy; cases yy; exact ⟨k, rfl, rfl⟩
          have hkm := mem k (List.mem_of_getElem? hk)
          obtain ⟨wi, hwi⟩ : ∃ wi, s.made[k]? = some wi := ⟨_, List.getElem?_eq_getElem hkm⟩
          obtain ⟨v, hv, ⟨t, rfl, ht⟩⟩ := prd_at' m3 hwi
          have le : ((xs.take i).filter fun k => (s.made[k]?).any fun wi => !holdsB ns wi).length ≤ 40 := Nat.le_trans (List.length_filter_le ..) (by rw [List.length_take]; omega)
          have su : (xs.take (i + 1)).filter (fun k => (s.made[k]?).any fun wi => !holdsB ns wi) = (xs.take i).filter (fun k => (s.made[k]?).any fun wi => !holdsB ns wi) ++ (if (!holdsB ns wi) = true then [k] else []) := by
            rw [take_at hk, List.filter_append]
            congr 1
            rw [List.filter_cons, hwi, Option.any_some]
            split <;> rfl
          have s6 := s3.trans pp.1
          walk_at "w"
          refine w_ixL (sqL (pp.1 _ _ m4)) (atI_nat hv) ?_
          walk_at "w"
          refine w_ixL (sqL (pp.1 _ _ hq3)) (atI_nat (j := 2) rfl) ?_
          walk_at "w"
          refine ⟨t, nt, ns, wi, rfl, s6.tq hq2, hns, s6.tq ht, wok wi (List.mem_of_getElem? hwi), fun H7 s7 => ?_⟩
          walk_at "w"
          cases c : holdsB ns wi with
          | true =>
            rw [c] at su
            walk_at "w"
            refine pp.no s7 ?_
            rw [su, if_neg (by decide), List.append_nil]
          | false =>
            rw [c] at su
            walk_at "w"
            refine pp.yes hD s7 (by unfold natsV; rw [List.length_map]; exact lt_line (by omega)) ?_
            rw [su, if_pos (by decide)]
            unfold natsV
            rw [List.map_append]
            rfl
        · rw [show (natsV xs).length = xs.length by unfold natsV; rw [List.length_map], List.take_length, w9] at hg
          have s6 := s3.trans s5
          walk_at "w"
          refine ⟨le_line (by simp), fun e he => ?_⟩
          have s7 := s6.u (o := .lst []) he
          have e4 := upd_same (H := H5) (a := e) (o := .lst [])
          have hg4 := sameU (o := .lst []) he _ _ hg
          generalize upd H5 e (.lst []) = H6 at s7 e4 hg4
          refine w_neE (sqL hg4) (sqL e4) ?_
          cases hx : ixs s.made (fun wi => decide (wn wi = nm) && !holdsB ns wi) s.made.length with
          | nil =>
            rw [hx] at hh
            rw [List.isEmpty_nil]
            walk_at "w"
            refine w_ixL (sqL (s7 _ _ hq)) (atI_nat (j := 2) rfl) ?_
            walk_at "w"
            refine ⟨d, nm, .ref nt, s.kept, [(nm, ns)], rfl, d1.kp (kpS s7), kok.nd, Nat.le_trans kok.len (by decide), .inr ⟨nt, ns, rfl, s7.tq hq2, rfl⟩, fun d5 H7 s8 hd5 => ?_⟩
            have s8 := s7.trans s8
            walk_at "w"
            refine ⟨le_line (by simp), fun x hx => ?_⟩
            walk_at "w"
            refine ⟨le_line (by simp), fun y hy => ?_⟩
            walk_at "w"
            have s9 := (s8.u (o := .lst [.ref d5, .ref m]) hx).u (o := .lst [.ref x]) hy
            refine ⟨p, y, _, _, rfl, rfl, s9 _ _ p1, upd_same, le_line (by simp; omega), fun z hz => ?_⟩
            refine go ⟨without s.kept nm ++ [(nm, ns)], s.made⟩ H7 s8 ?_ d5 m hd5 (m1.kp (kpS s8)) x hx y hy z hz
            show (match bad s.made nm ns with | some i => _ | none => _) = _
            rw [show bad s.made nm ns = none from hh.symm]
          | cons k l =>
            rw [hx] at hh hg4
            rw [List.isEmpty_cons]
            walk_at "w"
            refine w_ixL (sqL hg4) (atI_nat (j := 0) rfl) ?_
            walk_at "w"
            have hk : k < s.made.length := (List.findIdx?_eq_some_iff_getElem.mp (show bad s.made nm ns = some k from hh.symm)).1
            refine ⟨_, rfl, log_small (by omega), ?_⟩
            walk_at "w"
            refine ⟨le_line (by simp), fun e he => err _ _ H6 s7 ?_ e he⟩
            show (match bad s.made nm ns with | some i => _ | none => _) = _
            rw [show bad s.made nm ns = some k from hh.symm]
end


/-! ### what a deed comes to -/
inductive Err where
  | broken (i : Nat)
  | inUse (i : Nat)
  | unknown (nm : Str)
  | badIndex (i : Int)
  | nothing
def Err.nm : Err → Str
  | .broken _ => "Broken"
  | .inUse _ => "InUse"
  | .unknown _ => "UnknownName"
  | .badIndex _ => "InvalidIndex"
  | .nothing => "NothingToUndo"
def Err.tx : Err → Str
  | .broken i => toString (i : Int)
  | .inUse i => toString (i : Int)
  | .unknown nm => reprText nm
  | .badIndex i => toString i
  | .nothing => "None"
def ErrAt (H H' : Hp) (od : Option Addr) : Err → Prop
  | .broken i => ∃ d, od = some d ∧ H d = none ∧ H' d = some (.xd [("index", .int i)])
  | .inUse i => ∃ d, od = some d ∧ H d = none ∧ H' d = some (.xd [("index", .int i)])
  | .unknown nm => ∃ d, od = some d ∧ H d = none ∧ H' d = some (.xd [("given", .str nm)])
  | .badIndex i => ∃ d, od = some d ∧ H d = none ∧ H' d = some (.xd [("given", .int i)])
  | .nothing => od = none
noncomputable def act (s : BSt) (rest : List BSt) : Deed → Except Err (List BSt)
  | .undo => if rest = [] then .error .nothing else .ok rest
  | .lift i => if 0 ≤ i ∧ i < s.made.length then .ok (⟨s.kept, s.made.take i.toNat ++ s.made.drop (i.toNat + 1)⟩ :: s :: rest) else .error (.badIndex i)
  | .wish wi => if fits s wi = true then .ok (⟨s.kept, s.made ++ [wi]⟩ :: s :: rest) else .error (.broken s.made.length)
  | .drop nm => if idx s.kept nm = none then .error (.unknown nm) else match used s.made nm with
    | some i => .error (.inUse i)
    | none => .ok (⟨without s.kept nm, s.made⟩ :: s :: rest)
  | .put nm ns => match bad s.made nm ns with
    | some i => .error (.broken i)
    | none => .ok (⟨without s.kept nm ++ [(nm, ns)], s.made⟩ :: s :: rest)
def dueR : Except Err (List BSt) → Due
  | .error e => .err e.nm e.tx
  | .ok sts => .go sts
theorem due_act (s : BSt) (rest : List BSt) (de : Deed) : dueOf s rest de = dueR (act s rest de) := by
  cases de with
  | undo =>
    by_cases c : rest = []
    · simp only [dueOf, act, if_pos c]; rfl
    · simp only [dueOf, act, if_neg c]; rfl
  | lift i =>
    by_cases c : 0 ≤ i ∧ i < s.made.length
    · simp only [dueOf, act, if_pos c]; rfl
    · simp only [dueOf, act, if_neg c]; rfl
  | wish wi =>
    by_cases c : fits s wi = true
    · simp only [dueOf, act, if_pos c]; rfl
    · simp only [dueOf, act, if_neg c]; rfl
  | drop nm =>
    by_cases c : idx s.kept nm = none
    · simp only [dueOf, act, if_pos c]; rfl
    · simp only [dueOf, act, if_neg c]
      cases used s.made nm <;> rfl
  | put nm ns =>
    simp only [dueOf, act]
    cases bad s.made nm ns <;> rfl
theorem Txt.nsqB {w : World} {K : PySem.W.Frag} {mg : Str → Option Value} (T : Txt w K mg) : PySem.W.noSeq K (He.ga K "Book") = true := (He.ba T.bkB).1
section
variable {w : World} {K : PySem.W.Frag} {mg : Str → Option Value} {base : Heap}
theorem sc_law_put_in : FnScope ns_law_put_in ps_law_put_in (defScope s_law_put_in) := ⟨rfl, rfl, rfl, by decide +kernel, rfl, by decide +kernel, by decide +kernel⟩
def sp_law_put_in (K : PySem.W.Frag) : Sp := fun vs H Q E => ∃ b dx fs nm r, vs = [.ref b, .str nm, .ref r] ∧ H b = some (.ins (He.ga K "Book") dx fs) ∧ sp_Book_setitem K [.ref b, .str nm, .ref r] H (fun _ H' => Q .non H') E
theorem ok_law_put_in (T : Txt w K mg) : Has PP w K mg base d_law_put_in 10 ps_law_put_in (sp_law_put_in K) := by
  refine mkHas T.f_law_put_in sc_law_put_in (fun _ _ _ _ _ _ us hl => match us, hl with | [_, _, _], _ => rfl) (fun vs H Q E h => ?_) (fun cdv A outer s H vs Q E hr h => ⟨_, (pss_one (ps_asg (pv 2) (pg_sub (pv 0) (pv 1) (set_K (passW (takes_of rfl rfl rfl rfl)) (ok_Book_setitem T) T.mB___setitem__ T.nsqB (hr.mono (by decide)))))), ?_⟩)
  · obtain ⟨b, dx, fs, nm, r, rfl, _⟩ := h
    rfl
  · obtain ⟨b, dx, fs, nm, r, rfl, hb, q⟩ := h
    walk_at "w"
    exact ⟨b, dx, fs, rfl, hb, q⟩
theorem sc_law_book_do : FnScope ns_law_book_do ps_law_book_do (defScope s_law_book_do) := ⟨rfl, rfl, rfl, by decide +kernel, rfl, by decide +kernel, by decide +kernel⟩
def sp_law_book_do (K : PySem.W.Frag) : Sp := fun vs H Q E => ∃ (b q : Addr) (s : BSt) (rest : List BSt) (de : Deed), vs = [.ref b, .ref q] ∧ BookAt K H b (s :: rest) ∧ DeedAt K H q de ∧ DeedOk de ∧ KeptOk s.kept ∧ (∀ wi ∈ s.made, WishOk wi) ∧ s.made.length ≤ 40 ∧
  (∀ e, act s rest de = .error e → ∀ od H', Same H H' → ErrAt H H' od e → E (.ref (He.ga K e.nm)) od H') ∧ (∀ sts, act s rest de = .ok sts → ∀ H', SX b H H' → BookAt K H' b sts → Q .non H')
theorem ok_law_book_do (T : Txt w K mg) : Has PP w K mg base d_law_book_do 11 ps_law_book_do (sp_law_book_do K) := by
  refine mkHas T.f_law_book_do sc_law_book_do (fun _ _ _ _ _ _ us hl => match us, hl with | [_, _], _ => rfl) (fun vs H Q E h => ?_) (fun cdv A outer s H vs Q E hr h => ⟨_, (pss_cons (ps_if (pt_cmpR op_eq (pe_ix (r := rIxL K) ix_list (pv 1) pe_int (fun _ _ => rfl)) pe_str (nomark _)) (pss_one (ps_ret (cFE (passW (takes_of rfl rfl rfl rfl)) (ok_law_put_in T) (hr.mono (by decide)) T.g_law_put_in (pa_cons (pv 0) (pa_cons (pe_ix (r := rIxL K) ix_list (pv 1) pe_int (fun _ _ => rfl)) (pa_cons (cK (ok_Rule_init T) T.mkR (hr.mono (by decide)) T.g_Rule (pa_cons (pe_ix (r := rIxL K) ix_list (pv 1) pe_int (fun _ _ => rfl)) pa_nil)) pa_nil)))))) pss_nil)
 (pss_cons (ps_if (pt_cmpR op_eq (pe_ix (r := rIxL K) ix_list (pv 1) pe_int (fun _ _ => rfl)) pe_str (nomark _)) (pss_one (ps_ret (cME (passW (takes_of rfl rfl rfl rfl)) (ok_Book_drop T) T.clB T.mB_drop (hr.mono (by decide)) (pv 0) (pa_cons (pe_ix (r := rIxL K) ix_list (pv 1) pe_int (fun _ _ => rfl)) pa_nil)))) pss_nil)
 (pss_cons (ps_if (pt_cmpR op_eq (pe_ix (r := rIxL K) ix_list (pv 1) pe_int (fun _ _ => rfl)) pe_str (nomark _)) (pss_one (ps_ret (cME (passW (takes_of rfl rfl rfl rfl)) (ok_Book_wish T) T.clB T.mB_wish (hr.mono (by decide)) (pv 0) (pa_cons (pe_ix (r := rIxL K) ix_list (pv 1) pe_int (fun _ _ => rfl)) pa_nil)))) pss_nil)
 (pss_one (ps_ret (pe_ifExp (pt_cmpR op_eq (pe_ix (r := rIxL K) ix_list (pv 1) pe_int (fun _ _ => rfl)) pe_str (nomark _)) (cME (passW (takes_of rfl rfl rfl rfl)) (ok_Book_lift T) T.clB T.mB_lift (hr.mono (by decide)) (pv 0) (pa_cons (pe_ix (r := rIxL K) ix_list (pv 1) pe_int (fun _ _ => rfl)) pa_nil)) (cM0E (passW (takes_of rfl rfl rfl rfl)) (ok_Book_undo T) T.clB T.mB_undo (hr.mono (by decide)) (pv 0)))))))), ?_⟩)
  · obtain ⟨b, q, s, rest, de, rfl, _⟩ := h
    rfl
  · obtain ⟨b, q, s, rest, de, rfl, hb, hq, dok, kok, wok, hml, he, hn⟩ := h
    have hkl := kok.len
    obtain ⟨dx, v, hb1, hb2⟩ := id hb
    walk_at "w"
    cases de with
    | undo =>
      refine w_ixL (sqL hq) (atI_nat (j := 0) rfl) ?_
      walk_at "w"
      refine if_dF (by decide) ?_
      walk_at "w"
      refine w_ixL (sqL hq) (atI_nat (j := 0) rfl) ?_
      walk_at "w"
      refine if_dF (by decide) ?_
      walk_at "w"
      refine w_ixL (sqL hq) (atI_nat (j := 0) rfl) ?_
      walk_at "w"
      refine if_dF (by decide) ?_
      walk_at "w"
      refine w_ixL (sqL hq) (atI_nat (j := 0) rfl) ?_
      walk_at "w"
      refine if_dF (by decide) ?_
      walk_at "w"
      refine ⟨b, dx, _, rfl, hb1, rfl, ?_⟩
      walk_at "w"
      exact ⟨b, s, rest, rfl, hb, fun e => he .nothing (by simp only [act, if_pos e]) none H (Same.refl _) rfl, fun e H' sx hb' => hn rest (by simp only [act, if_neg e]) H' sx hb'⟩
    | lift i =>
      refine w_ixL (sqL hq) (atI_nat (j := 0) rfl) ?_
      walk_at "w"
      refine if_dF (by decide) ?_
      walk_at "w"
      refine w_ixL (sqL hq) (atI_nat (j := 0) rfl) ?_
      walk_at "w"
      refine if_dF (by decide) ?_
      walk_at "w"
      refine w_ixL (sqL hq) (atI_nat (j := 0) rfl) ?_
      walk_at "w"
      refine if_dF (by decide) ?_
      walk_at "w"
      refine w_ixL (sqL hq) (atI_nat (j := 0) rfl) ?_
      walk_at "w"
      refine if_dT rfl ?_
      walk_at "w"
      refine ⟨b, dx, _, rfl, hb1, rfl, ?_⟩
      walk_at "w"
      refine w_ixL (sqL hq) (atI_nat (j := 1) rfl) ?_
      walk_at "w"
      exact ⟨b, i, s, rest, rfl, hb, by omega, fun c d H' sm h1 h2 => he (.badIndex i) (by simp only [act, if_neg c]) (some d) H' sm ⟨d, rfl, h1, h2⟩, fun k e hk H' sx hb' => by
        subst e
        exact hn _ (by simp only [act]; rw [if_pos ⟨by omega, by omega⟩, Int.toNat_natCast]) H' sx hb'⟩
    | wish wi =>
      obtain ⟨t, hq1, hq2⟩ := hq
      refine w_ixL (sqL hq1) (atI_nat (j := 0) rfl) ?_
      walk_at "w"
      refine if_dF (by decide) ?_
      walk_at "w"
      refine w_ixL (sqL hq1) (atI_nat (j := 0) rfl) ?_
      walk_at "w"
      refine if_dF (by decide) ?_
      walk_at "w"
      refine w_ixL (sqL hq1) (atI_nat (j := 0) rfl) ?_
      walk_at "w"
      refine if_dT rfl ?_
      walk_at "w"
      refine ⟨b, dx, _, rfl, hb1, rfl, ?_⟩
      walk_at "w"
      refine w_ixL (sqL hq1) (atI_nat (j := 1) rfl) ?_
      walk_at "w"
      exact ⟨b, t, wi, s, rest, rfl, hb, hq2, dok, by omega, fun c d H' sm h1 h2 => he (.broken s.made.length) (by simp only [act, c]; rfl) (some d) H' sm ⟨d, rfl, h1, h2⟩, fun c H' sx hb' => hn _ (by simp only [act, if_pos c]) H' sx hb'⟩
    | drop nm =>
      refine w_ixL (sqL hq) (atI_nat (j := 0) rfl) ?_
      walk_at "w"
      refine if_dF (by decide) ?_
      walk_at "w"
      refine w_ixL (sqL hq) (atI_nat (j := 0) rfl) ?_
      walk_at "w"
      refine if_dT rfl ?_
      walk_at "w"
      refine ⟨b, dx, _, rfl, hb1, rfl, ?_⟩
      walk_at "w"
      refine w_ixL (sqL hq) (atI_nat (j := 1) rfl) ?_
      walk_at "w"
      exact ⟨b, nm, s, rest, rfl, hb, by omega, by omega, fun c d H' sm h1 h2 => he (.unknown nm) (by simp only [act, if_pos c]) (some d) H' sm ⟨d, rfl, h1, h2⟩,
        fun c i ci d H' sm h1 h2 => he (.inUse i) (by simp only [act, if_neg c, ci]) (some d) H' sm ⟨d, rfl, h1, h2⟩, fun c ci H' sx hb' => hn _ (by simp only [act, if_neg c, ci]) H' sx hb'⟩
    | put nm ns =>
      obtain ⟨t, hq1, hq2⟩ := hq
      refine w_ixL (sqL hq1) (atI_nat (j := 0) rfl) ?_
      walk_at "w"
      refine if_dT rfl ?_
      walk_at "w"
      refine w_ixL (sqL hq1) (atI_nat (j := 1) rfl) ?_
      walk_at "w"
      refine w_ixL (sqL hq1) (atI_nat (j := 2) rfl) ?_
      walk_at "w"
      refine w_mkRule (σ := []) hq2 (dok.2.nums (by decide)) fun r H1 hr0 s1 hr1 => ?_
      walk_at "w"
      refine ⟨b, dx, _, nm, r, rfl, s1 _ _ hb1, ?_⟩
      refine ⟨b, nm, r, ns, s, rest, rfl, dok.1, ⟨dx, v, s1 _ _ hb1, hb2.kp (kpS s1)⟩, hr1, wok, by omega, by omega, fun i ci d H' sm h1 h2 => he (.broken i) (by simp only [act, ci]) (some d) H' (s1.trans sm) ⟨d, rfl, s1.free h1, h2⟩,
        fun ci H' sx hb' => hn _ (by simp only [act, ci]) H' ((sxS s1).trans sx) hb'⟩
end


/-! ### defs that are called where no repr is under way (the stack's guards are known: none) -/
structure FnG (P : Program) (w : World) (K : PySem.W.Frag) (mg : Str → Option Value) (base : Heap) (CX : CXT) (k : Nat) (f : Addr) (fd : FuncData) (ps : List Str) (sp : Sp) : Prop where
  len : ∀ vs H Q E, sp vs H Q E → vs.length = ps.length
  run : ∀ (A : Around) (outer : List Env) (s : Shared) (H : Hp) (args : Args) (us : List Value) (vs : List V) (Q : VK) (E : XK), A.guards = some [] → Room k A → Env0 P w K mg base A outer s H → BindsTo s fd args (ps.zip us) → Vals vs us → sp vs H Q E →
    codeAny (model P w) A (.call (.ref f) args) (CR CX outer P w H s Q E) s
theorem guards_deeper (A : Around) (env : Env) : (A.deeper env).guards = A.guards := rfl
theorem fnG_of {CX : CXT} {P : Program} {w : World} {K : PySem.W.Frag} {mg : Str → Option Value} {base : Heap} {k : Nat} {f : Addr} {name qual : Str} {params : Arguments} {body : List Stmt} {scope : Scope} {dV kV doc pm cdv ct oc : Value} {an od : Option Addr}
    {osl : Array (Option Value)} {N ps : List Str} {sp : Sp} (lk : K.lookup f = some ⟨oc, od, .func (PySem.W.fnOf name qual params body scope dV kV doc pm an cdv ct), osl⟩) (hcd : PySem.W.codeIn K cdv qual = true) (S : FnScope N ps scope)
    (len : ∀ vs H Q E, sp vs H Q E → vs.length = ps.length)
    (hbody : ∀ (A : Around) (outer : List Env) (s : Shared) (H : Hp) (vs : List V) (Q : VK) (E : XK), A.guards = some [] → Room k (A.deeper (envOfC qual scope s.heap.objs.size f cdv)) → sp vs H Q E →
      ∃ t, PSs (cxOf CX P w K mg base N qual scope f cdv A outer s H E) body t ∧ t { nx := fun _ H' => Q .non H', rt := Q } (start N vs) H) :
    FnG P w K mg base CX (k + 1) f (PySem.W.fnOf name qual params body scope dV kV doc pm an cdv ct) ps sp := by
  refine ⟨len, fun A outer s H args us vs Q E hgd hr e0 hb r hsp => ?_⟩
  have hl := len _ _ _ _ hsp
  have KX : K.In s.heap := e0.mod.kin.keeps fun b o e => (e0.bs b o e).1
  have hkind : ∀ y ∈ ps.zip us, scope.names.lookup y.1 = some .local ∨ (scope.names.lookup y.1 = some .cell ∧ ((cellsFrom (s.heap.objs.size + 1) scope.names []).lookup y.1).isSome = true) := fun y hy => by
    rcases S.par y.1 (List.of_mem_zip hy).1 with q | q
    · exact .inl q
    · exact .inr ⟨q, PySem.W.cellsFrom_some _ _ _ (.inl q)⟩
  refine codeAny_call_function hr.depth (KX _ _ lk) rfl S.co S.gen rfl (PySem.W.codeRec_of KX hcd) (hb _ _ _ _ ?_)
  refine wpAny_newFunctionEnv_cells S.kind hkind fun env he s1 x => ?_
  subst he
  refine ⟨(e0.mod.nolimit.keeps fun b o e => (e0.bs b o e).1).keeps x.toInCall.keep, codeAny_func ?_⟩
  obtain ⟨t, ht, hq⟩ := hbody A outer s H vs Q E hgd (hr.deeper _) hsp
  refine wpAny_mono (ht.run [] s1 (start N vs) H _ (inv_start S hr.hd e0 hl r x) hq) (fun fl s' hs => ?_) fun e s' hs => hs
  cases fl with
  | ret u =>
    obtain ⟨v, σ', H', J, rv, q⟩ := hs
    exact ⟨v, H', J.os, J.bare, J.base, J.hok, rv, q⟩
  | next =>
    obtain ⟨σ', H', J, q⟩ := hs
    exact ⟨V.non, H', J.os, J.bare, J.base, J.hok, rfl, q⟩
  | brk =>
    obtain ⟨_, _, _, q⟩ := hs
    exact False.elim q
  | cont =>
    obtain ⟨_, _, _, q⟩ := hs
    exact False.elim q
structure HasG (P : Program) (w : World) (K : PySem.W.Frag) (mg : Str → Option Value) (base : Heap) (d : He.DefD) (k : Nat) (ps : List Str) (sp : Sp) : Prop where
  ok : ∃ fd, FnG P w K mg base (L2.CX P w) k (He.fAd K d.at_) fd ps sp ∧ Binds K fd ps []
  kp : PySem.W.keepIn K (.ref (He.fAd K d.at_)) = true
theorem mkHasG {P : Program} {w : World} {K : PySem.W.Frag} {mg : Str → Option Value} {base : Heap} {d : He.DefD} {x q : Str} {pr : Arguments} {b : List Stmt} {sc : Scope} {N ps : List Str} {k : Nat} {sp : Sp}
    (F : ∃ fd, FunD K x q pr b sc [] [] (He.fAd K d.at_) fd) (S : FnScope N ps sc)
    (hb : ∀ (kV doc pm : Value) (an : Option Addr) (cdv ct : Value) (us : List Value), us.length = ps.length → bindArgs (PySem.W.fnOf x q pr b sc .none kV doc pm an cdv ct) ⟨us, []⟩ = pure (ps.zip us))
    (len : ∀ vs H Q E, sp vs H Q E → vs.length = ps.length)
    (hbody : ∀ (cdv : Value) (A : Around) (outer : List Env) (s : Shared) (H : Hp) (vs : List V) (Q : VK) (E : XK), A.guards = some [] → Room k (A.deeper (envOfC q sc s.heap.objs.size (He.fAd K d.at_) cdv)) → sp vs H Q E →
      ∃ t, PSs (cxOf (L2.CX P w) P w K mg base N q sc (He.fAd K d.at_) cdv A outer s H E) b t ∧ t { nx := fun _ H' => Q .non H', rt := Q } (start N vs) H) : HasG P w K mg base d (k + 1) ps sp := by
  obtain ⟨fd, F⟩ := F
  have hbd := F.bindsN hb
  have hkp := F.kp
  obtain ⟨oc, od, dV, kV, doc, pm, an, cdv, ct, osl, rfl, lk, hcd, _, _⟩ := F.ex
  exact ⟨⟨_, fnG_of lk hcd S len fun A outer s H vs Q E hg hr hsp => hbody cdv A outer s H vs Q E hg hr hsp, hbd⟩, hkp⟩
section
variable {X : Cx}
theorem run_fnG {CX : CXT} {k : Nat} {f : Addr} {fd : FuncData} {ps : List Str} {sp : Sp} {E : XK} {pins : List (Addr × Obj)} {σ : L2.St} {H : Hp} {s : Shared} {Q : VK} {us : List Value} {vs : List V} (F : FnG X.prog X.w X.K X.mg X.base CX k f fd ps sp) (hg : X.A.guards = some []) (hr : Room k X.A) (hb : Binds X.K fd ps []) (hx : Passes CX X E)
    (I : Inv X pins σ H s) (r : Vals vs us) (h : sp vs H Q E) : wpAny (model X.prog X.w) X.A (call (.ref f) us) (EP X pins σ Q) X.xe s := by
  have hl : us.length = ps.length := by rw [← r.length]; exact F.len _ _ _ _ h
  have b2 := hb s us I.kIn (by rw [List.append_nil]; exact hl)
  rw [List.append_nil] at b2
  refine wpAny_call (codeAny_mono (F.run X.A X.stack s H ⟨us, []⟩ us vs Q E hg hr I.env0 b2 r h) fun r s' hq => ?_)
  cases r with
  | error e => exact hx pins σ H s e s' I hq
  | ok fl =>
    cases fl with
    | ret u => exact I.after hq
    | next => exact False.elim hq
    | brk => exact False.elim hq
    | cont => exact False.elim hq
theorem cG {d : He.DefD} {k : Nat} {ps : List Str} {sp : Sp} {x : Str} {p pos : Pos} {e : Expr} {es : List Expr} {t : TA} (F : HasG X.prog X.w X.K X.mg X.base d k ps sp) (hgd : X.A.guards = some []) (hr : Room k X.A) (hm : X.mg x = some (.ref (He.fAd X.K d.at_)))
    (ha : PA X (e :: es) t) (hg : Gl X x := by rfl) (hdb : (x == ("__debug__" : Str)) = false := by decide +kernel) (he : starEach (e :: es) X.env = (false, eval e X.env) :: starEach es X.env := by rfl) (hpl : (backTo pos (starEach es X.env)).any (·.1) = false := by rfl) :
    PE X (.Call (.Name x p) (e :: es) [] pos) (tCall sp [] (fun _ _ _ => False) t) := by
  obtain ⟨fd, F1, b1⟩ := F.ok
  refine ⟨fun pins s σ H Q I h => ?_⟩
  refine wpAny_Call_Name_kw (ld_glob I hg hm ?_ hdb)
  refine PySem.W.callWith_K (h₀ := X.base) I.ok.mod.kin F.kp (thn (ha.run pos pins s σ H _ I h) fun us s1 ⟨vs, H1, I1, r, q⟩ => ⟨I1.kIn, ?_⟩) he hpl
  have q : sp vs H1 Q fun _ _ _ => False := by
    have q : sp (vs ++ []) H1 Q fun _ _ _ => False := q
    rw [List.append_nil] at q
    exact q
  exact run_fnG F1 hgd hr b1 passE I1 r q
/-! ### repr of lists and tuples -/
def rReprD (K : PySem.W.Frag) : List V → Hp → VK → Prop := fun xs H Q => ∃ a d, xs = [.ref a] ∧ Dp K H (.ref a) d ∧ d.showable = true ∧ d.hasDict = false ∧ d.depth ≤ 40 ∧ d.shown.length ≤ sizeLine ∧ Q (.str d.shown) H
theorem ca_reprD (hg : X.A.guards = some []) (hu : X.A.units + 64 < cLine) : CallR X (.builtin "repr") (rReprD X.K) := by
  intro pins s σ H xs us Q I r h
  obtain ⟨a, d, rfl, hd, sh, nd, dp, sz, q⟩ := h
  obtain ⟨u, rfl, ru⟩ := vals1 r
  obtain ⟨as, rd⟩ := Dp.reads I d _ _ hd ru
  obtain rfl : u = Value.ref a := ru
  refine repr_of_reads' rd sh (PyData.noDict_hsm nd) hg (by omega) (fun _ _ e => e) (fun h' u tk hk => ?_) sz
  exact ⟨.str _, H, I.kept (t' := tk) hk, ⟨_, rfl⟩, q⟩
end


theorem Txt.fnGB {w : World} {K : PySem.W.Frag} {mg : Str → Option Value} (T : Txt w K mg) : PySem.W.fnIn K (He.fAd K ("Book", some "__getitem__")) = true := (He.ba T.bkB).2
theorem opEqK {X : Cx} {K : PySem.W.Frag} (e : X.K = K) (hu : X.A.units + 64 < cLine) : OpR X (compareOp .Eq) (rEqD K) := e ▸ op_eqD hu
/-! ### data that repr shows -/
structure Sh (d : PyData) (D W : Nat) : Prop where
  sh : d.showable = true
  nd : d.hasDict = false
  dp : d.depth ≤ D
  lv : d.leavesShort 40 = true
  wt : d.weight ≤ W
structure ShAll (ds : List PyData) (D W : Nat) : Prop where
  sh : PyData.showableAll ds = true
  nd : PyData.hasDictAll ds = false
  dp : PyData.depthAll ds ≤ D
  lv : PyData.leavesShortAll 40 ds = true
  wt : PyData.weightAll ds ≤ ds.length * (W + 1)
theorem sh_int {i : Int} (h : -10 ^ 30 ≤ i ∧ i ≤ 10 ^ 30) : Sh (.int i) 0 110 := by
  have hl : i.natAbs.log2 < 110 := by
    by_cases c : i.natAbs = 0
    · rw [c]; decide
    · exact (Nat.log2_lt c).mpr (show i.natAbs < 2 ^ 110 by omega)
  have ht : (toString i).length ≤ 31 + 1 := int_text_length_le10 (by decide) (show i.natAbs < 10 ^ 31 by omega)
  refine ⟨decide_eq_true (by omega), rfl, Nat.le_refl _, ?_, ?_⟩
  · show decide ((Str.ofString (toString i)).length ≤ 40) = true
    rw [decide_eq_true_iff, PySem.ofString_length]
    omega
  · show (if i == 0 then 0 else i.natAbs.log2 + 1) ≤ 110
    split <;> omega
theorem sh_all {D W : Nat} : ∀ {ds : List PyData}, (∀ d ∈ ds, Sh d D W) → ShAll ds D W
  | [], _ => ⟨rfl, rfl, Nat.zero_le _, rfl, Nat.zero_le _⟩
  | d :: ds, h => by
    have h1 := h d (List.mem_cons_self ..)
    have ih := sh_all fun d hd => h d (List.mem_cons_of_mem _ hd)
    refine ⟨?_, ?_, ?_, ?_, ?_⟩
    · show (d.showable && PyData.showableAll ds) = true
      rw [h1.sh, ih.sh]; rfl
    · show (d.hasDict || PyData.hasDictAll ds) = false
      rw [h1.nd, ih.nd]; rfl
    · show max d.depth (PyData.depthAll ds) ≤ D
      exact Nat.max_le.mpr ⟨h1.dp, ih.dp⟩
    · show (d.leavesShort 40 && PyData.leavesShortAll 40 ds) = true
      rw [h1.lv, ih.lv]; rfl
    · show d.weight + 1 + PyData.weightAll ds ≤ (ds.length + 1) * (W + 1)
      have := h1.wt
      have := ih.wt
      rw [Nat.add_mul]
      omega
theorem ShAll.list {ds : List PyData} {D W : Nat} (h : ShAll ds D W) : Sh (.list ds) (D + 1) (ds.length * (W + 1)) := ⟨h.sh, h.nd, Nat.succ_le_succ h.dp, h.lv, h.wt⟩
theorem ShAll.tuple {ds : List PyData} {D W : Nat} (h : ShAll ds D W) : Sh (.tuple ds) (D + 1) (ds.length * (W + 1)) := ⟨h.sh, h.nd, Nat.succ_le_succ h.dp, h.lv, h.wt⟩
theorem Sh.mono {d : PyData} {D D' W W' : Nat} (h : Sh d D W) (a : D ≤ D') (b : W ≤ W') : Sh d D' W' := ⟨h.sh, h.nd, Nat.le_trans h.dp a, h.lv, Nat.le_trans h.wt b⟩
theorem Sh.fits {d : PyData} {D W : Nat} (h : Sh d D W) (hW : W ≤ 120004) : d.shown.length ≤ sizeLine := by
  have e := PyData.shown_le 40 (by decide) d h.lv
  have w := h.wt
  rw [sizeLine_eq]
  omega
theorem sh_nm {nm : Str} (h : nm ∈ NAMES) : Sh (.str nm) 0 110 := by
  simp only [NAMES, List.mem_cons, List.not_mem_nil, or_false] at h
  rcases h with rfl | rfl | rfl <;> exact ⟨rfl, rfl, Nat.le_refl _, by decide +kernel, by decide +kernel⟩
theorem sh_wk (wi : Wish) : Sh (.str (wk wi)) 0 110 := by
  cases wi with
  | ring _ => exact (show Sh (.str "ring") 0 110 from ⟨rfl, rfl, Nat.le_refl _, by decide +kernel, by decide +kernel⟩)
  | noring _ => exact (show Sh (.str "no ring") 0 110 from ⟨rfl, rfl, Nat.le_refl _, by decide +kernel, by decide +kernel⟩)
  | shuffle _ => exact (show Sh (.str "shuffle") 0 110 from ⟨rfl, rfl, Nat.le_refl _, by decide +kernel, by decide +kernel⟩)
  | length _ _ _ _ => exact (show Sh (.str "length") 0 110 from ⟨rfl, rfl, Nat.le_refl _, by decide +kernel, by decide +kernel⟩)
  | after _ _ _ _ _ => exact (show Sh (.str "after") 0 110 from ⟨rfl, rfl, Nat.le_refl _, by decide +kernel, by decide +kernel⟩)
  | comes _ _ _ _ => exact (show Sh (.str "comes") 0 110 from ⟨rfl, rfl, Nat.le_refl _, by decide +kernel, by decide +kernel⟩)
theorem wa_ok {wi : Wish} (h : WishOk wi) : ∀ i ∈ wa wi, -10 ^ 30 ≤ i ∧ i ≤ 10 ^ 30 := by
  have h2 := h.ok
  cases wi with
  | ring nm => intro i hi; cases hi
  | noring nm => intro i hi; cases hi
  | shuffle nm => intro i hi; cases hi
  | length nm n x m =>
    obtain ⟨o1, o2, o3⟩ := h2
    have := two_pow_le (m := n) (n := 5) o1.2
    intro i hi
    simp only [wa, List.mem_cons, List.not_mem_nil, or_false] at hi
    rcases hi with rfl | rfl | rfl <;> omega
  | after nm n x m y =>
    obtain ⟨o1, o2, o3, o4⟩ := h2
    have := two_pow_le (m := n) (n := 5) o1.2
    intro i hi
    simp only [wa, List.mem_cons, List.not_mem_nil, or_false] at hi
    rcases hi with rfl | rfl | rfl | rfl <;> omega
  | comes nm n x y =>
    obtain ⟨o1, o2, o3⟩ := h2
    have := two_pow_le (m := n) (n := 5) o1.2
    intro i hi
    simp only [wa, List.mem_cons, List.not_mem_nil, or_false] at hi
    rcases hi with rfl | rfl | rfl <;> omega
theorem wa_len (wi : Wish) : (wa wi).length ≤ 4 := by cases wi <;> simp [wa]
theorem sh_wish {wi : Wish} (h : WishOk wi) : Sh (wishD wi) 1 700 := by
  have hl := wa_len wi
  refine (ShAll.tuple (D := 0) (W := 110) (sh_all fun d hd => ?_)).mono (by decide) ?_
  · rcases List.mem_cons.mp hd with rfl | hd
    · exact sh_wk wi
    · rcases List.mem_cons.mp hd with rfl | hd
      · exact sh_nm h.nm
      · obtain ⟨i, hi, rfl⟩ := List.mem_map.mp hd
        exact sh_int (wa_ok h i hi)
  · rw [List.length_cons, List.length_cons, List.length_map]
    omega
/-- what the book shows -/
def showD (ys : List Str) (s : BSt) (n : Nat) : PyData := .list [.tuple (ys.map .str), .tuple (s.made.map wishD), .int s.kept.length, .int n]
theorem sh_show {ys : List Str} {s : BSt} {n : Nat} (h1 : ∀ y ∈ ys, y ∈ NAMES) (h2 : ∀ wi ∈ s.made, WishOk wi) (l1 : ys.length ≤ 40) (l2 : s.made.length ≤ 40) (l3 : s.kept.length ≤ 1000) (l4 : n ≤ 1000) : Sh (showD ys s n) 3 120004 := by
  refine (ShAll.list (D := 2) (W := 29000) (sh_all fun d hd => ?_)).mono (by decide) (by simp)
  simp only [List.mem_cons, List.not_mem_nil, or_false] at hd
  rcases hd with rfl | rfl | rfl | rfl
  · refine (ShAll.tuple (D := 0) (W := 110) (sh_all fun d hd => ?_)).mono (by decide) ?_
    · obtain ⟨y, hy, rfl⟩ := List.mem_map.mp hd
      exact sh_nm (h1 y hy)
    · rw [List.length_map]; omega
  · refine (ShAll.tuple (D := 1) (W := 700) (sh_all fun d hd => ?_)).mono (by decide) ?_
    · obtain ⟨y, hy, rfl⟩ := List.mem_map.mp hd
      exact sh_wish (h2 y hy)
    · rw [List.length_map]; omega
  · exact (sh_int (by omega)).mono (by decide) (by decide)
  · exact (sh_int (by omega)).mono (by decide) (by decide)
/-! ### one order of the names -/
def leN (a b : Str) : Prop := ltCps b.cps.toList a.cps.toList = false
instance (a b : Str) : Decidable (leN a b) := by unfold leN; infer_instance
theorem leN_anti : ∀ a ∈ NAMES, ∀ b ∈ NAMES, leN a b → leN b a → a = b := by decide +kernel
theorem leN_trans : ∀ a ∈ NAMES, ∀ b ∈ NAMES, ∀ c ∈ NAMES, leN a b → leN b c → leN a c := by decide +kernel
theorem rising_pw : ∀ (l : List Str) (p : Str), p ∈ NAMES → (∀ x ∈ l, x ∈ NAMES) → risingS p l = true → (p :: l).Pairwise leN
  | [], p, _, _, _ => List.pairwise_singleton ..
  | x :: r, p, hp, hl, h => by
    have h : (!ltCps x.cps.toList p.cps.toList && risingS x r) = true := h
    rw [Bool.and_eq_true, Bool.not_eq_true'] at h
    have hx := hl x (List.mem_cons_self ..)
    have hr : ∀ y ∈ r, y ∈ NAMES := fun y hy => hl y (List.mem_cons_of_mem _ hy)
    have ih := rising_pw r x hx hr h.2
    refine List.pairwise_cons.mpr ⟨fun y hy => ?_, ih⟩
    rcases List.mem_cons.mp hy with rfl | hy
    · exact h.1
    · exact leN_trans p hp x hx y (hr y hy) h.1 ((List.pairwise_cons.mp ih).1 y hy)
theorem sorted_pw : ∀ (l : List Str), (∀ x ∈ l, x ∈ NAMES) → sortedS l = true → l.Pairwise leN
  | [], _, _ => .nil
  | x :: r, hl, h => rising_pw r x (hl x (List.mem_cons_self ..)) (fun y hy => hl y (List.mem_cons_of_mem _ hy)) h
theorem sorted_one {ys zs l : List Str} (hl : ∀ x ∈ l, x ∈ NAMES) (h1 : ys.Perm l) (h2 : zs.Perm l) (s1 : sortedS ys = true) (s2 : sortedS zs = true) : ys = zs := by
  have m1 : ∀ x ∈ ys, x ∈ NAMES := fun x hx => hl x (h1.mem_iff.mp hx)
  have m2 : ∀ x ∈ zs, x ∈ NAMES := fun x hx => hl x (h2.mem_iff.mp hx)
  exact List.Perm.eq_of_pairwise (le := leN) (fun a b ha hb => leN_anti a (m1 a ha) b (m2 b hb)) (sorted_pw ys m1 s1) (sorted_pw zs m2 s2) (h1.trans h2.symm)
/-! ### the book while a dict is locked -/
def KpN (H H' : Hp) : Prop := ∀ a o, H a = some o → (∀ kvs, o ≠ .dK kvs) → H' a = some o
theorem kpN {d : Addr} {kvs : List (Key × V)} {H H' : Hp} (h : H d = some (.dK kvs)) (s : SX d H H') : KpN H H' := fun a o e n => s a o (fun z => by rw [z, h] at e; cases e; exact n _ rfl) e
theorem KpN.tq {K : PySem.W.Frag} {H H' : Hp} {a : Addr} {xs : List V} (e : KpN H H') (h : SqT K H a xs) : SqT K H' a xs := by
  rcases h with (h | ⟨o, h⟩) | h
  · exact .inl (.inl (e _ _ h (fun _ z => by cases z)))
  · exact .inl (.inr ⟨o, e _ _ h (fun _ z => by cases z)⟩)
  · exact .inr h
theorem IsRule.kn {K : PySem.W.Frag} {H H' : Hp} {r : Addr} {ns : List Int} (h : IsRule K H r ns) (s : KpN H H') : IsRule K H' r ns := by
  obtain ⟨dx, t, h1, h2⟩ := h
  exact ⟨dx, t, s _ _ h1 (fun _ z => by cases z), s.tq h2⟩
theorem rows_kn {K : PySem.W.Frag} {H H' : Hp} (s : KpN H H') : ∀ {vs : List V} {kept : List (Str × List Int)}, Paired (Row K H) vs kept → Paired (Row K H') vs kept
  | _, _, .nil => .nil
  | _, _, .cons ⟨a, r, e, h1, h2⟩ t => .cons ⟨a, r, e, s.tq h1, h2.kn s⟩ (rows_kn s t)
theorem wishes_kn {K : PySem.W.Frag} {H H' : Hp} (s : KpN H H') : ∀ {vs : List V} {made : List Wish}, Paired (WishR K H) vs made → Paired (WishR K H') vs made
  | _, _, .nil => .nil
  | _, _, .cons ⟨t, e, h⟩ r => .cons ⟨t, e, s.tq h⟩ (wishes_kn s r)
theorem HeldAt.kn {K : PySem.W.Frag} {H H' : Hp} (s : KpN H H') : ∀ {past : List BSt} {v : V}, HeldAt K H past v → HeldAt K H' past v
  | [], _, h => h
  | _ :: _, _, ⟨h, rows, wishes, prev, e, h1, ⟨rs, r1, r2⟩, ⟨ws, w1, w2⟩, h4⟩ => ⟨h, rows, wishes, prev, e, s.tq h1, ⟨rs, s.tq r1, rows_kn s r2⟩, ⟨ws, s.tq w1, wishes_kn s w2⟩, HeldAt.kn s h4⟩
theorem BookAt.kn {K : PySem.W.Frag} {H H' : Hp} {b : Addr} {past : List BSt} (h : BookAt K H b past) (s : KpN H H') : BookAt K H' b past := by
  obtain ⟨dx, v, h1, h2⟩ := h
  exact ⟨dx, v, s _ _ h1 (fun _ z => by cases z), h2.kn s⟩
theorem idx_nd : ∀ {kept : List (Str × List Int)} {i : Nat} {g : Str × List Int}, (kept.map (·.1)).Nodup → kept[i]? = some g → idx kept g.1 = some i
  | [], _, _, _, h => by cases h
  | p :: kept, 0, g, _, h => by
    cases h
    unfold idx
    rw [List.findIdx?_cons, decide_eq_true rfl]
    rfl
  | p :: kept, i + 1, g, n, h => by
    rw [List.map_cons, List.nodup_cons] at n
    have h : kept[i]? = some g := h
    have ne : p.1 ≠ g.1 := fun e => n.1 (by rw [e]; exact List.mem_map.mpr ⟨_, List.mem_of_getElem? h, rfl⟩)
    have ih := idx_nd n.2 h
    unfold idx at ih ⊢
    rw [List.findIdx?_cons, decide_eq_false ne, ih]
    rfl
section
variable {w : World} {K : PySem.W.Frag} {mg : Str → Option Value} {base : Heap}
theorem dpStrs {H : Hp} : ∀ l : List Str, DpAll K H (l.map V.str) (l.map PyData.str)
  | [] => .nil
  | x :: l => .cons (.str x) (dpStrs l)
theorem dpWishes {H : Hp} : ∀ {vs : List V} {made : List Wish}, Paired (WishR K H) vs made → DpAll K H vs (made.map wishD)
  | _, _, .nil => .nil
  | _, _, .cons ⟨t, e, ht⟩ h => by
    subst e
    exact .cons (.tup ht (.cons (.str _) (.cons (.str _) (dpInts _)))) (dpWishes h)
theorem dpShow {H : Hp} {L t1 t2 : Addr} {ys : List Str} {s : BSt} {n : Nat} {vs : List V} (h : SqL K H L [.ref t1, .ref t2, .int s.kept.length, .int n]) (h1 : SqT K H t1 (ys.map V.str)) (h2 : SqT K H t2 vs) (h3 : Paired (WishR K H) vs s.made) : Dp K H (.ref L) (showD ys s n) :=
  .lst h (.cons (.tup h1 (dpStrs ys)) (.cons (.tup h2 (dpWishes h3)) (.cons (.int _) (.cons (.int _) .nil))))
theorem w_reprShow {H : Hp} {Q : VK} {L : Addr} {d : PyData} (h : Dp K H (.ref L) d) (sh : Sh d 3 120004) (q : Q (.str d.shown) H) : rReprD K [.ref L] H Q := ⟨L, d, rfl, h, sh.sh, sh.nd, Nat.le_trans sh.dp (by decide), sh.fits (Nat.le_refl _), q⟩
theorem sc_law_book_shows : FnScope ns_law_book_shows ps_law_book_shows (defScope s_law_book_shows) := ⟨rfl, rfl, rfl, by decide +kernel, rfl, by decide +kernel, by decide +kernel⟩
def sp_law_book_shows (K : PySem.W.Frag) : Sp := fun vs H Q _ => ∃ (b p : Addr) (s : BSt) (rest : List BSt), vs = [.ref b, .ref p] ∧ BookAt K H b (s :: rest) ∧ PastAt K H p (s :: rest) ∧ KeptOk s.kept ∧ (∀ wi ∈ s.made, WishOk wi) ∧ s.made.length ≤ 40 ∧ rest.length ≤ 40 ∧ ∀ H', Same H H' → Q (.bl true) H'
theorem ok_law_book_shows (T : Txt w K mg) : HasG PP w K mg base d_law_book_shows 7 ps_law_book_shows (sp_law_book_shows K) := by
  refine mkHasG T.f_law_book_shows sc_law_book_shows (fun _ _ _ _ _ _ us hl => match us, hl with | [_, _], _ => rfl) (fun vs H Q E h => ?_) (fun cdv A outer s H vs Q E hgd hr h => ⟨_, (pss_cons (ps_asg (pe_ix (r := rIxL K) ix_list (pv 1) (pe_un un_neg pe_int) (fun _ _ => rfl)) (pg_unl rfl (pgs_cons (pg_name (i := 2) sc_law_book_shows.nd rfl (Or.inr rfl)) (pgs_cons (pg_name (i := 3) sc_law_book_shows.nd rfl (Or.inl rfl)) pgs_nil))))
 (pss_cons (ps_set (i := 4) sc_law_book_shows.nd rfl (Or.inl rfl) (pe_lst (pa_cons (pe_callTy ca_tuple rfl T.n_tuple boot_tuple (pa_cons (pe_callB cr_sortedS rfl T.n_sorted (by kernel_rfl) (pa_cons (pe_lock (pe_lc rfl sc_law_book_shows.nd (pi_keys (pv 2)) (blkOk_by (own := [("_law_each", 5)]) (N := ns_law_book_shows) (sc := defScope s_law_book_shows) (by decide +kernel)) (fun _ _ _ _ _ => pg_name (i := 5) sc_law_book_shows.nd rfl (Or.inl rfl)) (fun _ _ _ _ _ => pts_nil) (fun _ _ _ _ _ => (pv 5)))) pa_nil)) pa_nil)) (pa_cons (pe_callTy ca_tuple rfl T.n_tuple boot_tuple (pa_cons (pv 3) pa_nil)) (pa_cons (pe_callB ca_lenD rfl T.n_len PySem.boot_len (pa_cons (pv 2) pa_nil)) (pa_cons (pe_op op_sub (pe_callB ca_len rfl T.n_len PySem.boot_len (pa_cons (pv 1) pa_nil)) pe_int) pa_nil))))))
 (pss_cons (ps_if (pt_cmpR op_ne (pe_callB (ca_reprD hgd hr.units) rfl T.n_repr (by kernel_rfl) (pa_cons (pe_lst (pa_cons (cP (ok_Book_names T) T.clB T.p_Book_names (hr.mono (by decide)) (pv 0)) (pa_cons (cP (ok_Book_wishes T) T.clB T.p_Book_wishes (hr.mono (by decide)) (pv 0)) (pa_cons (pe_callB (ca_lenK (ok_Book_len T) T.mB___len__ (hr.mono (by decide))) rfl T.n_len PySem.boot_len (pa_cons (pv 0) pa_nil)) (pa_cons (cP (ok_Book_changes T) T.clB T.p_Book_changes (hr.mono (by decide)) (pv 0)) pa_nil))))) pa_nil)) (pe_callB (ca_reprD hgd hr.units) rfl T.n_repr (by kernel_rfl) (pa_cons (pv 4) pa_nil)) (nomark _)) (pss_one (ps_ret pe_bl)) pss_nil)
 (pss_one (ps_ret (pe_callB (cr_all rfl) rfl T.n_all (by kernel_rfl) (pa_cons (pe_lock (pe_lc rfl sc_law_book_shows.nd (pi_keys (pv 2)) (blkOk_by (own := [("_law_each", 5)]) (N := ns_law_book_shows) (sc := defScope s_law_book_shows) (by decide +kernel)) (fun _ _ _ _ _ => pg_name (i := 5) sc_law_book_shows.nd rfl (Or.inl rfl)) (fun _ _ _ _ _ => pts_nil) (fun _ _ _ _ _ => (pe_cmpR (opEqK (K := K) rfl hr.units) (cP (ok_Rule_numbers T) T.clR T.p_Rule_numbers (hr.mono (by decide)) (pe_ixK passE (ok_Book_getitem T) T.mB___getitem__ T.fnGB (hr.mono (by decide)) (pv 0) (pv 5) (fun _ _ => rfl))) (pe_dget (hu_of hr) (pv 2) (pv 5) (fun _ _ => rfl)) (nomark _))))) pa_nil))))))), ?_⟩)
  · obtain ⟨b, p, s, rest, rfl, _⟩ := h
    rfl
  · obtain ⟨b, p, s, rest, rfl, hb, hp, kok, wok, hml, hrl, q⟩ := h
    obtain ⟨ws, a, d, m, p1, p2, a1, d1, m1⟩ := hp.last
    obtain ⟨ms, m2, m3⟩ := id m1
    obtain ⟨kvs, k1, k2⟩ := id d1
    have lws : ws.length = rest.length := by rw [prd_len p2, List.length_reverse]
    have hkl := kok.len
    walk_at "w"
    refine w_ixL (sqL p1) (atI_last ..) ?_
    refine w_unl rfl (sqL a1) ?_
    walk_at "w"
    have nk := kvs_nd k2 kok.nd
    have lk := prd_len k2
    refine w_lockE k1 trivial fun od => ?_
    refine w_lcK ?_
    walk_at "w"
    refine w_rkeysC upd_same (lc_map walk_keys (fun i => (s.kept.take i).map fun p => V.str p.1) rfl (fun H' s4 => s4 _ _ upd_same) (fun i x H4 H5 D hi hD p y => ?_) fun D H4 s4 hD h4 => ?_)
    · obtain ⟨rfl, k, v, hkv, rfl⟩ := y
      obtain ⟨b, hb, ⟨t, e5, _⟩⟩ := prd_at k2 hkv
      cases e5
      rw [show kV (Sum.inr b.1) = V.str b.1 from rfl]
      walk_at "w"
      refine ⟨rfl, ?_⟩
      walk_at "w"
      refine p.yes hD (Same.refl _) (by rw [List.length_map, List.length_take]; exact lt_line (by omega)) ?_
      rw [take_at hb, List.map_append]
      rfl
    have hd4 : H4 d = some (.frz od (.dK kvs)) := s4 _ _ upd_same
    refine ⟨hd4, ?_⟩
    have s5 : Same H (upd H4 d (.dK kvs)) := unlock k1 fun a o n h => s4 a o (by rw [upd_ne n]; exact h)
    have nD : D ≠ d := fun z => by rw [z, hd4] at h4; cases h4
    have h5 : (upd H4 d (.dK kvs)) D = some (.lst ((s.kept.take kvs.length).map fun p => V.str p.1)) := by rw [upd_ne nD]; exact h4
    generalize upd H4 d (.dK kvs) = H5 at s5 h5
    clear s4 hd4 h4 hD
    rw [show (s.kept.take kvs.length).map (fun p => V.str p.1) = (s.kept.map (·.1)).map V.str by rw [lk, List.take_length, List.map_map]; rfl] at h5
    walk_at "w"
    refine ⟨D, s.kept.map (·.1), rfl, sqL h5, by rw [List.length_map]; omega, fun ys l6 pm srt hl6 => ?_⟩
    have s6 := s5.u (o := .lst (ys.map V.str)) hl6
    have e6 := upd_same (H := H5) (a := l6) (o := .lst (ys.map V.str))
    generalize upd H5 l6 (.lst (ys.map V.str)) = H6 at s6 e6
    walk_at "w"
    refine ⟨l6, _, rfl, .inl ⟨sqL e6, fun t1 ht1 => ?_⟩⟩
    have s7 := s6.u (o := .tup (ys.map V.str)) ht1
    have e7 := upd_same (H := H6) (a := t1) (o := .tup (ys.map V.str))
    generalize upd H6 t1 (.tup (ys.map V.str)) = H7 at s7 e7
    walk_at "w"
    refine ⟨m, _, rfl, .inl ⟨sqL (s7 _ _ m2), fun t2 ht2 => ?_⟩⟩
    have s8 := s7.u (o := .tup ms) ht2
    have e8 := upd_same (H := H7) (a := t2) (o := .tup ms)
    have e7 := sameU (o := .tup ms) ht2 _ _ e7
    generalize upd H7 t2 (.tup ms) = H8 at s8 e7 e8
    walk_at "w"
    refine ⟨d, kvs, rfl, s8 _ _ k1, ?_⟩
    walk_at "w"
    refine w_rlenL (sqL (s8 _ _ p1)) ?_
    walk_at "w"
    rw [List.length_append, lk, lws, show ((rest.length + [V.ref a].length : Nat) : Int) - 1 = (rest.length : Nat) from by rw [List.length_singleton]; omega]
    refine ⟨le_line (by simp), fun L hL => ?_⟩
    have s9 := s8.u (o := .lst [.ref t1, .ref t2, .int s.kept.length, .int rest.length]) hL
    have e9 := upd_same (H := H8) (a := L) (o := .lst [.ref t1, .ref t2, .int s.kept.length, .int rest.length])
    have f1 := sameU (o := .lst [.ref t1, .ref t2, .int s.kept.length, .int rest.length]) hL _ _ e7
    have f2 := sameU (o := .lst [.ref t1, .ref t2, .int s.kept.length, .int rest.length]) hL _ _ e8
    generalize upd H8 L (.lst [.ref t1, .ref t2, .int s.kept.length, .int rest.length]) = H9 at s9 e9 f1 f2
    walk_at "w"
    obtain ⟨dx, hv, hb1, hb2⟩ := id hb
    have bk : ∀ H', Same H H' → BookAt K H' b (s :: rest) := fun H' s' => ⟨dx, hv, s' _ _ hb1, hb2.kp (kpS s')⟩
    refine ⟨b, dx, _, rfl, s9 _ _ hb1, ?_⟩
    refine ⟨b, s, rest, rfl, bk _ s9, by omega, fun t3 zs H10 s10 pm2 srt2 ht3 => ?_⟩
    have sa := s9.trans s10
    walk_at "w"
    refine ⟨b, dx, _, rfl, sa _ _ hb1, ⟨b, s, rest, rfl, bk _ sa, fun t4 ht4 => ?_⟩⟩
    walk_at "w"
    refine ⟨b, dx, _, rfl, sa _ _ hb1, ⟨b, s, rest, rfl, bk _ sa, ⟨s.kept.length, rfl, by omega, ?_⟩⟩⟩
    walk_at "w"
    refine ⟨b, dx, _, rfl, sa _ _ hb1, ⟨b, s, rest, rfl, bk _ sa, ?_⟩⟩
    walk_at "w"
    refine ⟨le_line (by simp), fun L2 hL2 => ?_⟩
    walk_at "w"
    have hN : ∀ x ∈ s.kept.map (·.1), x ∈ NAMES := fun x hx => by
      obtain ⟨y, hy, rfl⟩ := List.mem_map.mp hx
      exact kok.nm y hy
    have eN : zs = ys := sorted_one hN pm2 pm srt2 srt
    subst eN
    have hsh : Sh (showD zs s rest.length) 3 120004 := sh_show (fun y hy => hN y (pm.mem_iff.mp hy)) wok (by rw [pm.length_eq, List.length_map]; omega) hml (by omega) (by omega)
    have sb := sameU (o := .lst [.ref t3, .ref t4, .int s.kept.length, .int rest.length]) hL2
    obtain ⟨v4, w4, x4⟩ := ht4
    refine w_reprShow (dpShow sqLu (sb.tq ht3) (sb.tq w4) (wishes_kp (kpS sb) x4)) hsh ?_
    have sc := sa.trans sb
    have e9 := (s10.trans sb) _ _ e9
    have f1 := (s10.trans sb) _ _ f1
    have f2 := (s10.trans sb) _ _ f2
    generalize upd H10 L2 (.lst [.ref t3, .ref t4, .int s.kept.length, .int rest.length]) = H11 at sb sc e9 f1 f2
    walk_at "w"
    refine w_reprShow (dpShow (sqL e9) (sqT f1) (sqT f2) (wishes_kp (kpS sc) m3)) hsh ?_
    walk_at "w"
    refine if_dnF rfl ?_
    walk_at "w"
    have k11 := sc _ _ k1
    refine w_lockE k11 trivial fun od2 => ?_
    refine w_lcK ?_
    walk_at "w"
    refine w_rkeysC upd_same (lc_map walk_keys (fun i => List.replicate i (V.bl true)) rfl (fun H' s4 => s4 _ _ upd_same) (fun i x H4 H5 D hi hD pp y => ?_) fun D H4 s4 hD h4 => ?_)
    · obtain ⟨rfl, k, v, hkv, rfl⟩ := y
      obtain ⟨g, hg, ⟨t, e5, ht⟩⟩ := prd_at k2 hkv
      cases e5
      rw [show kV (Sum.inr g.1) = V.str g.1 from rfl]
      walk_at "w"
      refine ⟨rfl, ?_⟩
      walk_at "w"
      have sxd : SX d H H5 := fun a o n e => pp.1 a o (by rw [upd_ne n]; exact sc a o e)
      have kn := kpN k1 sxd
      have hd5 : H5 d = some (.frz od2 (.dK kvs)) := pp.1 _ _ upd_same
      refine ⟨b, dx, _, rfl, kn _ _ hb1 (fun _ z => by cases z), ⟨b, g.1, s, rest, i, g, rfl, hb.kn kn, idx_nd kok.nd hg, hg, fun r H6 s6 hr6 => ?_⟩⟩
      obtain ⟨dr, tr, r1, r2⟩ := hr6
      refine ⟨r, dr, _, rfl, r1, ⟨r, dr, tr, rfl, r1, ?_⟩⟩
      walk_at "w"
      refine w_dgetZ (s6 _ _ hd5) (valV_at nk hkv) ?_
      refine ⟨_, _, .tup r2 (dpInts _), .tup (s6.tq (kn.tq ht)) (dpInts _), shInts _, shInts _, ?_⟩
      rw [PySem.SeqAt.eqv_refl (.tuple (g.2.map PyData.int)) (canInts g.2)]
      exact pp.yes hD s6 (by rw [List.length_replicate]; exact lt_line (by omega)) List.replicate_succ'
    have hd4 : H4 d = some (.frz od2 (.dK kvs)) := s4 _ _ upd_same
    refine ⟨hd4, ?_⟩
    have s5 : Same H11 (upd H4 d (.dK kvs)) := unlock k11 fun a o n h => s4 a o (by rw [upd_ne n]; exact h)
    have nD : D ≠ d := fun z => by rw [z, hd4] at h4; cases h4
    have h5 : (upd H4 d (.dK kvs)) D = some (.lst ((List.replicate kvs.length true).map V.bl)) := by rw [upd_ne nD, List.map_replicate]; exact h4
    generalize upd H4 d (.dK kvs) = H5 at s5 h5
    walk_at "w"
    refine ⟨D, List.replicate kvs.length true, rfl, sqL h5, ?_⟩
    rw [show (List.replicate kvs.length true).all id = true by rw [List.all_eq_true]; intro x hx; exact (List.mem_replicate.mp hx).2]
    exact q _ (sc.trans s5)
end


/-! ### defs that are called within an except suite: p, the exception that is handled -/
structure FnP (P : Program) (w : World) (K : PySem.W.Frag) (mg : Str → Option Value) (base : Heap) (CX : CXT) (k : Nat) (f : Addr) (fd : FuncData) (ps : List Str) (sp : Addr × Obj → Sp) : Prop where
  len : ∀ p vs H Q E, sp p vs H Q E → vs.length = ps.length
  run : ∀ (A : Around) (outer : List Env) (s : Shared) (H : Hp) (args : Args) (us : List Value) (vs : List V) (Q : VK) (E : XK) (p : Addr × Obj), L2H.RoomH k A → L2H.PinOk outer H s p → Env0 P w K mg base A outer s H → BindsTo s fd args (ps.zip us) → Vals vs us → sp p vs H Q E →
    codeAny (model P w) A (.call (.ref f) args) (CR CX outer P w H s Q E) s
theorem _root_.L2H.RoomH.units {k : Nat} {A : Around} (r : L2H.RoomH k A) : A.units + 64 < cLine := by have := r.un; omega
theorem fnP_of {CX : CXT} {P : Program} {w : World} {K : PySem.W.Frag} {mg : Str → Option Value} {base : Heap} {k : Nat} {f : Addr} {name qual : Str} {params : Arguments} {body : List Stmt} {scope : Scope} {dV kV doc pm cdv ct oc : Value} {an od : Option Addr}
    {osl : Array (Option Value)} {N ps : List Str} {sp : Addr × Obj → Sp} (lk : K.lookup f = some ⟨oc, od, .func (PySem.W.fnOf name qual params body scope dV kV doc pm an cdv ct), osl⟩) (hcd : PySem.W.codeIn K cdv qual = true) (S : FnScope N ps scope)
    (len : ∀ p vs H Q E, sp p vs H Q E → vs.length = ps.length)
    (hbody : ∀ (p : Addr × Obj) (A : Around) (outer : List Env) (s : Shared) (H : Hp) (vs : List V) (Q : VK) (E : XK), L2H.RoomH k (A.deeper (envOfC qual scope s.heap.objs.size f cdv)) → sp p vs H Q E →
      ∃ t, PSs (L2H.cxH CX P w K mg base N qual scope f cdv A outer s H E p) body t ∧ t { nx := fun _ H' => Q .non H', rt := Q } (start N vs) H) :
    FnP P w K mg base CX (k + 1) f (PySem.W.fnOf name qual params body scope dV kV doc pm an cdv ct) ps sp := by
  refine ⟨len, fun A outer s H args us vs Q E p hr hpin e0 hb r hsp => ?_⟩
  have hl := len _ _ _ _ _ hsp
  have KX : K.In s.heap := e0.mod.kin.keeps fun b o e => (e0.bs b o e).1
  have hkind : ∀ y ∈ ps.zip us, scope.names.lookup y.1 = some .local ∨ (scope.names.lookup y.1 = some .cell ∧ ((cellsFrom (s.heap.objs.size + 1) scope.names []).lookup y.1).isSome = true) := fun y hy => by
    rcases S.par y.1 (List.of_mem_zip hy).1 with q | q
    · exact .inl q
    · exact .inr ⟨q, PySem.W.cellsFrom_some _ _ _ (.inl q)⟩
  refine codeAny_call_function hr.depth (KX _ _ lk) rfl S.co S.gen rfl (PySem.W.codeRec_of KX hcd) (hb _ _ _ _ ?_)
  refine wpAny_newFunctionEnv_cells S.kind hkind fun env he s1 x => ?_
  subst he
  refine ⟨(e0.mod.nolimit.keeps fun b o e => (e0.bs b o e).1).keeps x.toInCall.keep, codeAny_func ?_⟩
  obtain ⟨t, ht, hq⟩ := hbody p A outer s H vs Q E (hr.deeper _) hsp
  refine wpAny_mono (ht.run [] s1 (start N vs) H _ (L2H.inv_startH S hpin e0 hl r x) hq) (fun fl s' hs => ?_) fun e s' hs => hs
  cases fl with
  | ret u =>
    obtain ⟨v, σ', H', J, rv, q⟩ := hs
    exact ⟨v, H', J.os, J.bare, J.base, J.hok, rv, q⟩
  | next =>
    obtain ⟨σ', H', J, q⟩ := hs
    exact ⟨V.non, H', J.os, J.bare, J.base, J.hok, rfl, q⟩
  | brk =>
    obtain ⟨_, _, _, q⟩ := hs
    exact False.elim q
  | cont =>
    obtain ⟨_, _, _, q⟩ := hs
    exact False.elim q
structure HasP (P : Program) (w : World) (K : PySem.W.Frag) (mg : Str → Option Value) (base : Heap) (d : He.DefD) (k : Nat) (ps : List Str) (sp : Addr × Obj → Sp) : Prop where
  ok : ∃ fd, FnP P w K mg base (L2.CX P w) k (He.fAd K d.at_) fd ps sp ∧ Binds K fd ps []
  kp : PySem.W.keepIn K (.ref (He.fAd K d.at_)) = true
theorem mkHasP {P : Program} {w : World} {K : PySem.W.Frag} {mg : Str → Option Value} {base : Heap} {d : He.DefD} {x q : Str} {pr : Arguments} {b : List Stmt} {sc : Scope} {N ps : List Str} {k : Nat} {sp : Addr × Obj → Sp}
    (F : ∃ fd, FunD K x q pr b sc [] [] (He.fAd K d.at_) fd) (S : FnScope N ps sc)
    (hb : ∀ (kV doc pm : Value) (an : Option Addr) (cdv ct : Value) (us : List Value), us.length = ps.length → bindArgs (PySem.W.fnOf x q pr b sc .none kV doc pm an cdv ct) ⟨us, []⟩ = pure (ps.zip us))
    (len : ∀ p vs H Q E, sp p vs H Q E → vs.length = ps.length)
    (hbody : ∀ (p : Addr × Obj) (cdv : Value) (A : Around) (outer : List Env) (s : Shared) (H : Hp) (vs : List V) (Q : VK) (E : XK), L2H.RoomH k (A.deeper (envOfC q sc s.heap.objs.size (He.fAd K d.at_) cdv)) → sp p vs H Q E →
      ∃ t, PSs (L2H.cxH (L2.CX P w) P w K mg base N q sc (He.fAd K d.at_) cdv A outer s H E p) b t ∧ t { nx := fun _ H' => Q .non H', rt := Q } (start N vs) H) : HasP P w K mg base d (k + 1) ps sp := by
  obtain ⟨fd, F⟩ := F
  have hbd := F.bindsN hb
  have hkp := F.kp
  obtain ⟨oc, od, dV, kV, doc, pm, an, cdv, ct, osl, rfl, lk, hcd, _, _⟩ := F.ex
  exact ⟨⟨_, fnP_of lk hcd S len fun p A outer s H vs Q E hr hsp => hbody p cdv A outer s H vs Q E hr hsp, hbd⟩, hkp⟩
section
variable {X : Cx} {p : Addr × Obj}
theorem run_fnP {CX : CXT} {k : Nat} {f : Addr} {fd : FuncData} {ps : List Str} {sp : Addr × Obj → Sp} {E : XK} {pins : List (Addr × Obj)} {σ : L2.St} {H : Hp} {s : Shared} {Q : VK} {us : List Value} {vs : List V} (F : FnP X.prog X.w X.K X.mg X.base CX k f fd ps sp) (hp : p ∈ X.pn) (hr : L2H.RoomH k X.A) (hb : Binds X.K fd ps []) (hx : Passes CX X E)
    (I : Inv X pins σ H s) (r : Vals vs us) (h : sp p vs H Q E) : wpAny (model X.prog X.w) X.A (call (.ref f) us) (EP X pins σ Q) X.xe s := by
  have hl : us.length = ps.length := by rw [← r.length]; exact F.len _ _ _ _ _ h
  have b2 := hb s us I.kIn (by rw [List.append_nil]; exact hl)
  rw [List.append_nil] at b2
  have P1 := I.pin p (List.mem_append_left _ hp)
  have hpin : L2H.PinOk X.stack H s p := ⟨P1.1, P1.2.1, fun hm => (List.mem_cons.mp (I.stkSub p.1 hm)).elim P1.2.2.1 P1.2.2.2.1, P1.2.2.2.2⟩
  refine wpAny_call (codeAny_mono (F.run X.A X.stack s H ⟨us, []⟩ us vs Q E p hr hpin I.env0 b2 r h) fun r s' hq => ?_)
  cases r with
  | error e => exact hx pins σ H s e s' I hq
  | ok fl =>
    cases fl with
    | ret u => exact I.after hq
    | next => exact False.elim hq
    | brk => exact False.elim hq
    | cont => exact False.elim hq
theorem cP_ {d : He.DefD} {k : Nat} {ps : List Str} {sp : Addr × Obj → Sp} {x : Str} {q pos : Pos} {e : Expr} {es : List Expr} {t : TA} (F : HasP X.prog X.w X.K X.mg X.base d k ps sp) (hp : p ∈ X.pn) (hr : L2H.RoomH k X.A) (hm : X.mg x = some (.ref (He.fAd X.K d.at_)))
    (ha : PA X (e :: es) t) (hg : Gl X x := by rfl) (hdb : (x == ("__debug__" : Str)) = false := by decide +kernel) (he : starEach (e :: es) X.env = (false, eval e X.env) :: starEach es X.env := by rfl) (hpl : (backTo pos (starEach es X.env)).any (·.1) = false := by rfl) :
    PE X (.Call (.Name x q) (e :: es) [] pos) (tCall (sp p) [] (fun _ _ _ => False) t) := by
  obtain ⟨fd, F1, b1⟩ := F.ok
  refine ⟨fun pins s σ H Q I h => ?_⟩
  refine wpAny_Call_Name_kw (ld_glob I hg hm ?_ hdb)
  refine PySem.W.callWith_K (h₀ := X.base) I.ok.mod.kin F.kp (thn (ha.run pos pins s σ H _ I h) fun us s1 ⟨vs, H1, I1, r, q⟩ => ⟨I1.kIn, ?_⟩) he hpl
  have q : sp p vs H1 Q fun _ _ _ => False := by
    have q : sp p (vs ++ []) H1 Q fun _ _ _ => False := q
    rw [List.append_nil] at q
    exact q
  exact run_fnP F1 hp hr b1 passE I1 r q
/-! ### isinstance of the handled exception, its fields -/
structure ExcO (p : Addr × Obj) (D : Addr) (od : Option Addr) : Prop where
  cls : p.2.cls = .ref D
  dict : p.2.dict = od
  dat : ∃ vs, p.2.data = .fields vs
theorem excO_of {p : Addr × Obj} {D : Addr} {cls : Value} {od : Option Addr} (h : Zc cls od p.2) (hf : ∃ vs, p.2.data = .fields vs) (e : cls = .ref D) : ExcO p D od := ⟨h.1.trans e, h.2, hf⟩
/-- the dict of the exception, as it stands -/
theorem inst_of {D : Addr} {od : Option Addr} {pins : List (Addr × Obj)} {σ : L2.St} {H : Hp} {s : Shared} (I : Inv X pins σ H s) (hp : p ∈ X.pn) (x : ExcO p D od) (hd : ∀ d, od = some d → ∃ fs, H d = some (.xd fs)) :
    ∃ o, PySem.W.InstAt s.heap p.1 p.2 D o ∧ ∀ d fs, od = some d → H d = some (.xd fs) → ∃ (od' : Obj) (mA : Str → Option Value), o = some od' ∧ (∀ f, PySem.W.lookIn f od' = some (mA f)) ∧ ∀ f, RelO (fs.lookup f) (mA f) := by
  have ha := (I.pin p (List.mem_append_left _ hp)).1
  obtain ⟨vs, hv⟩ := x.dat
  have hn : PySem.W.notCls p.2 = true := by unfold PySem.W.notCls; rw [hv] <;> rfl
  cases od with
  | none => exact ⟨none, ⟨ha, x.cls, hn, by rw [x.dict]; trivial⟩, fun d fs e => by cases e⟩
  | some d =>
    obtain ⟨fs, hx⟩ := hd d rfl
    have hx2 : ObjOk X.prog X.w H s.heap d (.xd fs) := I.hok d _ hx
    obtain ⟨mA, hns, hr⟩ := hx2
    obtain ⟨od', ho, hl⟩ := lookIn_ns hns
    refine ⟨some od', ⟨ha, x.cls, hn, by rw [x.dict]; exact ho⟩, fun d2 fs2 e1 e2 => ?_⟩
    cases e1
    rw [hx] at e2
    cases e2
    exact ⟨od', mA, rfl, hl, hr⟩
end
end WH
namespace PySem.W
open PySem PySem.Spec PySem.Calls PyProof.Rows
section
variable {prog : Program} {w : World} {A : Around} {E : Value → Shared → Prop} {s : Shared} {K : Frag} {x D : Addr} {ox : Obj} {o : Option Obj}
theorem findG {C : Addr} {name : Str} {a g : Value} (hc : (clsIn K C).isSome = true) (ha : findIn K (.ref C) name = some (some a)) (hg : specialIn K a "__get__" = some (some g)) (ht : takesIn K a = some true) : findObj K C o name = some (.bind g a) := by
  obtain ⟨cd, hc⟩ := Option.isSome_iff_exists.mp hc
  unfold findObj
  rw [hc, Option.bind_some, ha, Option.bind_some]
  simp [hg, ht]
theorem classG {Q : Option Value → Shared → Prop} (C : L2.ExcC K D) (X : K.In s.heap) (I : InstAt s.heap x ox D o) (h : Q (some (.ref D)) { s with toks := s.toks + 1 }) : wpAny (model prog w) A (getAttr? (.ref x) "__class__") Q E s := by
  have hf : findObj K D o "__class__" = some (.bind (.builtin "getset_descriptor.__get__") (.builtin "object.__class__")) := findG (by obtain ⟨cd, hc, _⟩ := any_some C.hd; rw [hc]; rfl) C.ha C.hn C.ht
  obtain ⟨hp, g, d, t, os⟩ := s
  have L0 := I.type (M := model prog w)
  have L1 := looks_findIn (M := model prog w) X C.hg
  have L2 := looks_findIn (M := model prog w) X C.hk
  have L3 := looks_find (M := model prog w) X I hf
  have sub : Looks (model prog w) hp (isInstance (.ref x) (.type "BaseException")) true := L0.andThen (looks_subIn X C.hs)
  have hx0 : (false && onTheHeap (Value.builtin "BaseException.__getattribute__")) = false := rfl
  have hx2 : (Value.builtin "BaseException.__getattribute__" == Value.builtin "object.__getattribute__") = false := by decide +kernel
  have hx1 : (onTheHeap (Value.ref D) && Value.builtin "BaseException.__getattribute__" == Value.builtin "object.__getattribute__") = false := by rw [hx2]; rfl
  unfold getAttr? getAttrBy? getAttrBy
  refine wpAny_bind (wpAny_mkText (wpAny_bind (wpAny_attempt (wpAny_holding (wpAny_bind (L0.at (wpAny_bind (L1.at ?_))))))))
  show wpAny _ _ (if (onTheHeap (Value.ref D) && Value.builtin "BaseException.__getattribute__" == Value.builtin "object.__getattribute__") = true then _ else _) _ _ _
  rw [hx1, if_neg Bool.false_ne_true]
  unfold getAttrByItsOwn hookBefore
  refine wpAny_bind ?_
  rw [if_pos (show onTheHeap (Value.ref D) = true from rfl)]
  refine L2.at ?_
  refine wpAny_bind (wpAny_attempt (wpAny_holding ?_))
  unfold callGetattribute
  rw [hx0, if_neg Bool.false_ne_true]
  unfold boundAndCalled
  rw [PySem.F.excAttr_ValueError.ga.bind (.ref x)]
  refine wpAny_bind (wpAny_pure ?_)
  show wpAny _ _ (call (.builtin "BaseException.__getattribute__") [.ref x, .str "__class__" t]) _ _ _
  refine wpAny_call (codeAny_call_builtin PySem.F.excAttr_ValueError.ga.plain PySem.F.entry_bexc_ga ?_)
  refine @check_slot (model prog w) _ _ ⟨hp, g, d, t + 1, os⟩ "BaseException.__getattribute__" "BaseException" "__getattribute__" (.ref x) [.str "__class__" t] [] _ (by decide +kernel) (by decide +kernel) sub (PySem.F.args_bexc_ga (.ref x) (.str "__class__" t)) ?_
  unfold Builtin.«object.__getattribute__»
  refine wpAny_bind (wpAny_of_eq (a := ((Value.ref x : Value), [Value.str "__class__" t])) (by first | rfl | (simp only [slotArgs]; rfl)) ?_)
  refine wpAny_bind (wpAny_pure (wpAny_bind (L0.at (wpAny_bind (L3.at ?_)))))
  show wpAny _ _ (holding [Value.builtin "object.__class__"] (call (.builtin "getset_descriptor.__get__") [.builtin "object.__class__", .ref x, .ref D]) >>= ret) _ _ _
  refine wpAny_bind (wpAny_holding (wpAny_call (class_get (s := ⟨hp, g, d, t + 1, os⟩) (ox := ox) (od := o) X I C.hm ?_)))
  refine wpAny_pure ?_
  show wpAny _ _ (handedOut (.ref D)) _ _ _
  rw [handedOut_of (v := .ref D) rfl]
  first
    | exact wpAny_pure (wpAny_pure h)
    | exact wpAny_pure h
    | exact wpAny_pure (wpAny_bind (wpAny_pure (wpAny_pure h)))
theorem kitG (C : L2.ExcC K D) : KitX K (.ref x) (.ref D) (fun h => InstAt h x ox D o) where
  ty := fun _ _ _ I => I.type
  it := fun _ _ X _ => by
    obtain ⟨cdD, hcD, _⟩ := any_some C.hd
    unfold clsIn at hcD
    split at hcD
    · rename_i c' d' cd' sl' ho
      intro A' Q' E' s' k q
      unfold isType loadHead
      exact wpAny_bind (wpAny_loadPart (k _ _ (X _ _ ho)) (wpAny_pure q))
    · cases hcD
  ne := fun h tp dd its n sl X htp => by
    obtain ⟨cdD, hcD, _⟩ := any_some C.hd
    refine Bool.eq_false_iff.mpr fun q => ?_
    have e : D = tp := Value.ref.inj (beq_iff_eq.mp q)
    subst e
    unfold clsIn at hcD
    split at hcD
    · rename_i c' d' cd' sl' ho
      have z := (X _ _ ho).symm.trans htp
      cases z
    · cases hcD
  ca := fun X I k => classG C X I k
end
end PySem.W
namespace WH
open PySem PySem.Spec PyProof.Rows L2


local macro_rules | `(tactic| walk_at "w1") => `(tactic| first
  | with_reducible refine w_seq ?_ | with_reducible refine w_asg ?_ | with_reducible refine w_ret ?_ | with_reducible refine w_retN ?_ | with_reducible refine w_drop ?_ | with_reducible refine w_next ?_ | with_reducible refine w_ifS ?_
  | with_reducible refine w_var (by with_unfolding_all rfl) ?_
  | with_reducible refine w_c ?_ | with_reducible refine w_op ?_ | with_reducible refine w_un ?_ | with_reducible refine w_test ?_ | with_reducible refine w_tB ?_ | with_reducible refine w_k ?_ | with_reducible refine w_not ?_
  | with_reducible refine w_and ?_ | with_reducible refine w_or ?_ | with_reducible refine w_andV ?_ | with_reducible refine w_orV ?_ | with_reducible refine w_notV ?_ | with_reducible refine w_tIf ?_
  | with_reducible refine w_I0 ?_ | with_reducible refine w_U ?_ | with_reducible refine w_eqI ?_ | with_reducible refine w_neI ?_ | with_reducible refine w_eqS ?_ | with_reducible refine w_neS ?_ | with_reducible refine w_isN ?_ | with_reducible refine w_notN ?_
  | with_reducible refine w_chain ?_ | with_reducible refine w_cb ?_ | with_reducible refine w_call ?_ | with_reducible refine w_cons ?_ | with_reducible refine w_nil ?_
  | with_reducible refine isi_int ?_ | with_reducible refine isi_intB ?_ | with_reducible refine isi_nonI ?_ | with_reducible refine isi_str ?_ | with_reducible refine if_T ?_ | with_reducible refine if_F ?_
  | with_reducible refine w_forR ?_ | with_reducible refine w_forR2 ?_ | with_reducible refine w_forL ?_ | with_reducible refine w_forT ?_
  | with_reducible refine w_name ?_ | with_reducible refine w_forE ?_ | with_reducible refine w_forET ?_ | with_reducible refine w_tup ?_ | with_reducible refine w_lst ?_ | with_reducible refine w_prop ?_ | with_reducible refine w_meth ?_ | with_reducible refine w_make ?_ | with_reducible refine w_fld ?_
  | with_reducible refine w_lcS ?_ | with_reducible refine w_lcL ?_ | with_reducible refine w_lcT ?_ | with_reducible refine w_lcR ?_ | with_reducible refine w_unr ?_ | with_reducible refine w_sFld ?_ | with_reducible refine w_tDGet ?_ | with_reducible refine w_tDIn ?_ | with_reducible refine w_tDNotIn ?_ | with_reducible refine w_sDPut ?_ | with_reducible refine w_bm ?_ | with_reducible refine w_bm0 ?_ | with_reducible refine whB ?_ | with_reducible refine w_augS ?_ | with_reducible refine w_pgS ?_ | with_reducible refine w_ipI ?_ | with_reducible refine w_sl ?_ | with_reducible refine w_part ?_ | with_reducible refine w_noPart ?_ | with_reducible refine w_par ?_ | with_reducible refine w_par3 ?_ | with_reducible refine w_one ?_ | with_reducible refine w_two ?_ | with_reducible refine w_three ?_ | with_reducible refine w_int1 ?_ | with_reducible refine w_star ?_ | with_reducible refine w_yes ?_ | with_reducible refine w_rabs ?_ | with_reducible refine w_rmin2 ?_ | with_reducible refine w_rmax2 ?_ | with_reducible refine w_rint1 ?_ | with_reducible refine w_forSeq ?_ | with_reducible refine if_nT ?_ | with_reducible refine if_nF ?_)
local macro_rules | `(tactic| walk_at "w") => `(tactic| repeat walk_at "w1")


/-- isinstance(e, c) -/
def rIsP (K : PySem.W.Frag) (p : Addr × Obj) : List V → Hp → VK → Prop := fun xs H Q => ∃ (D : Addr) (od : Option Addr) (c : V) (cv : Value) (b : Bool), xs = [.ref p.1, c] ∧ ExcO p D od ∧ ExcC K D ∧ (∀ d, od = some d → ∃ fs, H d = some (.xd fs)) ∧ (∀ u, RelV c u → u = cv) ∧ PySem.W.kitOne K (.ref D) cv = some b ∧ Q (.bl b) H
/-- e.f -/
def tXP (K : PySem.W.Frag) (p : Addr × Obj) (f : Str) (te : TE) : TE := fun σ H Q => te σ H fun x H1 => x = .ref p.1 ∧ ∃ (C dd : Addr) (fs : List (Str × V)) (v : V), ExcO p C (some dd) ∧ XfC K C ∧ PySem.W.findIn K (.ref C) f = some none ∧ H1 dd = some (.xd fs) ∧ fs.lookup f = some v ∧ Q v H1
/-- l.count(True) of truth values -/
def rCntB (K : PySem.W.Frag) : V → List V → Hp → VK → Prop := fun x xs H Q => ∃ (l : Addr) (bs : List Bool), x = .ref l ∧ xs = [.bl true] ∧ SqL K H l (bs.map V.bl) ∧ Q (.int (bs.count true : Nat)) H
theorem cnt_true : ∀ {bs : List Bool} {us : List Value}, Vals (bs.map V.bl) us → us.countP (eqU (.bl true)) = bs.count true
  | [], _, .nil => rfl
  | b :: bs, _, .cons r t => by
    have ih := cnt_true (bs := bs) t
    rw [List.countP_cons, List.count_cons, ih, eqU_of r rfl]
    cases b <;> rfl
theorem flat_bls : ∀ bs : List Bool, (bs.map V.bl).all flatV = true
  | [] => rfl
  | b :: bs => by rw [List.map_cons, List.all_cons, flat_bls bs]; rfl
section
variable {X : Cx} {p : Addr × Obj}
theorem ca_isP (hp : p ∈ X.pn) : CallR X (.builtin "isinstance") (rIsP X.K p) := by
  intro pins s σ H xs us Q I r h
  obtain ⟨D, od, c, cv, b, rfl, xo, C, hd, hcv, e, q⟩ := h
  cases r with
  | cons rx rr =>
    cases rr with
    | cons rt rr =>
      cases rr
      cases rx
      have ec := hcv _ rt
      subst ec
      obtain ⟨o, J, _⟩ := inst_of I hp xo hd
      exact PySem.W.kia_one (PySem.W.kitG C) I.kIn J e (fun z => nomatch z) fun tk => ⟨.bl b, H, I.kept (t' := tk) fun _ _ z => z, rfl, q⟩
theorem pe_xP {e : Expr} {te : TE} {pos : Pos} {n : Str} (hp : p ∈ X.pn) (he : PE X e te) (hb : attributeBase e n X.env (eval e X.env) = eval e X.env := by rfl) : PE X (.Attribute e n pos) (tXP X.K p n te) := by
  refine ⟨fun pins s σ H Q I h => ?_⟩
  refine attr_of hb (thn (he.run pins s σ H _ I h) fun u s1 hh => ?_)
  obtain ⟨x, H1, I1, rx, ex, C, dd, fs, v, xo, T, hno, ea, l, q⟩ := hh
  subst ex
  obtain rfl : u = Value.ref p.1 := rx
  obtain ⟨o, J, hf⟩ := inst_of I1 hp xo (fun d z => by cases z; exact ⟨fs, ea⟩)
  obtain ⟨od', mA, rfl, hl, hr⟩ := hf dd fs rfl ea
  obtain ⟨u, hu, ru⟩ := RelO.some_of (v := v) (o := mA n) (by rw [← l]; exact hr n)
  exact HandSPX.exc_get I1.kIn J T.ga T.gg T.exC (PySem.W.findObj_own T.hdC hno rfl (by rw [hl, hu])) (handed_of ru) ⟨v, H1, I1.tok _, ru, q⟩
theorem mt_lcountB : MtR X "list.count" (rCntB X.K) := by
  intro pins s σ H x xs v us Q I rx rxs h
  obtain ⟨l, bs, rfl, rfl, hs, q⟩ := h
  cases rx
  obtain ⟨u, rfl, ru⟩ := rxs.one
  obtain ⟨its, rv, ⟨⟨cls, dd, data, sl⟩, n, ho, hc, hdn, hd⟩, hlen⟩ := I.list hs
  simp only at hc hd
  subst hc hd
  refine call_meets PySem.F.slot_list_count ⟨_, ho, rfl⟩ PySem.F.entry_list_count (PySem.F.args_list_count_2 _ _)
    (SeqAt.list_countAt l its.toArray n dd sl u (eqU (.bl true))) ⟨ho, fun y hy => mem_eqAt ru rfl rv (flat_bls bs) y (by simpa using hy), ?_⟩
  have ec : its.toArray.toList.countP (eqU (.bl true)) = bs.count true := cnt_true rv
  refine ⟨.int (bs.count true : Nat), H, I.tok _, ⟨s.toks, ?_⟩, q⟩
  show Value.int ((its.toArray.toList.countP (eqU (.bl true)) : Nat) : Int) s.toks = Value.int ((bs.count true : Nat) : Int) s.toks
  rw [ec]
end
/-! ### the five errors -/
def Err.k : Err → Nat
  | .broken _ => 15
  | .inUse _ => 16
  | .unknown _ => 12
  | .badIndex _ => 4
  | .nothing => 17
def Err.b : Err → Nat
  | .unknown _ => 19
  | .badIndex _ => 18
  | _ => 20
def Err.v : Err → V
  | .broken i => .int (i : Nat)
  | .inUse i => .int (i : Nat)
  | .unknown nm => .str nm
  | .badIndex i => .int i
  | .nothing => .non
def isaN (e : Err) (j : Nat) : Bool := j == e.k || j == e.b
def FldX (H : Hp) (od : Option Addr) : Err → Prop
  | .broken i => ∃ d, od = some d ∧ H d = some (.xd [("index", .int i)])
  | .inUse i => ∃ d, od = some d ∧ H d = some (.xd [("index", .int i)])
  | .unknown nm => ∃ d, od = some d ∧ H d = some (.xd [("given", .str nm)])
  | .badIndex i => ∃ d, od = some d ∧ H d = some (.xd [("given", .int i)])
  | .nothing => od = none
theorem FldX.of {H H' : Hp} {od : Option Addr} {e : Err} (h : ErrAt H H' od e) : FldX H' od e := by
  cases e with
  | nothing => exact h
  | _ => obtain ⟨d, h1, _, h2⟩ := h; exact ⟨d, h1, h2⟩
theorem FldX.s {H H' : Hp} {od : Option Addr} {e : Err} (h : FldX H od e) (s : Same H H') : FldX H' od e := by
  cases e with
  | nothing => exact h
  | _ => obtain ⟨d, h1, h2⟩ := h; exact ⟨d, h1, s _ _ h2⟩
theorem FldX.xd {H : Hp} {od : Option Addr} {e : Err} (h : FldX H od e) : ∀ d, od = some d → ∃ fs, H d = some (.xd fs) := by
  intro d e1
  cases e with
  | nothing => rw [show od = none from h] at e1; cases e1
  | _ => obtain ⟨d2, h1, h2⟩ := h; rw [h1] at e1; cases e1; exact ⟨_, h2⟩
def ErrX (K : PySem.W.Frag) (p : Addr × Obj) (H : Hp) (e : Err) : Prop := ∃ od, ExcO p (He.ga K e.nm) od ∧ FldX H od e
section
variable {w : World} {K : PySem.W.Frag} {mg : Str → Option Value} {base : Heap}
structure KinX (K : PySem.W.Frag) (x : Str) (k b : Nat) : Prop where
  xf : XfC K (He.ga K x)
  ca : PySem.W.findIn K (.ref (He.ga K x)) "__class__" = some (some (.builtin "object.__class__"))
  mo : PySem.W.mroIn K (He.ga K x) (.type "object") = some true
  own : ∀ (j : Nat) (c : Str), CLo[j]? = some c → PySem.W.kitOne K (.ref (He.ga K x)) (.ref (He.ga K c)) = some (j == k || j == b)
  blt : ∀ (j : Nat) (c : String), BLo[j]? = some c → PySem.W.kitOne K (.ref (He.ga K x)) (.type c) = some (j + 18 == b)
  exm : PySem.W.exmAny K (.ref (He.ga K x)) (exc3 K) = some true
theorem zip_at {α : Type} {l : List α} {j : Nat} {c : α} (h : l[j]? = some c) : (c, j) ∈ l.zipIdx := by
  have e : l.zipIdx[j]? = some (c, j) := by rw [List.getElem?_zipIdx, h]; simp
  exact List.mem_of_getElem? e
theorem kinX_ok {x : Str} {k b : Nat} (h : kinX K x k b = true) : KinX K x k b := by
  obtain ⟨h1, h⟩ := He.ba h
  obtain ⟨h2, h⟩ := He.ba h
  obtain ⟨h3, h⟩ := He.ba h
  obtain ⟨h4, h⟩ := He.ba h
  obtain ⟨h5, h6⟩ := He.ba h
  exact ⟨xfB_ok h1, He.eqO_ok h2, of_decide_eq_true h3, fun j c hc => of_decide_eq_true (List.all_eq_true.mp h4 (c, j) (zip_at hc)), fun j c hc => of_decide_eq_true (List.all_eq_true.mp h5 (c, j) (zip_at hc)), of_decide_eq_true h6⟩
theorem Txt.kinE (T : Txt w K mg) (e : Err) : KinX K e.nm e.k e.b := by
  obtain ⟨h1, h⟩ := He.ba T.kin
  obtain ⟨h2, h⟩ := He.ba h
  obtain ⟨h3, h⟩ := He.ba h
  obtain ⟨h4, h5⟩ := He.ba h
  cases e with
  | broken i => exact kinX_ok h1
  | inUse i => exact kinX_ok h2
  | unknown nm => exact kinX_ok h3
  | badIndex i => exact kinX_ok h4
  | nothing => exact kinX_ok h5
theorem Txt.excC (T : Txt w K mg) (e : Err) : ExcC K (He.ga K e.nm) := by
  obtain ⟨h1, h⟩ := He.ba (He.ba (He.ba T.more).2).1
  obtain ⟨h2, h⟩ := He.ba h
  obtain ⟨h3, h4⟩ := He.ba h
  have q := T.kinE e
  exact ⟨q.xf.ga, q.xf.gg, q.xf.exC, q.xf.hdC, q.ca, He.eqO_ok h2, of_decide_eq_true h3, q.mo⟩
theorem w_isX (T : Txt w K mg) {e : Err} {p : Addr × Obj} {H : Hp} {Q : VK} (j : Nat) {c : Str} (hx : ErrX K p H e) (hc : CLo[j]? = some c) (q : Q (.bl (isaN e j)) H) : rIsP K p [.ref p.1, .ref (He.ga K c)] H Q := by
  obtain ⟨od, xo, fl⟩ := hx
  exact ⟨_, od, _, _, _, rfl, xo, T.excC e, fl.xd, fun u r => r, (T.kinE e).own j c hc, q⟩
theorem w_isT (T : Txt w K mg) {e : Err} {p : Addr × Obj} {H : Hp} {Q : VK} (j : Nat) {c : String} (hx : ErrX K p H e) (hc : BLo[j]? = some c) (q : Q (.bl (j + 18 == e.b)) H) : rIsP K p [.ref p.1, .ty c] H Q := by
  obtain ⟨od, xo, fl⟩ := hx
  exact ⟨_, od, _, _, _, rfl, xo, T.excC e, fl.xd, fun u r => r, (T.kinE e).blt j c hc, q⟩
theorem ErrX.s {p : Addr × Obj} {H H' : Hp} {e : Err} (h : ErrX K p H e) (s : Same H H') : ErrX K p H' e := by
  obtain ⟨od, a, b⟩ := h
  exact ⟨od, a, b.s s⟩
theorem dpBls {H : Hp} : ∀ bs : List Bool, DpAll K H (bs.map V.bl) (bs.map PyData.bool)
  | [] => .nil
  | b :: bs => .cons (.bl b) (dpBls bs)
def FBk (k b : Nat) : List Bool := [0 == k || 0 == b, 1 == k || 1 == b, 2 == k || 2 == b, 3 == k || 3 == b, 4 == k || 4 == b, 5 == k || 5 == b, 6 == k || 6 == b, 7 == k || 7 == b, 8 == k || 8 == b, 9 == k || 9 == b, 10 == k || 10 == b, 11 == k || 11 == b, 12 == k || 12 == b, 13 == k || 13 == b, 14 == k || 14 == b, 15 == k || 15 == b, 16 == k || 16 == b, 17 == k || 17 == b]
def BBk (k b : Nat) : List Bool := [18 == k || 18 == b, 19 == k || 19 == b, 20 == k || 20 == b]
def PBk (b : Nat) : List Bool := [0 + 18 == b, 1 + 18 == b, 2 + 18 == b]
def NMs : List V := [V.str "InvalidText", V.str "InvalidName", V.str "InvalidNumber", V.str "InvalidWish", V.str "InvalidIndex", V.str "InvalidLine", V.str "InvalidWord", V.str "NotARule", V.str "InvalidNumbers", V.str "InvalidRules", V.str "InvalidWords", V.str "InvalidDeeds", V.str "UnknownName", V.str "NoShuffle", V.str "TooGreat", V.str "Broken", V.str "InUse"]
theorem err_cnt (e : Err) : (FBk e.k e.b).count true = 1 := by cases e <;> rfl
theorem err_bp (e : Err) : PyData.eqv (.list ((BBk e.k e.b).map PyData.bool)) (.list ((PBk e.b).map PyData.bool)) = true := by cases e <;> rfl
theorem err_at (e : Err) : (FBk e.k e.b)[e.k]? = some true := by cases e <;> rfl
theorem err_no (e : Err) : ∀ m, m < e.k → (FBk e.k e.b)[m]? = some false := by
  cases e with
  | broken i => exact (by decide : ∀ m, m < 15 → (FBk 15 20)[m]? = some false)
  | inUse i => exact (by decide : ∀ m, m < 16 → (FBk 16 20)[m]? = some false)
  | unknown i => exact (by decide : ∀ m, m < 12 → (FBk 12 19)[m]? = some false)
  | badIndex i => exact (by decide : ∀ m, m < 4 → (FBk 4 18)[m]? = some false)
  | nothing => exact (by decide : ∀ m, m < 17 → (FBk 17 20)[m]? = some false)
theorem err_b3 (e : Err) : PyData.eqv (.list ((BBk e.k e.b).map PyData.bool)) (.list [.bool (decide (((e.k : Nat) : Int) < 12)), .bool (decide (((e.k : Nat) : Int) = 12)), .bool (decide (((e.k : Nat) : Int) > 12))]) = true := by cases e <;> rfl
theorem err_nm (e : Err) : (NMs ++ [V.str "NothingToUndo"])[e.k]? = some (.str e.nm) := by cases e <;> rfl
theorem shBls : ∀ bs : List Bool, bs.length ≤ 3 → SeqAt.shaped (.list (bs.map PyData.bool)) = true
  | [], _ => rfl
  | [_], _ => rfl
  | [_, _], _ => rfl
  | [_, _, _], _ => rfl
  | _ :: _ :: _ :: _ :: _, h => by simp at h
theorem boot_ValueError : bootBuiltins ("ValueError" : Str) = some (.type "ValueError") := by kernel_rfl
theorem boot_LookupError : bootBuiltins ("LookupError" : Str) = some (.type "LookupError") := by kernel_rfl
theorem boot_ArithmeticError : bootBuiltins ("ArithmeticError" : Str) = some (.type "ArithmeticError") := by kernel_rfl
theorem sc_law_error : FnScope ns_law_error ps_law_error (defScope s_law_error) := ⟨rfl, rfl, rfl, by decide +kernel, rfl, by decide +kernel, by decide +kernel⟩
def sp_law_error (K : PySem.W.Frag) : Addr × Obj → Sp := fun p vs H Q _ => ∃ e, vs = [.ref p.1] ∧ ErrX K p H e ∧ ∀ H', Same H H' → Q (.str e.nm) H'
theorem ok_law_error (T : Txt w K mg) : HasP PP w K mg base d_law_error 4 ps_law_error (sp_law_error K) := by
  refine mkHasP T.f_law_error sc_law_error (fun _ _ _ _ _ _ us hl => match us, hl with | [_], _ => rfl) (fun p vs H Q E h => ?_) (fun p cdv A outer s H vs Q E hr h => ⟨_, (pss_cons (ps_set (i := 1) sc_law_error.nd rfl (Or.inl rfl) (pe_lst (pa_cons (pe_callB (ca_isP (show p ∈ [p] from List.mem_singleton.mpr rfl)) rfl T.n_isinstance (by kernel_rfl) (pa_cons (pv 0) (pa_cons (pe_gr rfl T.g_InvalidText) pa_nil))) (pa_cons (pe_callB (ca_isP (show p ∈ [p] from List.mem_singleton.mpr rfl)) rfl T.n_isinstance (by kernel_rfl) (pa_cons (pv 0) (pa_cons (pe_gr rfl T.g_InvalidName) pa_nil))) (pa_cons (pe_callB (ca_isP (show p ∈ [p] from List.mem_singleton.mpr rfl)) rfl T.n_isinstance (by kernel_rfl) (pa_cons (pv 0) (pa_cons (pe_gr rfl T.g_InvalidNumber) pa_nil))) pa_nil)))))
 (pss_cons (ps_set (i := 1) sc_law_error.nd rfl (Or.inl rfl) (pe_op op_cat (pv 1) (pe_lst (pa_cons (pe_callB (ca_isP (show p ∈ [p] from List.mem_singleton.mpr rfl)) rfl T.n_isinstance (by kernel_rfl) (pa_cons (pv 0) (pa_cons (pe_gr rfl T.g_InvalidWish) pa_nil))) (pa_cons (pe_callB (ca_isP (show p ∈ [p] from List.mem_singleton.mpr rfl)) rfl T.n_isinstance (by kernel_rfl) (pa_cons (pv 0) (pa_cons (pe_gr rfl T.g_InvalidIndex) pa_nil))) (pa_cons (pe_callB (ca_isP (show p ∈ [p] from List.mem_singleton.mpr rfl)) rfl T.n_isinstance (by kernel_rfl) (pa_cons (pv 0) (pa_cons (pe_gr rfl T.g_InvalidLine) pa_nil))) pa_nil))))))
 (pss_cons (ps_set (i := 1) sc_law_error.nd rfl (Or.inl rfl) (pe_op op_cat (pv 1) (pe_lst (pa_cons (pe_callB (ca_isP (show p ∈ [p] from List.mem_singleton.mpr rfl)) rfl T.n_isinstance (by kernel_rfl) (pa_cons (pv 0) (pa_cons (pe_gr rfl T.g_InvalidWord) pa_nil))) (pa_cons (pe_callB (ca_isP (show p ∈ [p] from List.mem_singleton.mpr rfl)) rfl T.n_isinstance (by kernel_rfl) (pa_cons (pv 0) (pa_cons (pe_gr rfl T.g_NotARule) pa_nil))) (pa_cons (pe_callB (ca_isP (show p ∈ [p] from List.mem_singleton.mpr rfl)) rfl T.n_isinstance (by kernel_rfl) (pa_cons (pv 0) (pa_cons (pe_gr rfl T.g_InvalidNumbers) pa_nil))) pa_nil))))))
 (pss_cons (ps_set (i := 1) sc_law_error.nd rfl (Or.inl rfl) (pe_op op_cat (pv 1) (pe_lst (pa_cons (pe_callB (ca_isP (show p ∈ [p] from List.mem_singleton.mpr rfl)) rfl T.n_isinstance (by kernel_rfl) (pa_cons (pv 0) (pa_cons (pe_gr rfl T.g_InvalidRules) pa_nil))) (pa_cons (pe_callB (ca_isP (show p ∈ [p] from List.mem_singleton.mpr rfl)) rfl T.n_isinstance (by kernel_rfl) (pa_cons (pv 0) (pa_cons (pe_gr rfl T.g_InvalidWords) pa_nil))) (pa_cons (pe_callB (ca_isP (show p ∈ [p] from List.mem_singleton.mpr rfl)) rfl T.n_isinstance (by kernel_rfl) (pa_cons (pv 0) (pa_cons (pe_gr rfl T.g_InvalidDeeds) pa_nil))) pa_nil))))))
 (pss_cons (ps_set (i := 1) sc_law_error.nd rfl (Or.inl rfl) (pe_op op_cat (pv 1) (pe_lst (pa_cons (pe_callB (ca_isP (show p ∈ [p] from List.mem_singleton.mpr rfl)) rfl T.n_isinstance (by kernel_rfl) (pa_cons (pv 0) (pa_cons (pe_gr rfl T.g_UnknownName) pa_nil))) (pa_cons (pe_callB (ca_isP (show p ∈ [p] from List.mem_singleton.mpr rfl)) rfl T.n_isinstance (by kernel_rfl) (pa_cons (pv 0) (pa_cons (pe_gr rfl T.g_NoShuffle) pa_nil))) (pa_cons (pe_callB (ca_isP (show p ∈ [p] from List.mem_singleton.mpr rfl)) rfl T.n_isinstance (by kernel_rfl) (pa_cons (pv 0) (pa_cons (pe_gr rfl T.g_TooGreat) pa_nil))) pa_nil))))))
 (pss_cons (ps_set (i := 1) sc_law_error.nd rfl (Or.inl rfl) (pe_op op_cat (pv 1) (pe_lst (pa_cons (pe_callB (ca_isP (show p ∈ [p] from List.mem_singleton.mpr rfl)) rfl T.n_isinstance (by kernel_rfl) (pa_cons (pv 0) (pa_cons (pe_gr rfl T.g_Broken) pa_nil))) (pa_cons (pe_callB (ca_isP (show p ∈ [p] from List.mem_singleton.mpr rfl)) rfl T.n_isinstance (by kernel_rfl) (pa_cons (pv 0) (pa_cons (pe_gr rfl T.g_InUse) pa_nil))) (pa_cons (pe_callB (ca_isP (show p ∈ [p] from List.mem_singleton.mpr rfl)) rfl T.n_isinstance (by kernel_rfl) (pa_cons (pv 0) (pa_cons (pe_gr rfl T.g_NothingToUndo) pa_nil))) pa_nil))))))
 (pss_cons (ps_set (i := 2) sc_law_error.nd rfl (Or.inl rfl) (pe_lst (pa_cons pe_str (pa_cons pe_str (pa_cons pe_str (pa_cons pe_str (pa_cons pe_str (pa_cons pe_str pa_nil))))))))
 (pss_cons (ps_set (i := 2) sc_law_error.nd rfl (Or.inl rfl) (pe_op op_cat (pv 2) (pe_lst (pa_cons pe_str (pa_cons pe_str (pa_cons pe_str (pa_cons pe_str (pa_cons pe_str pa_nil))))))))
 (pss_cons (ps_set (i := 2) sc_law_error.nd rfl (Or.inl rfl) (pe_op op_cat (pv 2) (pe_lst (pa_cons pe_str (pa_cons pe_str (pa_cons pe_str (pa_cons pe_str (pa_cons pe_str (pa_cons pe_str pa_nil)))))))))
 (pss_cons (ps_set (i := 3) sc_law_error.nd rfl (Or.inl rfl) (pe_lst (pa_cons (pe_callB (ca_isP (show p ∈ [p] from List.mem_singleton.mpr rfl)) rfl T.n_isinstance (by kernel_rfl) (pa_cons (pv 0) (pa_cons (pe_gr rfl T.g_WrongValue) pa_nil))) (pa_cons (pe_callB (ca_isP (show p ∈ [p] from List.mem_singleton.mpr rfl)) rfl T.n_isinstance (by kernel_rfl) (pa_cons (pv 0) (pa_cons (pe_gr rfl T.g_WrongName) pa_nil))) (pa_cons (pe_callB (ca_isP (show p ∈ [p] from List.mem_singleton.mpr rfl)) rfl T.n_isinstance (by kernel_rfl) (pa_cons (pv 0) (pa_cons (pe_gr rfl T.g_NoAnswer) pa_nil))) pa_nil)))))
 (pss_cons (ps_set (i := 4) sc_law_error.nd rfl (Or.inl rfl) (pe_lst (pa_cons (pe_callB (ca_isP (show p ∈ [p] from List.mem_singleton.mpr rfl)) rfl T.n_isinstance (by kernel_rfl) (pa_cons (pv 0) (pa_cons (pe_bltn (v := .ty "ValueError") rfl T.n_ValueError boot_ValueError rfl) pa_nil))) (pa_cons (pe_callB (ca_isP (show p ∈ [p] from List.mem_singleton.mpr rfl)) rfl T.n_isinstance (by kernel_rfl) (pa_cons (pv 0) (pa_cons (pe_bltn (v := .ty "LookupError") rfl T.n_LookupError boot_LookupError rfl) pa_nil))) (pa_cons (pe_callB (ca_isP (show p ∈ [p] from List.mem_singleton.mpr rfl)) rfl T.n_isinstance (by kernel_rfl) (pa_cons (pv 0) (pa_cons (pe_bltn (v := .ty "ArithmeticError") rfl T.n_ArithmeticError boot_ArithmeticError rfl) pa_nil))) pa_nil)))))
 (pss_cons (ps_if (PW.pt (pw_or (pt_cmpR op_ne (pe_bm PySem.F.plainAttrs_list PySem.F.slot_list_count PySem.F.type_list_count mt_lcountB (pv 1) (pa_cons pe_bl pa_nil)) pe_int (nomark _)) (pw_or1 (pt_cmpR (op_neD hr.units) (pv 3) (pv 4) (nomark _))))) (pss_one (ps_ret pe_str)) pss_nil)
 (pss_cons (ps_set (i := 5) sc_law_error.nd rfl (Or.inl rfl) (pe_bm PySem.F.plainAttrs_list PySem.F.slot_list_index PySem.F.type_list_index mt_index (pv 1) (pa_cons pe_bl pa_nil)))
 (pss_one (ps_ret (pe_ifExp (pt_cmpR (op_eqD hr.units) (pv 3) (pe_lst (pa_cons (pe_cmpR op_lt (pv 5) pe_int (nomark _)) (pa_cons (pe_cmpR op_eq (pv 5) pe_int (nomark _)) (pa_cons (pe_cmpR op_gt (pv 5) pe_int (nomark _)) pa_nil)))) (nomark _)) (pe_ix (r := rIxL K) ix_list (pe_op op_cat (pv 2) (pe_lst (pa_cons pe_str pa_nil))) (pv 5) (fun _ _ => rfl)) pe_str)))))))))))))))), ?_⟩)
  · obtain ⟨e, rfl, _⟩ := h
    rfl
  · obtain ⟨e, rfl, hx, fin⟩ := h
    walk_at "w"
    refine w_isX T 0 hx rfl ?_
    walk_at "w"
    refine w_isX T 1 hx rfl ?_
    walk_at "w"
    refine w_isX T 2 hx rfl ?_
    walk_at "w"
    refine ⟨le_line (by simp), fun l1 hl1 => ?_⟩
    have s1 := Same.u (o := .lst [V.bl (isaN e 0), V.bl (isaN e 1), V.bl (isaN e 2)]) (Same.refl H) hl1
    have e1 := upd_same (H := H) (a := l1) (o := .lst [V.bl (isaN e 0), V.bl (isaN e 1), V.bl (isaN e 2)])
    generalize upd H l1 (.lst [V.bl (isaN e 0), V.bl (isaN e 1), V.bl (isaN e 2)]) = H1 at s1 e1
    have hx1 := hx.s s1
    walk_at "w"
    refine w_isX T 3 hx1 rfl ?_
    walk_at "w"
    refine w_isX T 4 hx1 rfl ?_
    walk_at "w"
    refine w_isX T 5 hx1 rfl ?_
    walk_at "w"
    refine ⟨le_line (by simp), fun l2 hl2 => ?_⟩
    have s2 := Same.u (o := .lst [V.bl (isaN e 3), V.bl (isaN e 4), V.bl (isaN e 5)]) s1 hl2
    have e2 := upd_same (H := H1) (a := l2) (o := .lst [V.bl (isaN e 3), V.bl (isaN e 4), V.bl (isaN e 5)])
    have kf := sameU (o := .lst [V.bl (isaN e 3), V.bl (isaN e 4), V.bl (isaN e 5)]) hl2 _ _ e1
    generalize upd H1 l2 (.lst [V.bl (isaN e 3), V.bl (isaN e 4), V.bl (isaN e 5)]) = H2 at s2 e2 kf
    have e1 := kf
    clear kf
    have hx2 := hx.s s2
    walk_at "w"
    refine ⟨l1, l2, _, _, rfl, rfl, e1, e2, le_line (by simp), fun l3 hl3 => ?_⟩
    have s3 := Same.u (o := .lst ([V.bl (isaN e 0), V.bl (isaN e 1), V.bl (isaN e 2)] ++ [V.bl (isaN e 3), V.bl (isaN e 4), V.bl (isaN e 5)])) s2 hl3
    have e3 := upd_same (H := H2) (a := l3) (o := .lst ([V.bl (isaN e 0), V.bl (isaN e 1), V.bl (isaN e 2)] ++ [V.bl (isaN e 3), V.bl (isaN e 4), V.bl (isaN e 5)]))
    generalize upd H2 l3 (.lst ([V.bl (isaN e 0), V.bl (isaN e 1), V.bl (isaN e 2)] ++ [V.bl (isaN e 3), V.bl (isaN e 4), V.bl (isaN e 5)])) = H3 at s3 e3
    have hx3 := hx.s s3
    walk_at "w"
    refine w_isX T 6 hx3 rfl ?_
    walk_at "w"
    refine w_isX T 7 hx3 rfl ?_
    walk_at "w"
    refine w_isX T 8 hx3 rfl ?_
    walk_at "w"
    refine ⟨le_line (by simp), fun l4 hl4 => ?_⟩
    have s4 := Same.u (o := .lst [V.bl (isaN e 6), V.bl (isaN e 7), V.bl (isaN e 8)]) s3 hl4
    have e4 := upd_same (H := H3) (a := l4) (o := .lst [V.bl (isaN e 6), V.bl (isaN e 7), V.bl (isaN e 8)])
    have kf := sameU (o := .lst [V.bl (isaN e 6), V.bl (isaN e 7), V.bl (isaN e 8)]) hl4 _ _ e3
    generalize upd H3 l4 (.lst [V.bl (isaN e 6), V.bl (isaN e 7), V.bl (isaN e 8)]) = H4 at s4 e4 kf
    have e3 := kf
    clear kf
    have hx4 := hx.s s4
    walk_at "w"
    refine ⟨l3, l4, _, _, rfl, rfl, e3, e4, le_line (by simp), fun l5 hl5 => ?_⟩
    have s5 := Same.u (o := .lst (([V.bl (isaN e 0), V.bl (isaN e 1), V.bl (isaN e 2)] ++ [V.bl (isaN e 3), V.bl (isaN e 4), V.bl (isaN e 5)]) ++ [V.bl (isaN e 6), V.bl (isaN e 7), V.bl (isaN e 8)])) s4 hl5
    have e5 := upd_same (H := H4) (a := l5) (o := .lst (([V.bl (isaN e 0), V.bl (isaN e 1), V.bl (isaN e 2)] ++ [V.bl (isaN e 3), V.bl (isaN e 4), V.bl (isaN e 5)]) ++ [V.bl (isaN e 6), V.bl (isaN e 7), V.bl (isaN e 8)]))
    generalize upd H4 l5 (.lst (([V.bl (isaN e 0), V.bl (isaN e 1), V.bl (isaN e 2)] ++ [V.bl (isaN e 3), V.bl (isaN e 4), V.bl (isaN e 5)]) ++ [V.bl (isaN e 6), V.bl (isaN e 7), V.bl (isaN e 8)])) = H5 at s5 e5
    have hx5 := hx.s s5
    walk_at "w"
    refine w_isX T 9 hx5 rfl ?_
    walk_at "w"
    refine w_isX T 10 hx5 rfl ?_
    walk_at "w"
    refine w_isX T 11 hx5 rfl ?_
    walk_at "w"
    refine ⟨le_line (by simp), fun l6 hl6 => ?_⟩
    have s6 := Same.u (o := .lst [V.bl (isaN e 9), V.bl (isaN e 10), V.bl (isaN e 11)]) s5 hl6
    have e6 := upd_same (H := H5) (a := l6) (o := .lst [V.bl (isaN e 9), V.bl (isaN e 10), V.bl (isaN e 11)])
    have kf := sameU (o := .lst [V.bl (isaN e 9), V.bl (isaN e 10), V.bl (isaN e 11)]) hl6 _ _ e5
    generalize upd H5 l6 (.lst [V.bl (isaN e 9), V.bl (isaN e 10), V.bl (isaN e 11)]) = H6 at s6 e6 kf
    have e5 := kf
    clear kf
    have hx6 := hx.s s6
    walk_at "w"
    refine ⟨l5, l6, _, _, rfl, rfl, e5, e6, le_line (by simp), fun l7 hl7 => ?_⟩
    have s7 := Same.u (o := .lst ((([V.bl (isaN e 0), V.bl (isaN e 1), V.bl (isaN e 2)] ++ [V.bl (isaN e 3), V.bl (isaN e 4), V.bl (isaN e 5)]) ++ [V.bl (isaN e 6), V.bl (isaN e 7), V.bl (isaN e 8)]) ++ [V.bl (isaN e 9), V.bl (isaN e 10), V.bl (isaN e 11)])) s6 hl7
    have e7 := upd_same (H := H6) (a := l7) (o := .lst ((([V.bl (isaN e 0), V.bl (isaN e 1), V.bl (isaN e 2)] ++ [V.bl (isaN e 3), V.bl (isaN e 4), V.bl (isaN e 5)]) ++ [V.bl (isaN e 6), V.bl (isaN e 7), V.bl (isaN e 8)]) ++ [V.bl (isaN e 9), V.bl (isaN e 10), V.bl (isaN e 11)]))
    generalize upd H6 l7 (.lst ((([V.bl (isaN e 0), V.bl (isaN e 1), V.bl (isaN e 2)] ++ [V.bl (isaN e 3), V.bl (isaN e 4), V.bl (isaN e 5)]) ++ [V.bl (isaN e 6), V.bl (isaN e 7), V.bl (isaN e 8)]) ++ [V.bl (isaN e 9), V.bl (isaN e 10), V.bl (isaN e 11)])) = H7 at s7 e7
    have hx7 := hx.s s7
    walk_at "w"
    refine w_isX T 12 hx7 rfl ?_
    walk_at "w"
    refine w_isX T 13 hx7 rfl ?_
    walk_at "w"
    refine w_isX T 14 hx7 rfl ?_
    walk_at "w"
    refine ⟨le_line (by simp), fun l8 hl8 => ?_⟩
    have s8 := Same.u (o := .lst [V.bl (isaN e 12), V.bl (isaN e 13), V.bl (isaN e 14)]) s7 hl8
    have e8 := upd_same (H := H7) (a := l8) (o := .lst [V.bl (isaN e 12), V.bl (isaN e 13), V.bl (isaN e 14)])
    have kf := sameU (o := .lst [V.bl (isaN e 12), V.bl (isaN e 13), V.bl (isaN e 14)]) hl8 _ _ e7
    generalize upd H7 l8 (.lst [V.bl (isaN e 12), V.bl (isaN e 13), V.bl (isaN e 14)]) = H8 at s8 e8 kf
    have e7 := kf
    clear kf
    have hx8 := hx.s s8
    walk_at "w"
    refine ⟨l7, l8, _, _, rfl, rfl, e7, e8, le_line (by simp), fun l9 hl9 => ?_⟩
    have s9 := Same.u (o := .lst (((([V.bl (isaN e 0), V.bl (isaN e 1), V.bl (isaN e 2)] ++ [V.bl (isaN e 3), V.bl (isaN e 4), V.bl (isaN e 5)]) ++ [V.bl (isaN e 6), V.bl (isaN e 7), V.bl (isaN e 8)]) ++ [V.bl (isaN e 9), V.bl (isaN e 10), V.bl (isaN e 11)]) ++ [V.bl (isaN e 12), V.bl (isaN e 13), V.bl (isaN e 14)])) s8 hl9
    have e9 := upd_same (H := H8) (a := l9) (o := .lst (((([V.bl (isaN e 0), V.bl (isaN e 1), V.bl (isaN e 2)] ++ [V.bl (isaN e 3), V.bl (isaN e 4), V.bl (isaN e 5)]) ++ [V.bl (isaN e 6), V.bl (isaN e 7), V.bl (isaN e 8)]) ++ [V.bl (isaN e 9), V.bl (isaN e 10), V.bl (isaN e 11)]) ++ [V.bl (isaN e 12), V.bl (isaN e 13), V.bl (isaN e 14)]))
    generalize upd H8 l9 (.lst (((([V.bl (isaN e 0), V.bl (isaN e 1), V.bl (isaN e 2)] ++ [V.bl (isaN e 3), V.bl (isaN e 4), V.bl (isaN e 5)]) ++ [V.bl (isaN e 6), V.bl (isaN e 7), V.bl (isaN e 8)]) ++ [V.bl (isaN e 9), V.bl (isaN e 10), V.bl (isaN e 11)]) ++ [V.bl (isaN e 12), V.bl (isaN e 13), V.bl (isaN e 14)])) = H9 at s9 e9
    have hx9 := hx.s s9
    walk_at "w"
    refine w_isX T 15 hx9 rfl ?_
    walk_at "w"
    refine w_isX T 16 hx9 rfl ?_
    walk_at "w"
    refine w_isX T 17 hx9 rfl ?_
    walk_at "w"
    refine ⟨le_line (by simp), fun l10 hl10 => ?_⟩
    have s10 := Same.u (o := .lst [V.bl (isaN e 15), V.bl (isaN e 16), V.bl (isaN e 17)]) s9 hl10
    have e10 := upd_same (H := H9) (a := l10) (o := .lst [V.bl (isaN e 15), V.bl (isaN e 16), V.bl (isaN e 17)])
    have kf := sameU (o := .lst [V.bl (isaN e 15), V.bl (isaN e 16), V.bl (isaN e 17)]) hl10 _ _ e9
    generalize upd H9 l10 (.lst [V.bl (isaN e 15), V.bl (isaN e 16), V.bl (isaN e 17)]) = H10 at s10 e10 kf
    have e9 := kf
    clear kf
    have hx10 := hx.s s10
    walk_at "w"
    refine ⟨l9, l10, _, _, rfl, rfl, e9, e10, le_line (by simp), fun l11 hl11 => ?_⟩
    have s11 := Same.u (o := .lst ((((([V.bl (isaN e 0), V.bl (isaN e 1), V.bl (isaN e 2)] ++ [V.bl (isaN e 3), V.bl (isaN e 4), V.bl (isaN e 5)]) ++ [V.bl (isaN e 6), V.bl (isaN e 7), V.bl (isaN e 8)]) ++ [V.bl (isaN e 9), V.bl (isaN e 10), V.bl (isaN e 11)]) ++ [V.bl (isaN e 12), V.bl (isaN e 13), V.bl (isaN e 14)]) ++ [V.bl (isaN e 15), V.bl (isaN e 16), V.bl (isaN e 17)])) s10 hl11
    have e11 := upd_same (H := H10) (a := l11) (o := .lst ((((([V.bl (isaN e 0), V.bl (isaN e 1), V.bl (isaN e 2)] ++ [V.bl (isaN e 3), V.bl (isaN e 4), V.bl (isaN e 5)]) ++ [V.bl (isaN e 6), V.bl (isaN e 7), V.bl (isaN e 8)]) ++ [V.bl (isaN e 9), V.bl (isaN e 10), V.bl (isaN e 11)]) ++ [V.bl (isaN e 12), V.bl (isaN e 13), V.bl (isaN e 14)]) ++ [V.bl (isaN e 15), V.bl (isaN e 16), V.bl (isaN e 17)]))
    generalize upd H10 l11 (.lst ((((([V.bl (isaN e 0), V.bl (isaN e 1), V.bl (isaN e 2)] ++ [V.bl (isaN e 3), V.bl (isaN e 4), V.bl (isaN e 5)]) ++ [V.bl (isaN e 6), V.bl (isaN e 7), V.bl (isaN e 8)]) ++ [V.bl (isaN e 9), V.bl (isaN e 10), V.bl (isaN e 11)]) ++ [V.bl (isaN e 12), V.bl (isaN e 13), V.bl (isaN e 14)]) ++ [V.bl (isaN e 15), V.bl (isaN e 16), V.bl (isaN e 17)])) = H11 at s11 e11
    have hx11 := hx.s s11
    walk_at "w"
    refine ⟨le_line (by simp), fun l12 hl12 => ?_⟩
    have s12 := Same.u (o := .lst [V.str "InvalidText", V.str "InvalidName", V.str "InvalidNumber", V.str "InvalidWish", V.str "InvalidIndex", V.str "InvalidLine"]) s11 hl12
    have e12 := upd_same (H := H11) (a := l12) (o := .lst [V.str "InvalidText", V.str "InvalidName", V.str "InvalidNumber", V.str "InvalidWish", V.str "InvalidIndex", V.str "InvalidLine"])
    have kf := sameU (o := .lst [V.str "InvalidText", V.str "InvalidName", V.str "InvalidNumber", V.str "InvalidWish", V.str "InvalidIndex", V.str "InvalidLine"]) hl12 _ _ e11
    generalize upd H11 l12 (.lst [V.str "InvalidText", V.str "InvalidName", V.str "InvalidNumber", V.str "InvalidWish", V.str "InvalidIndex", V.str "InvalidLine"]) = H12 at s12 e12 kf
    have e11 := kf
    clear kf
    have hx12 := hx.s s12
    walk_at "w"
    refine ⟨le_line (by simp), fun l13 hl13 => ?_⟩
    have s13 := Same.u (o := .lst [V.str "InvalidWord", V.str "NotARule", V.str "InvalidNumbers", V.str "InvalidRules", V.str "InvalidWords"]) s12 hl13
    have e13 := upd_same (H := H12) (a := l13) (o := .lst [V.str "InvalidWord", V.str "NotARule", V.str "InvalidNumbers", V.str "InvalidRules", V.str "InvalidWords"])
    have kf := sameU (o := .lst [V.str "InvalidWord", V.str "NotARule", V.str "InvalidNumbers", V.str "InvalidRules", V.str "InvalidWords"]) hl13 _ _ e11
    have kn := sameU (o := .lst [V.str "InvalidWord", V.str "NotARule", V.str "InvalidNumbers", V.str "InvalidRules", V.str "InvalidWords"]) hl13 _ _ e12
    generalize upd H12 l13 (.lst [V.str "InvalidWord", V.str "NotARule", V.str "InvalidNumbers", V.str "InvalidRules", V.str "InvalidWords"]) = H13 at s13 e13 kf kn
    have e11 := kf
    clear kf
    have e12 := kn
    clear kn
    have hx13 := hx.s s13
    walk_at "w"
    refine ⟨l12, l13, _, _, rfl, rfl, e12, e13, le_line (by simp), fun l14 hl14 => ?_⟩
    have s14 := Same.u (o := .lst ([V.str "InvalidText", V.str "InvalidName", V.str "InvalidNumber", V.str "InvalidWish", V.str "InvalidIndex", V.str "InvalidLine"] ++ [V.str "InvalidWord", V.str "NotARule", V.str "InvalidNumbers", V.str "InvalidRules", V.str "InvalidWords"])) s13 hl14
    have e14 := upd_same (H := H13) (a := l14) (o := .lst ([V.str "InvalidText", V.str "InvalidName", V.str "InvalidNumber", V.str "InvalidWish", V.str "InvalidIndex", V.str "InvalidLine"] ++ [V.str "InvalidWord", V.str "NotARule", V.str "InvalidNumbers", V.str "InvalidRules", V.str "InvalidWords"]))
    have kf := sameU (o := .lst ([V.str "InvalidText", V.str "InvalidName", V.str "InvalidNumber", V.str "InvalidWish", V.str "InvalidIndex", V.str "InvalidLine"] ++ [V.str "InvalidWord", V.str "NotARule", V.str "InvalidNumbers", V.str "InvalidRules", V.str "InvalidWords"])) hl14 _ _ e11
    generalize upd H13 l14 (.lst ([V.str "InvalidText", V.str "InvalidName", V.str "InvalidNumber", V.str "InvalidWish", V.str "InvalidIndex", V.str "InvalidLine"] ++ [V.str "InvalidWord", V.str "NotARule", V.str "InvalidNumbers", V.str "InvalidRules", V.str "InvalidWords"])) = H14 at s14 e14 kf
    have e11 := kf
    clear kf
    have hx14 := hx.s s14
    walk_at "w"
    refine ⟨le_line (by simp), fun l15 hl15 => ?_⟩
    have s15 := Same.u (o := .lst [V.str "InvalidDeeds", V.str "UnknownName", V.str "NoShuffle", V.str "TooGreat", V.str "Broken", V.str "InUse"]) s14 hl15
    have e15 := upd_same (H := H14) (a := l15) (o := .lst [V.str "InvalidDeeds", V.str "UnknownName", V.str "NoShuffle", V.str "TooGreat", V.str "Broken", V.str "InUse"])
    have kf := sameU (o := .lst [V.str "InvalidDeeds", V.str "UnknownName", V.str "NoShuffle", V.str "TooGreat", V.str "Broken", V.str "InUse"]) hl15 _ _ e11
    have kn := sameU (o := .lst [V.str "InvalidDeeds", V.str "UnknownName", V.str "NoShuffle", V.str "TooGreat", V.str "Broken", V.str "InUse"]) hl15 _ _ e14
    generalize upd H14 l15 (.lst [V.str "InvalidDeeds", V.str "UnknownName", V.str "NoShuffle", V.str "TooGreat", V.str "Broken", V.str "InUse"]) = H15 at s15 e15 kf kn
    have e11 := kf
    clear kf
    have e14 := kn
    clear kn
    have hx15 := hx.s s15
    walk_at "w"
    refine ⟨l14, l15, _, _, rfl, rfl, e14, e15, le_line (by simp), fun l16 hl16 => ?_⟩
    have s16 := Same.u (o := .lst (([V.str "InvalidText", V.str "InvalidName", V.str "InvalidNumber", V.str "InvalidWish", V.str "InvalidIndex", V.str "InvalidLine"] ++ [V.str "InvalidWord", V.str "NotARule", V.str "InvalidNumbers", V.str "InvalidRules", V.str "InvalidWords"]) ++ [V.str "InvalidDeeds", V.str "UnknownName", V.str "NoShuffle", V.str "TooGreat", V.str "Broken", V.str "InUse"])) s15 hl16
    have e16 := upd_same (H := H15) (a := l16) (o := .lst (([V.str "InvalidText", V.str "InvalidName", V.str "InvalidNumber", V.str "InvalidWish", V.str "InvalidIndex", V.str "InvalidLine"] ++ [V.str "InvalidWord", V.str "NotARule", V.str "InvalidNumbers", V.str "InvalidRules", V.str "InvalidWords"]) ++ [V.str "InvalidDeeds", V.str "UnknownName", V.str "NoShuffle", V.str "TooGreat", V.str "Broken", V.str "InUse"]))
    have kf := sameU (o := .lst (([V.str "InvalidText", V.str "InvalidName", V.str "InvalidNumber", V.str "InvalidWish", V.str "InvalidIndex", V.str "InvalidLine"] ++ [V.str "InvalidWord", V.str "NotARule", V.str "InvalidNumbers", V.str "InvalidRules", V.str "InvalidWords"]) ++ [V.str "InvalidDeeds", V.str "UnknownName", V.str "NoShuffle", V.str "TooGreat", V.str "Broken", V.str "InUse"])) hl16 _ _ e11
    generalize upd H15 l16 (.lst (([V.str "InvalidText", V.str "InvalidName", V.str "InvalidNumber", V.str "InvalidWish", V.str "InvalidIndex", V.str "InvalidLine"] ++ [V.str "InvalidWord", V.str "NotARule", V.str "InvalidNumbers", V.str "InvalidRules", V.str "InvalidWords"]) ++ [V.str "InvalidDeeds", V.str "UnknownName", V.str "NoShuffle", V.str "TooGreat", V.str "Broken", V.str "InUse"])) = H16 at s16 e16 kf
    have e11 := kf
    clear kf
    have hx16 := hx.s s16
    walk_at "w"
    refine w_isX T 18 hx16 rfl ?_
    walk_at "w"
    refine w_isX T 19 hx16 rfl ?_
    walk_at "w"
    refine w_isX T 20 hx16 rfl ?_
    walk_at "w"
    refine ⟨le_line (by simp), fun l17 hl17 => ?_⟩
    have s17 := Same.u (o := .lst [V.bl (isaN e 18), V.bl (isaN e 19), V.bl (isaN e 20)]) s16 hl17
    have e17 := upd_same (H := H16) (a := l17) (o := .lst [V.bl (isaN e 18), V.bl (isaN e 19), V.bl (isaN e 20)])
    have kf := sameU (o := .lst [V.bl (isaN e 18), V.bl (isaN e 19), V.bl (isaN e 20)]) hl17 _ _ e11
    have kn := sameU (o := .lst [V.bl (isaN e 18), V.bl (isaN e 19), V.bl (isaN e 20)]) hl17 _ _ e16
    generalize upd H16 l17 (.lst [V.bl (isaN e 18), V.bl (isaN e 19), V.bl (isaN e 20)]) = H17 at s17 e17 kf kn
    have e11 := kf
    clear kf
    have e16 := kn
    clear kn
    have hx17 := hx.s s17
    walk_at "w"
    refine w_isT T 0 hx17 rfl ?_
    walk_at "w"
    refine w_isT T 1 hx17 rfl ?_
    walk_at "w"
    refine w_isT T 2 hx17 rfl ?_
    walk_at "w"
    refine ⟨le_line (by simp), fun l18 hl18 => ?_⟩
    have s18 := Same.u (o := .lst [V.bl (0 + 18 == e.b), V.bl (1 + 18 == e.b), V.bl (2 + 18 == e.b)]) s17 hl18
    have e18 := upd_same (H := H17) (a := l18) (o := .lst [V.bl (0 + 18 == e.b), V.bl (1 + 18 == e.b), V.bl (2 + 18 == e.b)])
    have kf := sameU (o := .lst [V.bl (0 + 18 == e.b), V.bl (1 + 18 == e.b), V.bl (2 + 18 == e.b)]) hl18 _ _ e11
    have kn := sameU (o := .lst [V.bl (0 + 18 == e.b), V.bl (1 + 18 == e.b), V.bl (2 + 18 == e.b)]) hl18 _ _ e16
    have kb := sameU (o := .lst [V.bl (0 + 18 == e.b), V.bl (1 + 18 == e.b), V.bl (2 + 18 == e.b)]) hl18 _ _ e17
    generalize upd H17 l18 (.lst [V.bl (0 + 18 == e.b), V.bl (1 + 18 == e.b), V.bl (2 + 18 == e.b)]) = H18 at s18 e18 kf kn kb
    have e11 := kf
    clear kf
    have e16 := kn
    clear kn
    have e17 := kb
    clear kb
    have hx18 := hx.s s18
    walk_at "w"
    -- fits l11 e11 ; names l16 e16 ; bases l17 e17 ; plain l18 e18 ; heap H18 s18
    refine ⟨tyL (sqL e11), ?_⟩
    walk_at "w"
    refine ⟨l11, FBk e.k e.b, rfl, rfl, sqL e11, ?_⟩
    rw [err_cnt]
    walk_at "w"
    refine if_dnF rfl ?_
    walk_at "w"
    refine ⟨_, _, .lst (sqL (show H18 l17 = some (.lst ((BBk e.k e.b).map V.bl)) from e17)) (dpBls _), .lst (sqL (show H18 l18 = some (.lst ((PBk e.b).map V.bl)) from e18)) (dpBls _), shBls _ (by simp [BBk]), shBls _ (by simp [PBk]), ?_⟩
    rw [err_bp]
    walk_at "w"
    refine ⟨tyL (sqL e11), ?_⟩
    walk_at "w"
    refine ⟨l11, (FBk e.k e.b).map V.bl, .bl true, e.k, .bl true, rfl, rfl, sqL e11, rfl, flat_bls _, by rw [List.getElem?_map, err_at]; rfl, rfl, fun m z' hm hz => ?_, ?_⟩
    · rw [List.getElem?_map, err_no e m hm] at hz
      cases hz
      rfl
    walk_at "w"
    refine ⟨le_line (by simp), fun l19 hl19 => ?_⟩
    have s19 := Same.u (o := .lst [V.bl (decide (((e.k : Nat) : Int) < 12)), V.bl (decide (((e.k : Nat) : Int) = 12)), V.bl (decide (((e.k : Nat) : Int) > 12))]) s18 hl19
    have e19 := upd_same (H := H18) (a := l19) (o := .lst [V.bl (decide (((e.k : Nat) : Int) < 12)), V.bl (decide (((e.k : Nat) : Int) = 12)), V.bl (decide (((e.k : Nat) : Int) > 12))])
    have kb := sameU (o := .lst [V.bl (decide (((e.k : Nat) : Int) < 12)), V.bl (decide (((e.k : Nat) : Int) = 12)), V.bl (decide (((e.k : Nat) : Int) > 12))]) hl19 _ _ e17
    have kn := sameU (o := .lst [V.bl (decide (((e.k : Nat) : Int) < 12)), V.bl (decide (((e.k : Nat) : Int) = 12)), V.bl (decide (((e.k : Nat) : Int) > 12))]) hl19 _ _ e16
    generalize upd H18 l19 (.lst [V.bl (decide (((e.k : Nat) : Int) < 12)), V.bl (decide (((e.k : Nat) : Int) = 12)), V.bl (decide (((e.k : Nat) : Int) > 12))]) = H19 at s19 e19 kb kn
    refine ⟨_, _, .lst (sqL (show H19 l17 = some (.lst ((BBk e.k e.b).map V.bl)) from kb)) (dpBls _), .lst (sqL e19) (.cons (.bl _) (.cons (.bl _) (.cons (.bl _) .nil))), shBls _ (by simp [BBk]), rfl, ?_⟩
    rw [err_b3]
    walk_at "w"
    refine ⟨le_line (by simp), fun l20 hl20 => ?_⟩
    have s20 := Same.u (o := .lst [V.str "NothingToUndo"]) s19 hl20
    have e20 := upd_same (H := H19) (a := l20) (o := .lst [V.str "NothingToUndo"])
    have kn := sameU (o := .lst [V.str "NothingToUndo"]) hl20 _ _ kn
    generalize upd H19 l20 (.lst [V.str "NothingToUndo"]) = H20 at s20 e20 kn
    refine ⟨l16, l20, _, _, rfl, rfl, kn, e20, le_line (by simp), fun l21 hl21 => ?_⟩
    walk_at "w"
    refine w_ixL (sqL (show _ = some (.lst (NMs ++ [V.str "NothingToUndo"])) from upd_same)) (atI_nat (err_nm e)) ?_
    exact fin _ (s20.u hl21)
/-! ### _law_field -/
theorem w_xP {K : PySem.W.Frag} {p : Addr × Obj} {f : Str} {te : TE} {σ : L2.St} {H : Hp} {Q : VK} (h : te σ H fun x H1 => x = .ref p.1 ∧ ∃ (C dd : Addr) (fs : List (Str × V)) (v : V), ExcO p C (some dd) ∧ XfC K C ∧ PySem.W.findIn K (.ref C) f = some none ∧ H1 dd = some (.xd fs) ∧ fs.lookup f = some v ∧ Q v H1) : tXP K p f te σ H Q := h
theorem err_f1 (e : Err) : inV (.str e.nm) [.str "InvalidNumbers", .str "InvalidRules", .str "InvalidWords", .str "InvalidDeeds", .str "Broken", .str "InUse"] = (e.k == 15 || e.k == 16) := by cases e <;> kernel_rfl
theorem err_f2 (e : Err) : inV (.str e.nm) [.str "NoShuffle", .str "NothingToUndo", .str ""] = (e.k == 17) := by cases e <;> kernel_rfl
theorem sc_law_field : FnScope ns_law_field ps_law_field (defScope s_law_field) := ⟨rfl, rfl, rfl, by decide +kernel, rfl, by decide +kernel, by decide +kernel⟩
def sp_law_field (K : PySem.W.Frag) : Addr × Obj → Sp := fun p vs H Q _ => ∃ e, vs = [.ref p.1, .str e.nm] ∧ ErrX K p H e ∧ ∀ H', Same H H' → Q e.v H'
theorem ok_law_field (T : Txt w K mg) : HasP PP w K mg base d_law_field 4 ps_law_field (sp_law_field K) := by
  refine mkHasP T.f_law_field sc_law_field (fun _ _ _ _ _ _ us hl => match us, hl with | [_, _], _ => rfl) (fun p vs H Q E h => ?_) (fun p cdv A outer s H vs Q E hr h => ⟨_, (pss_cons (ps_if (pt_cmpR op_in_seq (pv 1) (pe_lst (pa_cons pe_str (pa_cons pe_str (pa_cons pe_str (pa_cons pe_str (pa_cons pe_str (pa_cons pe_str pa_nil))))))) rfl) (pss_one (ps_ret (pe_xP (show p ∈ [p] from List.mem_singleton.mpr rfl) (pv 0)))) pss_nil)
 (pss_one (ps_ret (pe_ifExp (pt_cmpR op_in_seq (pv 1) (pe_lst (pa_cons pe_str (pa_cons pe_str (pa_cons pe_str pa_nil)))) rfl) pe_non (pe_xP (show p ∈ [p] from List.mem_singleton.mpr rfl) (pv 0)))))), ?_⟩)
  · obtain ⟨e, rfl, _⟩ := h
    rfl
  · obtain ⟨e, rfl, hx, fin⟩ := h
    walk_at "w"
    refine ⟨le_line (by simp), fun l1 hl1 => ?_⟩
    have s1 := sameU (o := .lst [V.str "InvalidNumbers", .str "InvalidRules", .str "InvalidWords", .str "InvalidDeeds", .str "Broken", .str "InUse"]) hl1
    refine ⟨l1, _, rfl, .inl (sqL upd_same), rfl, rfl, ?_⟩
    generalize upd H l1 (.lst [V.str "InvalidNumbers", .str "InvalidRules", .str "InvalidWords", .str "InvalidDeeds", .str "Broken", .str "InUse"]) = H1 at s1
    rw [if_neg Bool.false_ne_true, err_f1]
    obtain ⟨od, xo, fl⟩ := hx.s s1
    cases e with
    | broken i =>
      obtain ⟨d, rfl, hd⟩ := fl
      rw [show ((Err.broken i).k == 15 || (Err.broken i).k == 16) = true from rfl]
      walk_at "w"
      refine w_xP ?_
      walk_at "w"
      exact ⟨rfl, _, d, _, _, xo, (T.kinE (.broken i)).xf, T.x_Broken.noN, hd, rfl, fin _ s1⟩
    | inUse i =>
      obtain ⟨d, rfl, hd⟩ := fl
      rw [show ((Err.inUse i).k == 15 || (Err.inUse i).k == 16) = true from rfl]
      walk_at "w"
      refine w_xP ?_
      walk_at "w"
      exact ⟨rfl, _, d, _, _, xo, (T.kinE (.inUse i)).xf, T.x_InUse.noN, hd, rfl, fin _ s1⟩
    | unknown nm =>
      obtain ⟨d, rfl, hd⟩ := fl
      rw [show ((Err.unknown nm).k == 15 || (Err.unknown nm).k == 16) = false from rfl]
      walk_at "w"
      refine ⟨le_line (by simp), fun l2 hl2 => ?_⟩
      refine ⟨l2, _, rfl, .inl (sqL upd_same), rfl, rfl, ?_⟩
      rw [if_neg Bool.false_ne_true, err_f2, show ((Err.unknown nm).k == 17) = false from rfl]
      walk_at "w"
      refine w_xP ?_
      walk_at "w"
      exact ⟨rfl, _, d, _, _, xo, (T.kinE (.unknown nm)).xf, T.x_UnknownName.noN, sameU hl2 _ _ hd, rfl, fin _ (s1.u hl2)⟩
    | badIndex i =>
      obtain ⟨d, rfl, hd⟩ := fl
      rw [show ((Err.badIndex i).k == 15 || (Err.badIndex i).k == 16) = false from rfl]
      walk_at "w"
      refine ⟨le_line (by simp), fun l2 hl2 => ?_⟩
      refine ⟨l2, _, rfl, .inl (sqL upd_same), rfl, rfl, ?_⟩
      rw [if_neg Bool.false_ne_true, err_f2, show ((Err.badIndex i).k == 17) = false from rfl]
      walk_at "w"
      refine w_xP ?_
      walk_at "w"
      exact ⟨rfl, _, d, _, _, xo, (T.kinE (.badIndex i)).xf, T.x_InvalidIndex.noN, sameU hl2 _ _ hd, rfl, fin _ (s1.u hl2)⟩
    | nothing =>
      rw [show ((Err.nothing).k == 15 || (Err.nothing).k == 16) = false from rfl]
      walk_at "w"
      refine ⟨le_line (by simp), fun l2 hl2 => ?_⟩
      refine ⟨l2, _, rfl, .inl (sqL upd_same), rfl, rfl, ?_⟩
      rw [if_neg Bool.false_ne_true, err_f2, show ((Err.nothing).k == 17) = true from rfl]
      walk_at "w"
      exact fin _ (s1.u hl2)
end


/-! ### try: body, except (x1, x2, x3) as n: suite; each exception of the body is one of them -/
theorem flyZ_keeps {base h h' : Heap} {l : List Env} {a : Addr} {Z : Obj → Prop} (x : PySem.HandSPX.FlyingZ base l a Z h) (k : ∀ b o, h.get? b = some o → h'.get? b = some o) : PySem.HandSPX.FlyingZ base l a Z h' := by
  obtain ⟨f1, f2, f3, oe, vs, T, oT, ts, he, hz, hd, h1, hn, hne, hT, hdT, h3⟩ := x
  exact ⟨fun b o e => k b o (f1 b o e), f2, f3.of_keeps fun b o e _ => ⟨o, k b o e, rfl⟩, oe, vs, T, oT, ts, k _ _ he, hz, hd, h1, hn, hne, k _ _ hT, hdT, h3⟩
def wT3 (K : PySem.W.Frag) (cs : List Value) (i : Nat) (ts : Addr → Value → Option Addr → TS) (D : Ends) : WX := fun cls d σ H => PySem.W.exmAny K cls cs = some true ∧
  ∀ a, H a = none → ts a cls d { nx := fun σ' H' => D.nx (σ'.set i none) H', rt := D.rt, bk := fun σ' H' => D.bk (σ'.set i none) H', ct := fun σ' H' => D.ct (σ'.set i none) H' } (σ.set i (some (.ref a))) H
section
variable {X : Cx}
theorem ev_names {x : Str} {c : Value} {np : Pos} {pins : List (Addr × Obj)} {s : Shared} {σ : L2.St} {H : Hp} {Q : Value → Shared → Prop} {E : Value → Shared → Prop} (hc : Names X x c) (I : Inv X pins σ H s) (q : Q c s) : wpAny (model X.prog X.w) X.A (eval (.Name x np) X.env) Q E s := by
  obtain ⟨hg, hdbg, hm | ⟨hm, hv, hnn⟩⟩ := hc
  · exact ld_glob I hg hm q hdbg
  · exact ld_blt I hg hm hv q hnn hdbg
theorem ps_try_t3 {x1 x2 x3 n : Str} {c1 c2 c3 : Value} {i : Nat} {body suite : List Stmt} {b₀ : Stmt} {p1 p2 p3 tpos pos pos' : Pos} {kk : Nat} {tb : WX → TS} {ts : Addr → Value → Option Addr → TS}
    (hs : X.stack = X.env :: X.outer) (hf : X.env.frame = some X.env.locals) (hN : X.N.Nodup) (hi : X.N[i]? = some n) (hln : X.env.kindOf n = some .local) (n1 : Names X x1 c1) (n2 : Names X x2 c2) (n3 : Names X x3 c3)
    (hb : ∀ (W : WX) (pn : List (Addr × Obj)) (xe : Value → Shared → Prop), Takes (X.tr pn xe) W → PSs (X.tr pn xe) body (tb W))
    (hsu : ∀ (p : Addr × Obj) (cls : Value) (d : Option Addr) (pn : List (Addr × Obj)), Zc cls d p.2 → (∃ vs, p.2.data = .fields vs) → PSs (X.suite p.1 (p :: pn)) (b₀ :: suite) (ts p.1 cls d)) :
    PS X (.Try body [.ExceptHandler (some (.Tuple [.Name x1 p1, .Name x2 p2, .Name x3 p3] kk tpos)) (some n) (b₀ :: suite) pos'] [] [] pos) (fun D σ H => tb (wT3 X.K [c1, c2, c3] i ts D) D σ H) := by
  refine ⟨fun pins s σ H D I h => ?_⟩
  have ok := I.ok
  have hfr : X.A.frames = some (X.env :: X.outer) := by rw [ok.frames, hs]
  refine wpAny_Try_except ?_
  refine wpAny_mono ((hb (wT3 X.K [c1, c2, c3] i ts D) (X.pn ++ pins) (fun e s₁ => wpAny (model X.prog X.w) X.A (noteFrame e X.env) (fun _ s₂ => wpAny (model X.prog X.w) X.A (setFlight e none) (fun _ s₃ =>
    wpAny (model X.prog X.w) X.A (handleBy e X.env [.ExceptHandler (some (.Tuple [.Name x1 p1, .Name x2 p2, .Name x3 p3] kk tpos)) (some n) (b₀ :: suite) pos']) (SP X pins D) X.xe s₃) X.xe s₂) X.xe s₁) (fun u s' xx => ?_)).run [] s σ H D (I.toTry _) h) (fun f s1 hsp => ?_) (fun e s1 he => he)
  · obtain ⟨a, B, sI, pins', σ', H', cls, d, rfl, J', nb, up, sky, na, os, ag, hb1, hyes⟩ := xx
    have J : Inv X pins σ' H' sI := J'.ofTry ok
    have sky' : Sky B (X.env :: X.outer) a (Zc cls d) X.env.locals s'.heap := by rw [← hs]; exact sky
    show wpAny (model X.prog X.w) X.A (noteFrame (.ref a) X.env) _ _ _
    refine Sky.land Zc.steady hfr hf sky' fun h3 fl3 up3 => ?_
    have J3 : Inv X pins σ' H' { s' with heap := h3 } := J.landed nb fl3.1 (up.trans up3) os ag
    obtain ⟨oe3, vs3, he3, hz3, hd3⟩ := fl3.there
    have nfr : a ∉ frs (X.env :: X.outer) := fun hm => by
      obtain ⟨_, o', e', hnf⟩ := fl3.2.2.1.mem hm
      rw [he3] at e'; cases e'
      exact hnf _ hd3
    have nL : a ≠ X.env.locals := fun z => nfr (List.mem_filterMap.mpr ⟨X.env, List.mem_cons_self, by rw [hf, z]⟩)
    have nF : a ∉ X.fs := fun hm => by
      obtain ⟨e, he, q⟩ := List.mem_filterMap.mp hm
      exact nfr (List.mem_filterMap.mpr ⟨e, List.mem_cons_of_mem _ he, q⟩)
    have S3 := J3.suite he3 hd3 na nL nF
    refine wpAny_handleBy_cons (codeAny_handlers_test ?_) (by intro q; cases q)
    refine wpAny_Tuple ?_
    refine wpAny_items_cons (ev_names (X := X.suite a ((a, oe3) :: (X.pn ++ pins))) n1 S3 ?_)
    refine wpAny_items_cons (ev_names (X := X.suite a ((a, oe3) :: (X.pn ++ pins))) n2 S3 ?_)
    refine wpAny_items_cons (ev_names (X := X.suite a ((a, oe3) :: (X.pn ++ pins))) n3 S3 ?_)
    refine wpAny_items_nil ⟨by size_fits, ?_⟩
    have kp : ∀ b o, h3.get? b = some o → (h3.push { cls := .type "tuple", data := .seq [c1, c2, c3].toArray }).get? b = some o := fun _ _ z => Heap.get?_push_of_some _ z
    have LT : PySem.W.Looks (model X.prog X.w) (h3.push { cls := .type "tuple", data := .seq [c1, c2, c3].toArray }) (typeOf (.ref a)) cls := fun A Q E s k q => wpAny_typeOf_ref (k _ _ (kp _ _ he3)) (by rw [hz3.1]; exact q)
    refine (PySem.W.exm_tup3 (M := model X.prog X.w) (PySem.W.Frag.In.keeps J3.kIn kp) LT (Heap.get?_push_size h3 rfl) hb1).here ?_
    have fl5 := flyZ_keeps fl3 kp
    have up5 : sI.heap.UpToSlots (h3.push { cls := .type "tuple", data := .seq [c1, c2, c3].toArray }) := (up.trans up3).trans (Heap.UpToSlots.of_keeps kp)
    refine codeAny_handlers_suite_as ?_
    refine PySem.HandSPX.lands_againZ fl5 fun h4 fl4 up4 => ?_
    have J4 : Inv X pins σ' H' { s' with heap := h4 } := J.landed nb fl4.1 (up5.trans up4) os ag
    obtain ⟨oe4, vs4, he4, hz4, hd4⟩ := fl4.there
    have S4 := J4.suite he4 hd4 na nL nF
    refine store_ok (X := X.suite a ((a, oe4) :: (X.pn ++ pins))) (v := .ref a) S4 hN hi (.inl hln) rfl (fun s5 S5 => ?_) (.inr hln)
    refine wpAny_mono ((hsu (a, oe4) cls d (X.pn ++ pins) hz4 ⟨_, hd4⟩).run [] s5 _ H' _ S5 (hyes a na)) (fun f s6 hsp => ?_) (fun _ _ z => False.elim z)
    have end_ : ∀ {σ6 : L2.St} {H6 : Hp} {Q : Shared → Prop}, Inv (X.suite a ((a, oe4) :: (X.pn ++ pins))) [] σ6 H6 s6 → (∀ s7, Inv X pins (σ6.set i none) H6 s7 → Q s7) →
        wpAny (model X.prog X.w) X.A (do bindName X.env n .none; unbindBehindTheSuite X.env n pos') (fun _ s7 => Q s7) X.xe s6 := fun {σ6 H6 Q} S6 hq => gone_ok (S6.unsuite ok) hN hi hln hq
    cases f with
    | next =>
      obtain ⟨σ6, H6, S6, q6⟩ := hsp
      exact end_ S6 fun s7 J7 => ⟨_, _, J7, q6⟩
    | brk =>
      obtain ⟨σ6, H6, S6, q6⟩ := hsp
      exact end_ S6 fun s7 J7 => ⟨_, _, J7, q6⟩
    | cont =>
      obtain ⟨σ6, H6, S6, q6⟩ := hsp
      exact end_ S6 fun s7 J7 => ⟨_, _, J7, q6⟩
    | ret u =>
      obtain ⟨v6, σ6, H6, S6, r6, q6⟩ := hsp
      exact end_ S6 fun s7 J7 => ⟨_, _, _, J7, r6, q6⟩
  · cases f with
    | next =>
      obtain ⟨σ', H', J', q⟩ := hsp
      exact wpAny_execs_nil ⟨σ', H', J'.ofTry ok, q⟩
    | brk =>
      obtain ⟨σ', H', J', q⟩ := hsp
      exact ⟨σ', H', J'.ofTry ok, q⟩
    | cont =>
      obtain ⟨σ', H', J', q⟩ := hsp
      exact ⟨σ', H', J'.ofTry ok, q⟩
    | ret u =>
      obtain ⟨v, σ', H', J', r, q⟩ := hsp
      exact ⟨v, σ', H', J'.ofTry ok, r, q⟩
end
/-! ### _law_told -/
def Err.fit : Err → Prop
  | .broken i => i ≤ 1000
  | .inUse i => i ≤ 1000
  | .unknown nm => nm ∈ NAMES
  | .badIndex i => -1000 ≤ i ∧ i ≤ 1000
  | .nothing => True
theorem w_reprE {e : Err} {H : Hp} {Q : VK} (f : e.fit) (q : Q (.str e.tx) H) : rRepr [e.v] H Q := by
  cases e with
  | broken i =>
    have f : i ≤ 1000 := f
    exact .inl ⟨(i : Nat), rfl, log_small (by omega), q⟩
  | inUse i =>
    have f : i ≤ 1000 := f
    exact .inl ⟨(i : Nat), rfl, log_small (by omega), q⟩
  | unknown nm => exact .inr (.inl ⟨nm, rfl, le_line (repr_nm f), q⟩)
  | badIndex i => exact .inl ⟨i, rfl, log_small f, q⟩
  | nothing => exact .inr (.inr ⟨rfl, q⟩)
/-- what comes of a call: its value, or the word and the field of its error -/
def TTo (K : PySem.W.Frag) : (XK → Hp → VK → Prop) → Hp → VK → Prop := fun tl H Q =>
  tl (fun cls d H' => ∃ e : Err, cls = .ref (He.ga K e.nm) ∧ FldX H' d e ∧ e.fit ∧ ∀ H2 l, Same H' H2 → H2 l = some (.lst [.str "error", .str e.nm, .str e.tx]) → Q (.ref l) H2) H
    (fun v H' => ∀ l, H' l = none → Q (.ref l) (upd H' l (.lst [.str "told", v])))
theorem sc_law_told : FnScope ns_law_told ps_law_told (defScope s_law_told) := ⟨rfl, rfl, rfl, by decide +kernel, rfl, by decide +kernel, by decide +kernel⟩
/-- the suite of its except clause -/
def suiteTold : List Stmt := match defBody s_law_told with
  | .Try _ (.ExceptHandler _ _ su _ :: _) _ _ _ :: _ => su
  | _ => []
theorem four {σ : L2.St} {v : V} (h : σ.length = 4) : ∃ x0 x1 x3, σ.set 2 (some v) = [x0, x1, some v, x3] := by
  match σ, h with
  | [x0, x1, _, x3], _ => exact ⟨x0, x1, x3, rfl⟩
theorem pe_weak {X : Cx} {e : Expr} {A : L2.St → Hp → Prop} {tl : Hp → VK → Prop} (h : PE X e (fun σ H Q => A σ H ∧ tl H Q)) : PE X e (fun σ H Q => A σ H ∧ ∃ Q0 : VK, tl H Q0 ∧ ∀ v H', Q0 v H' → Q v H') := by
  refine ⟨fun pins s σ H Q I ⟨a, Q0, b, c⟩ => ?_⟩
  refine wpAny_mono (h.run pins s σ H Q0 I ⟨a, b⟩) (fun u s' hu => ?_) fun _ _ z => z
  obtain ⟨v, H', I', r, q⟩ := hu
  exact ⟨v, H', I', r, c _ _ q⟩
theorem told_law {X : Cx} {q : Str} {cdg : Value} (T : Txt X.w X.K X.mg) (FE : HasP X.prog X.w X.K X.mg X.base d_law_error 4 ps_law_error (sp_law_error X.K)) (FF : HasP X.prog X.w X.K X.mg X.base d_law_field 4 ps_law_field (sp_law_field X.K)) (hr : Room 6 X.A) :
    LamX.GivesTo X ns_law_told "_law_told" (defScope s_law_told) (He.fAd X.K ("_law_told", none)) cdg (defBody s_law_told) "_law_act" q (TTo X.K) := by
  intro f c' s H Q tl act hc h
  have hrD := hr.deeper (envOfC "_law_told" (defScope s_law_told) s.heap.objs.size (He.fAd X.K ("_law_told", none)) cdg)
  have hrH : ∀ v, L2H.RoomH 4 ((X.A.deeper (envOfC "_law_told" (defScope s_law_told) s.heap.objs.size (He.fAd X.K ("_law_told", none)) cdg)).mark v) := fun v => ⟨(hrD.mono (show 4 ≤ 5 by decide)).dp, (hrD.mono (show 4 ≤ 5 by decide)).un⟩
  obtain ⟨t, ht, hw⟩ : ∃ t : Addr × Obj → TS, (∀ (p : Addr × Obj) (pn : List (Addr × Obj)), PSs ((cxOf C8.CX0 X.prog X.w X.K X.mg X.base ns_law_told "_law_told" (defScope s_law_told) (He.fAd X.K ("_law_told", none)) cdg X.A X.stack s H C8.E0).nox.suite p.1 (p :: pn)) suiteTold (t p)) ∧
      ∀ (p : Addr × Obj) (e : Err) (D : Ends) (x0 x1 x3 : Option V) (H : Hp), ErrX X.K p H e → e.fit → (∀ H2 l, Same H H2 → H2 l = some (.lst [.str "error", .str e.nm, .str e.tx]) → D.rt (.ref l) H2) → t p D [x0, x1, some (.ref p.1), x3] H :=
    ⟨fun p => _, fun p pn => pss_cons (ps_set (i := 3) sc_law_told.nd rfl (Or.inl rfl) (cP_ (p := p) FE List.mem_cons_self (hrH _) T.g_law_error (pa_cons (pv 2) pa_nil)))
      (pss_one (ps_ret (pe_lst (pa_cons pe_str (pa_cons (pv 3) (pa_cons (pe_callB ca_repr rfl T.n_repr (by kernel_rfl) (pa_cons (cP_ (p := p) FF List.mem_cons_self (hrH _) T.g_law_field (pa_cons (pv 2) (pa_cons (pv 3) pa_nil))) pa_nil)) pa_nil)))))),
    fun p e D x0 x1 x3 H hx ft fin => by
      walk_at "w"
      refine ⟨e, rfl, hx, fun H1 s1 => ?_⟩
      walk_at "w"
      refine ⟨e, rfl, hx.s s1, fun H2 s2 => ?_⟩
      walk_at "w"
      refine w_reprE ft ?_
      walk_at "w"
      refine ⟨le_line (by simp), fun l hl => ?_⟩
      exact fin _ l ((s1.trans s2).u hl) upd_same⟩
  refine ⟨_, pss_cons (ps_try_t3 (X := (cxOf C8.CX0 X.prog X.w X.K X.mg X.base ns_law_told "_law_told" (defScope s_law_told) (He.fAd X.K ("_law_told", none)) cdg X.A X.stack s H C8.E0).nox) (i := 2)
      (tb := fun W D σ H => ∃ Ech : XK, (∀ cls d σ' H', Ech cls d H' → W cls d σ' H') ∧ (σ[0]? = some (some (.ref f)) ∧ H c' = some (LamX.CodeO c' q)) ∧ ∃ Q0 : VK, tl Ech H Q0 ∧ ∀ v H2, Q0 v H2 → D.nx (σ.set 1 (some v)) H2)
      (ts := fun a cls d D σ H => ∀ oe, Zc cls d oe → (∃ vs, oe.data = .fields vs) → σ.length = 4 → t (a, oe) D σ H)
      rfl rfl sc_law_told.nd rfl rfl ⟨rfl, by decide +kernel, .inl T.g_WrongValue⟩ ⟨rfl, by decide +kernel, .inl T.g_WrongName⟩ ⟨rfl, by decide +kernel, .inl T.g_NoAnswer⟩
      (fun W pn xe tk => ⟨fun pins s' σ H' D I h' => by
        obtain ⟨Ech, hW, h1, h2⟩ := h'
        exact (pss_one (ps_set (i := 1) sc_law_told.nd rfl (Or.inl rfl) (pe_weak (A := fun σZ HZ => σZ[0]? = some (some (.ref f)) ∧ HZ c' = some (LamX.CodeO c' q)) (tl := tl Ech) ⟨fun pins s σ H Q I h => (act W pn xe Ech _ _ tk hW).run pins s σ H Q I ⟨h.1.1, h.1.2, h.2⟩⟩))).run pins s' σ H' D I ⟨h1, h2⟩⟩)
      (fun p cls d pn hz hf => ⟨fun pins s' σ H' D I h' => (ht p pn).run pins s' σ H' D I (h' p.2 hz hf I.len)⟩))
    (pss_one (ps_ret (pe_lst (pa_cons pe_str (pa_cons (pv 1) pa_nil))))), ?_⟩
  refine w_seq ⟨_, ?_, ⟨rfl, hc⟩, _, h, fun v H2 q0 => ?_⟩
  rotate_left
  · walk_at "w"
    exact ⟨le_line (by simp), q0⟩
  rintro cls d σ' H' ⟨e, rfl, fl, ft, fin⟩
  refine ⟨(T.kinE e).exm, fun a ha oe hz hf hl => ?_⟩
  rw [List.length_set] at hl
  obtain ⟨x0, x1, x3, e4⟩ := four (v := .ref a) hl
  rw [e4]
  exact hw (a, oe) e _ x0 x1 x3 H' ⟨d, excO_of hz hf rfl, fl⟩ ft fin


/-! ### the states along the deeds -/
structure StOk (m : Nat) (st : BSt) : Prop where
  kept : KeptOk st.kept
  few : st.kept.length ≤ m
  wok : ∀ wi ∈ st.made, WishOk wi
  made : st.made.length ≤ m
theorem StOk.mono {m n : Nat} {st : BSt} (h : StOk m st) (l : m ≤ n) : StOk n st := ⟨h.kept, Nat.le_trans h.few l, h.wok, Nat.le_trans h.made l⟩
theorem without_sub {kept : List (Str × List Int)} {nm : Str} {p : Str × List Int} (h : p ∈ without kept nm) : p ∈ kept := (List.mem_filter.mp h).1
theorem without_len (kept : List (Str × List Int)) (nm : Str) : (without kept nm).length ≤ kept.length := List.length_filter_le ..
theorem without_nd {kept : List (Str × List Int)} (nm : Str) (h : (kept.map (·.1)).Nodup) : ((without kept nm).map (·.1)).Nodup := h.sublist (List.Sublist.map _ (List.filter_sublist ..))
theorem without_ok {kept : List (Str × List Int)} (nm : Str) (h : KeptOk kept) : KeptOk (without kept nm) :=
  ⟨without_nd nm h.nd, Nat.le_trans (without_len ..) h.len, fun p hp => h.nm p (without_sub hp), fun p hp => h.ns p (without_sub hp)⟩
theorem put_ok {kept : List (Str × List Int)} {nm : Str} {ns : List Int} (h : KeptOk kept) (hl : kept.length < 40) (hn : nm ∈ NAMES) (hs : NumsM 9 ns) : KeptOk (without kept nm ++ [(nm, ns)]) := by
  have h2 := without_ok nm h
  refine ⟨?_, ?_, fun p hp => ?_, fun p hp => ?_⟩
  · rw [List.map_append, List.nodup_append]
    refine ⟨h2.nd, by simp, fun a ha b hb => ?_⟩
    obtain ⟨p, hp, rfl⟩ := List.mem_map.mp ha
    have e := (List.mem_filter.mp hp).2
    have e2 : b = nm := by simpa using hb
    rw [e2]
    exact of_decide_eq_true e
  · rw [List.length_append, List.length_singleton]
    have := without_len kept nm
    omega
  · rcases List.mem_append.mp hp with hp | hp
    · exact h2.nm p hp
    · rw [List.mem_singleton.mp hp]; exact hn
  · rcases List.mem_append.mp hp with hp | hp
    · exact h2.ns p hp
    · rw [List.mem_singleton.mp hp]; exact hs
theorem act_ok {m : Nat} {s : BSt} {rest sts : List BSt} {de : Deed} (h : act s rest de = .ok sts) (dok : DeedOk de) (ok : ∀ st ∈ s :: rest, StOk m st) (hm : m ≤ 30) :
    ∃ s' rest', sts = s' :: rest' ∧ (∀ st ∈ sts, StOk (m + 1) st) ∧ rest'.length ≤ rest.length + 1 := by
  have o := ok s (List.mem_cons_self ..)
  have old : ∀ st ∈ s :: rest, StOk (m + 1) st := fun st hst => (ok st hst).mono (Nat.le_succ m)
  have mk : ∀ st, sts = st :: s :: rest → StOk (m + 1) st → ∃ s' rest', sts = s' :: rest' ∧ (∀ st ∈ sts, StOk (m + 1) st) ∧ rest'.length ≤ rest.length + 1 := fun st e hst => by
    refine ⟨st, s :: rest, e, fun x hx => ?_, Nat.le_refl _⟩
    rw [e] at hx
    rcases List.mem_cons.mp hx with rfl | hx
    · exact hst
    · exact old x hx
  cases de with
  | undo =>
    simp only [act] at h
    by_cases c : rest = []
    · rw [if_pos c] at h; cases h
    · rw [if_neg c] at h
      cases h
      cases rest with
      | nil => exact absurd rfl c
      | cons a r => exact ⟨a, r, rfl, fun st hst => old st (List.mem_cons_of_mem _ hst), by simp only [List.length_cons]; omega⟩
  | lift i =>
    simp only [act] at h
    by_cases c : 0 ≤ i ∧ i < s.made.length
    · rw [if_pos c] at h
      cases h
      refine mk _ rfl ⟨o.kept, Nat.le_trans o.few (Nat.le_succ m), fun wi hwi => ?_, ?_⟩
      · rcases List.mem_append.mp hwi with q | q
        · exact o.wok wi (List.mem_of_mem_take q)
        · exact o.wok wi (List.mem_of_mem_drop q)
      · have := o.made
        show (s.made.take i.toNat ++ s.made.drop (i.toNat + 1)).length ≤ m + 1
        rw [List.length_append, List.length_take, List.length_drop]
        omega
    · rw [if_neg c] at h; cases h
  | wish wi =>
    simp only [act] at h
    by_cases c : fits s wi = true
    · rw [if_pos c] at h
      cases h
      refine mk _ rfl ⟨o.kept, Nat.le_trans o.few (Nat.le_succ m), fun wj hwj => ?_, ?_⟩
      · rcases List.mem_append.mp hwj with q | q
        · exact o.wok wj q
        · rw [List.mem_singleton.mp q]; exact dok
      · have := o.made
        show (s.made ++ [wi]).length ≤ m + 1
        rw [List.length_append, List.length_singleton]
        omega
    · rw [if_neg c] at h; cases h
  | drop nm =>
    simp only [act] at h
    by_cases c : idx s.kept nm = none
    · rw [if_pos c] at h; cases h
    · rw [if_neg c] at h
      cases u : used s.made nm with
      | some i => rw [u] at h; cases h
      | none =>
        rw [u] at h
        cases h
        refine mk _ rfl ⟨without_ok nm o.kept, ?_, o.wok, Nat.le_trans o.made (Nat.le_succ m)⟩
        have := without_len s.kept nm
        have := o.few
        show (without s.kept nm).length ≤ m + 1
        omega
  | put nm ns =>
    simp only [act] at h
    cases u : bad s.made nm ns with
    | some i => rw [u] at h; cases h
    | none =>
      rw [u] at h
      cases h
      have := o.few
      refine mk _ rfl ⟨put_ok o.kept (by omega) dok.1 dok.2, ?_, o.wok, Nat.le_trans o.made (Nat.le_succ m)⟩
      have := without_len s.kept nm
      show (without s.kept nm ++ [(nm, ns)]).length ≤ m + 1
      rw [List.length_append, List.length_singleton]
      omega
theorem act_fit {s : BSt} {rest : List BSt} {de : Deed} {e : Err} (h : act s rest de = .error e) (dok : DeedOk de) (hm : s.made.length ≤ 40) : e.fit := by
  have ixl : ∀ {p : Wish → Bool} {i : Nat}, s.made.findIdx? p = some i → i ≤ 1000 := fun {p i} q => by
    have := (List.findIdx?_eq_some_iff_getElem.mp q).1
    omega
  cases de with
  | undo =>
    simp only [act] at h
    by_cases c : rest = []
    · rw [if_pos c] at h; cases h; trivial
    · rw [if_neg c] at h; cases h
  | lift i =>
    simp only [act] at h
    by_cases c : 0 ≤ i ∧ i < s.made.length
    · rw [if_pos c] at h; cases h
    · rw [if_neg c] at h
      cases h
      have : -1 ≤ i ∧ i ≤ 100 := dok
      show -1000 ≤ i ∧ i ≤ 1000
      omega
  | wish wi =>
    simp only [act] at h
    by_cases c : fits s wi = true
    · rw [if_pos c] at h; cases h
    · rw [if_neg c] at h
      cases h
      show s.made.length ≤ 1000
      omega
  | drop nm =>
    simp only [act] at h
    by_cases c : idx s.kept nm = none
    · rw [if_pos c] at h; cases h; exact dok
    · rw [if_neg c] at h
      cases u : used s.made nm with
      | some i => rw [u] at h; cases h; exact ixl u
      | none => rw [u] at h; cases h
  | put nm ns =>
    simp only [act] at h
    cases u : bad s.made nm ns with
    | some i => rw [u] at h; cases h; exact ixl u
    | none => rw [u] at h; cases h
/-! ### a list or a text == a text -/
def rEqLS (K : PySem.W.Frag) : R2 := fun x y H Q => (∃ a b : Str, x = .str a ∧ y = .str b ∧ Q (.bl (decide (a = b))) H) ∨ (∃ a xs z, x = .ref a ∧ SqL K H a xs ∧ y = .str z ∧ Q (.bl false) H)
theorem op_eqLS {X : Cx} {K : PySem.W.Frag} (eK : X.K = K) (hu : X.A.units < cLine) : OpR X (compareOp .Eq) (rEqLS K) := by
  subst eK
  intro pins s σ H x y v u Q I rx ry h
  rcases h with ⟨a, b, rfl, rfl, q⟩ | ⟨a, xs, z, rfl, hs, rfl, q⟩
  · exact op_eq pins s σ H _ _ v u Q I rx ry (w_eqS q)
  · obtain rfl : v = Value.ref a := rx
    obtain ⟨t, rfl⟩ := ry
    obtain ⟨its, r, pl, hz⟩ := I.list hs
    exact SeqAt.RcAt.list_str z t pl.isList hu X.prog X.w _ _ ⟨.bl false, H, I, rfl, q⟩
/-! ### all but the jar and the tables stays -/
def ExtJ (j : Addr) (H H' : Hp) : Prop := ∀ a o, a ≠ j → H a = some o → (∀ ps, o ≠ .tbl ps) → H' a = some o
theorem ExtJ.refl (j : Addr) (H : Hp) : ExtJ j H H := fun _ _ _ h _ => h
theorem ExtJ.s {j : Addr} {H H1 H2 : Hp} (a : ExtJ j H H1) (s : Same H1 H2) : ExtJ j H H2 := fun c o n h t => s _ _ (a c o n h t)
theorem ExtJ.n {j : Addr} {H H1 H2 : Hp} (a : ExtJ j H H1) (s : LamX.ExtN H1 H2) : ExtJ j H H2 := fun c o n h t => s _ _ (a c o n h t) t
theorem ExtJ.j {j : Addr} {H H1 H2 : Hp} (a : ExtJ j H H1) (s : SX j H1 H2) : ExtJ j H H2 := fun c o n h t => s _ _ n (a c o n h t)
theorem ExtJ.b {j b : Addr} {H H1 H2 : Hp} (a : ExtJ j H H1) (hb : H b = none) (s : SX b H1 H2) : ExtJ j H H2 := fun c o n h t => s _ _ (fun z => by rw [z, hb] at h; cases h) (a c o n h t)
theorem kpN' {H H' : Hp} (s : LamX.ExtN H H') : Kp H H' := fun a o h m => s a o h fun ps z => by subst z; exact m trivial
/-- the tables under a change at x that is none of theirs -/
theorem tabs_x {T : List (Addr × Str)} {x : Addr} {o : HO} {H H' : Hp} (t : LamX.Tabs T H) (h : H x = some o) (n1 : ∀ ps, o ≠ .tbl ps) (n2 : ∀ c q, o ≠ LamX.CodeO c q) (s : SX x H H') : LamX.Tabs T H' := fun p hp => by
  obtain ⟨ps, h1, h2, h3⟩ := t p hp
  refine ⟨ps, s _ _ (fun z => by rw [z, h] at h1; cases h1; exact n1 _ rfl) h1, h2, fun pos cv hc => ?_⟩
  obtain ⟨c, e1, e2⟩ := h3 pos cv hc
  exact ⟨c, e1, s _ _ (fun z => by rw [z, h] at e2; exact n2 _ _ (Option.some.inj e2)) e2⟩
theorem tabs_s {T : List (Addr × Str)} {H H' : Hp} (t : LamX.Tabs T H) (s : Same H H') : LamX.Tabs T H' := t.ext s
theorem lst_ne {xs : List V} {c : Addr} {q : Str} : HO.lst xs ≠ LamX.CodeO c q := fun z => by unfold LamX.CodeO at z; cases z
theorem ins_ne {C dx : Addr} {fs : List (Str × V)} {c : Addr} {q : Str} : HO.ins C dx fs ≠ LamX.CodeO c q := fun z => by unfold LamX.CodeO at z; cases z
theorem JarAt.n {H H' : Hp} {j : Addr} (h : JarAt H j) (s : LamX.ExtN H H') : JarAt H' j := by
  obtain ⟨a, b, c, h1, h2⟩ := h
  exact ⟨a, b, c, s _ _ h1 (fun _ z => by cases z), h2⟩
theorem JarAt.b {H H' : Hp} {j b : Addr} (h : JarAt H j) (n : j ≠ b) (s : SX b H H') : JarAt H' j := by
  obtain ⟨x, y, c, h1, h2⟩ := h
  exact ⟨x, y, c, s _ _ n h1, h2⟩
theorem JarAt.kpx {H H' : Hp} {j : Addr} (h : JarAt H j) (s : SX j H H') : Kp H H' := by
  obtain ⟨a, b, c, h1, _⟩ := h
  exact kpX s h1 ⟨a, b, c, rfl⟩
theorem JarAt.tabs {T : List (Addr × Str)} {H H' : Hp} {j : Addr} (h : JarAt H j) (t : LamX.Tabs T H) (s : SX j H H') : LamX.Tabs T H' := by
  obtain ⟨a, b, c, h1, _⟩ := h
  exact tabs_x t h1 (fun _ z => by cases z) (fun _ _ => lst_ne) s
theorem BookAt.n {K : PySem.W.Frag} {H H' : Hp} {b : Addr} {past : List BSt} (h : BookAt K H b past) (s : LamX.ExtN H H') : BookAt K H' b past := by
  obtain ⟨dx, v, h1, h2⟩ := h
  exact ⟨dx, v, s _ _ h1 (fun _ z => by cases z), h2.kp (kpN' s)⟩
theorem BookAt.j {K : PySem.W.Frag} {H H' : Hp} {b j : Addr} {past : List BSt} (h : BookAt K H b past) (hj : JarAt H j) (s : SX j H H') : BookAt K H' b past := by
  have k := hj.kpx s
  obtain ⟨dx, v, h1, h2⟩ := h
  obtain ⟨x, y, c, h3, _⟩ := hj
  exact ⟨dx, v, s _ _ (fun z => by rw [z, h3] at h1; cases h1) h1, h2.kp k⟩
theorem BookAt.tabs {K : PySem.W.Frag} {T : List (Addr × Str)} {H H' : Hp} {b : Addr} {past : List BSt} (h : BookAt K H b past) (t : LamX.Tabs T H) (s : SX b H H') : LamX.Tabs T H' := by
  obtain ⟨dx, v, h1, _⟩ := h
  exact tabs_x t h1 (fun _ z => by cases z) (fun _ _ => ins_ne) s
theorem past_first {K : PySem.W.Frag} {H : Hp} {a : Addr} {sts : List BSt} (h : PastAt K H a sts) (n : sts ≠ []) : ∃ vs v x d m, H a = some (.lst (v :: vs)) ∧ v = .ref x ∧ H x = some (.lst [.ref d, .ref m]) := by
  obtain ⟨vs, h1, h2⟩ := h
  cases e : sts.reverse with
  | nil => exact absurd (List.reverse_eq_nil_iff.mp e) n
  | cons s r =>
    rw [e] at h2
    cases h2 with
    | cons f t =>
      obtain ⟨x, d, m, ev, hx, _⟩ := f
      exact ⟨_, _, x, d, m, h1, ev, hx⟩
/-! ### a def with tables, its code object known -/
theorem mkHasGc {P : Program} {w : World} {K : PySem.W.Frag} {mg : Str → Option Value} {base : Heap} {d : He.DefD} {x q : Str} {pr : Arguments} {b : List Stmt} {sc : Scope} {N ps : List Str} {k : Nat} {sp : Sp}
    (F : ∃ fd, FunD K x q pr b sc [] [] (He.fAd K d.at_) fd) (S : FnScope N ps sc)
    (hb : ∀ (kV doc pm : Value) (an : Option Addr) (cdv ct : Value) (us : List Value), us.length = ps.length → bindArgs (PySem.W.fnOf x q pr b sc .none kV doc pm an cdv ct) ⟨us, []⟩ = pure (ps.zip us))
    (len : ∀ vs H Q E, sp vs H Q E → vs.length = ps.length)
    (hbody : ∀ (cdv : Value) (A : Around) (outer : List Env) (s : Shared) (H : Hp) (vs : List V) (Q : VK) (E : XK), cdv = .ref (He.codeOf K d.at_) → A.guards = some [] → Room k (A.deeper (envOfC q sc s.heap.objs.size (He.fAd K d.at_) cdv)) → sp vs H Q E →
      ∃ t, PSs (cxOf (L2.CX P w) P w K mg base N q sc (He.fAd K d.at_) cdv A outer s H E) b t ∧ t { nx := fun _ H' => Q .non H', rt := Q } (start N vs) H) : HasG P w K mg base d (k + 1) ps sp := by
  obtain ⟨fd, F⟩ := F
  have hbd := F.bindsN hb
  have hkp := F.kp
  obtain ⟨oc, od, dV, kV, doc, pm, an, cdv, ct, osl, rfl, lk, hcd, _, _⟩ := F.ex
  obtain ⟨c, ec⟩ := He.codeIn_ref hcd
  have hc : cdv = .ref (He.codeOf K d.at_) := by rw [He.codeOf_eq (c := c) lk ec, ec]
  exact ⟨⟨_, fnG_of lk hcd S len fun A outer s H vs Q E hg hr hsp => hbody cdv A outer s H vs Q E hc hg hr hsp, hbd⟩, hkp⟩


/-! ### _law_right -/
def lamQ : Str := (envOfC "_law_right" (defScope s_law_right) 0 0 .none).qual ++ "<lambda>"
def TL (P : Addr) : List (Addr × Str) := [(P, lamQ)]
theorem w_tlam {T : List (Addr × Str)} {TT : (XK → Hp → VK → Prop) → Hp → VK → Prop} {t : XK → TE} {σ : L2.St} {H : Hp} {Q : VK} (h1 : LamX.Tabs T H) (h : ∀ H1, LamX.ExtN H H1 → LamX.Tabs T H1 → TT (fun E H' Q' => t E σ H' Q') H1 Q) : LamX.tLam T TT t σ H Q := ⟨h1, h⟩
section
variable {w : World} {K : PySem.W.Frag} {mg : Str → Option Value} {base : Heap}
theorem w_mkBook {σ : L2.St} {H : Hp} {Q : VK} {E : XK} (q : ∀ b H', H b = none → Same H H' → BookAt K H' b [⟨[], []⟩] → Q (.ref b) H') : rMake (He.ga K "Book") (sp_Book_init K) [] E [] H Q := by
  intro x dx hx hdx hne
  have hx' : (upd H dx (.own x)) x = none := by rw [upd_ne (Ne.symm hne)]; exact hx
  have s1 : Same H (upd (upd H dx (.own x)) x (.ins (He.ga K "Book") dx [])) := (sameU hdx).u hx'
  refine ⟨x, dx, rfl, upd_same, fun H' k hb => ⟨rfl, ?_⟩⟩
  exact q x H' hx (fun b o e => k b o (ne_of_none e hx) (s1 b o e)) hb
def RInv (K : PySem.W.Frag) (Pt j b : Addr) (H0 : Hp) (m : Nat) (σ : L2.St) (H : Hp) : Prop := ∃ (p : Addr) (s : BSt) (rest : List BSt) (x3 x4 x5 x6 : Option V), σ = [some (.ref j), some (.ref b), some (.ref p), x3, x4, x5, x6] ∧ ExtJ j H0 H ∧ JarAt H j ∧ BookAt K H b (s :: rest) ∧ PastAt K H p (s :: rest) ∧ LamX.Tabs (TL Pt) H ∧
  (∀ st ∈ s :: rest, StOk m st) ∧ rest.length ≤ m
def UInv (K : PySem.W.Frag) (Pt j b : Addr) (H0 : Hp) (sts : List BSt) (i : Nat) (σ : L2.St) (H : Hp) : Prop := ∃ (p : Addr) (s : BSt) (rest : List BSt) (x3 x4 x5 x6 : Option V), sts.drop i = s :: rest ∧ σ = [some (.ref j), some (.ref b), some (.ref p), x3, x4, x5, x6] ∧ ExtJ j H0 H ∧ BookAt K H b (s :: rest) ∧ PastAt K H p (s :: rest) ∧ LamX.Tabs (TL Pt) H ∧
  ∀ st ∈ s :: rest, StOk 16 st
theorem dpE3 {H : Hp} {l : Addr} {a b c : Str} (h : H l = some (.lst [.str a, .str b, .str c])) : Dp K H (.ref l) (.list [.str a, .str b, .str c]) := .lst (sqL h) (.cons (.str _) (.cons (.str _) (.cons (.str _) .nil)))
theorem dpT2 {H : Hp} {l : Addr} {a : Str} (h : H l = some (.lst [.str a, .non])) : Dp K H (.ref l) (.list [.str a, .none]) := .lst (sqL h) (.cons (.str _) (.cons .non .nil))
theorem strOk_of (s : String) : PyData.strOk (Str.ofString s) = true := by
  rw [Str.ofString_eq_toList]
  unfold PyData.strOk
  rw [← Array.all_toList, List.all_eq_true]
  intro x hx
  simp only [List.mem_map] at hx
  obtain ⟨c, _, rfl⟩ := hx
  have hv := c.valid
  rw [decide_eq_true_iff]
  rcases hv with h | ⟨_, h⟩
  · exact Nat.lt_trans h (by decide)
  · exact h
theorem errOk (e : Err) (f : e.fit) : PyData.strOk e.nm = true ∧ PyData.strOk e.tx = true := by
  cases e with
  | broken i => exact ⟨strOk_of "Broken", strOk_of _⟩
  | inUse i => exact ⟨strOk_of "InUse", strOk_of _⟩
  | badIndex i => exact ⟨strOk_of "InvalidIndex", strOk_of _⟩
  | nothing => exact ⟨strOk_of "NothingToUndo", strOk_of "None"⟩
  | unknown nm =>
    refine ⟨strOk_of "UnknownName", ?_⟩
    have f : nm ∈ NAMES := f
    simp only [NAMES, List.mem_cons, List.not_mem_nil, or_false] at f
    rcases f with rfl | rfl | rfl <;> (show PyData.strOk (reprText _) = true; decide +kernel)
theorem can3 {a b c : Str} (ha : PyData.strOk a = true) (hb : PyData.strOk b = true) (hc : PyData.strOk c = true) : PyData.canLay0 (.list [.str a, .str b, .str c]) = true := by
  show (PyData.strOk a && (PyData.strOk b && (PyData.strOk c && true))) = true
  rw [ha, hb, hc]
  rfl
theorem sh3 {a b c : Str} (ha : PyData.strOk a = true) (hb : PyData.strOk b = true) (hc : PyData.strOk c = true) : SeqAt.shaped (.list [.str a, .str b, .str c]) = true := by
  show (PyData.canLay0 (.list [.str a, .str b, .str c]) && decide (1 ≤ 64)) = true
  rw [can3 ha hb hc]
  rfl
theorem can2 : PyData.canLay0 (.list [.str "told", .none]) = true := by decide +kernel
theorem sh2 : SeqAt.shaped (.list [.str "told", .none]) = true := by decide +kernel
theorem w_neE3 {H : Hp} {Q : VK} {l1 l2 : Addr} {e : Err} (f : e.fit) (h1 : H l1 = some (.lst [.str "error", .str e.nm, .str e.tx])) (h2 : H l2 = some (.lst [.str "error", .str e.nm, .str e.tx])) (q : Q (.bl false) H) : rNeD K (.ref l1) (.ref l2) H Q := by
  obtain ⟨o1, o2⟩ := errOk e f
  refine ⟨_, _, dpE3 h1, dpE3 h2, sh3 (strOk_of "error") o1 o2, sh3 (strOk_of "error") o1 o2, ?_⟩
  rw [PySem.SeqAt.eqv_refl _ (can3 (strOk_of "error") o1 o2)]
  exact q
theorem w_neT2 {H : Hp} {Q : VK} {l1 l2 : Addr} (h1 : H l1 = some (.lst [.str "told", .non])) (h2 : H l2 = some (.lst [.str "told", .non])) (q : Q (.bl false) H) : rNeD K (.ref l1) (.ref l2) H Q := by
  refine ⟨_, _, dpT2 h1, dpT2 h2, sh2, sh2, ?_⟩
  rw [PySem.SeqAt.eqv_refl _ can2]
  exact q
theorem w_eqE3 {H : Hp} {Q : VK} {l1 l2 : Addr} (h1 : H l1 = some (.lst [.str "error", .str "NothingToUndo", .str "None"])) (h2 : H l2 = some (.lst [.str "error", .str "NothingToUndo", .str "None"])) (q : Q (.bl true) H) : rEqD K (.ref l1) (.ref l2) H Q := by
  refine ⟨_, _, dpE3 h1, dpE3 h2, sh3 (strOk_of "error") (strOk_of _) (strOk_of _), sh3 (strOk_of "error") (strOk_of _) (strOk_of _), ?_⟩
  rw [PySem.SeqAt.eqv_refl _ (can3 (strOk_of "error") (strOk_of _) (strOk_of _))]
  exact q
theorem sc_law_right : FnScope ns_law_right ps_law_right (defScope s_law_right) := ⟨rfl, rfl, rfl, by decide +kernel, rfl, by decide +kernel, by decide +kernel⟩
def sp_law_right (K : PySem.W.Frag) (Pt : Addr) : Sp := fun vs H Q _ => ∃ j, vs = [.ref j] ∧ JarAt H j ∧ LamX.Tabs (TL Pt) H ∧ ∀ H', ExtJ j H H' → LamX.Tabs (TL Pt) H' → Q (.bl true) H'
theorem ok_law_right (T : Txt w K mg) {Pt : Addr} (TB : LamX.TabB base mg (He.codeOf K d_law_right.at_) Pt) : HasG PP w K mg base d_law_right 15 ps_law_right (sp_law_right K Pt) := by
  refine mkHasGc T.f_law_right sc_law_right (fun _ _ _ _ _ _ us hl => match us, hl with | [_], _ => rfl) (fun vs H Q E h => ?_) (fun cdv A outer s H vs Q E hcd hgd hr h => ?_)
  · obtain ⟨j, rfl, _⟩ := h
    rfl
  · obtain ⟨fdT, FT⟩ := T.f_law_told
    have hbT := FT.bindsN (ps := ps_law_told) (fun _ _ _ _ _ _ us hl => match us, hl with | [_], _ => rfl)
    have kT := FT.kp
    obtain ⟨oc, od, dV, kV, doc, pm, an, cdT, ct, osl, rfl, lkT, hcT, _, _⟩ := FT.ex
    subst hcd
    refine ⟨_, (pss_cons (ps_asg (pe_tup (pa_cons (cK0 (ok_Book_init T) T.mkB (hr.mono (by decide)) T.g_Book) (pa_cons (pe_lst (pa_cons (pe_lst (pa_cons pe_dnewK (pa_cons (pe_lst pa_nil) pa_nil))) pa_nil)) pa_nil))) (pg_tup rfl (pgs_cons (pg_name (i := 1) sc_law_right.nd rfl (Or.inr rfl)) (pgs_cons (pg_name (i := 2) sc_law_right.nd rfl (Or.inl rfl)) pgs_nil))))
 (pss_cons (ps_for (passes_of rfl) rfl (pi_range1 rfl T.n_range (pa_cons pe_int pa_nil)) (pg_name (i := 3) sc_law_right.nd rfl (Or.inl rfl))
 (pss_cons (ps_set (i := 4) sc_law_right.nd rfl (Or.inr rfl) (cF (ok_law_book_deed T) (hr.mono (by decide)) T.g_law_book_deed (pa_cons (pv 0) (pa_cons (pe_ix (r := rIxL K) ix_list (pe_ix (r := rIxL K) ix_list (pv 2) (pe_un un_neg pe_int) (fun _ _ => rfl)) pe_int (fun _ _ => rfl)) (pa_cons (pe_ix (r := rIxL K) ix_list (pe_ix (r := rIxL K) ix_list (pv 2) (pe_un un_neg pe_int) (fun _ _ => rfl)) pe_int (fun _ _ => rfl)) pa_nil)))))
 (pss_cons (ps_par (i := 5) (j := 6) rfl sc_law_right.nd rfl rfl (by decide) rfl rfl (pa_cons (cF (ok_law_book_due T) (hr.mono (by decide)) T.g_law_book_due (pa_cons (pv 2) (pa_cons (pv 4) pa_nil))) (pa_cons (LamX.pe_lamcall (T := TL Pt) (P := Pt) (c := He.codeOf K d_law_right.at_) (k := 12) rfl T.g_law_told kT lkT hcT hbT sc_law_told rfl (.inl rfl) (told_law T (ok_law_error T) (ok_law_field T) (hr.mono (by decide))) TB rfl (List.mem_singleton.mpr rfl) (by intro p hp _; cases List.mem_singleton.mp hp; rfl) hr (LamX.lamS_by (sc := defScope s_law_right) (by decide +kernel)) rfl (fun _ _ _ _ _ => rfl) (fun A outer s H E f c hr2 => cFE (passW (takes_of rfl rfl rfl rfl)) (ok_law_book_do T) (hr2.mono (by decide)) T.g_law_book_do (pa_cons (pv 1) (pa_cons (pv 4) pa_nil))) (by decide +kernel) (by decide +kernel) (by decide +kernel)) pa_nil)) rfl)
 (pss_cons (ps_if (pt_cmpR (op_eqLS (K := K) rfl hr.units0) (pe_ix (r := rIxL K) ix_list (pv 5) pe_int (fun _ _ => rfl)) pe_str (nomark _)) (pss_one (ps_if (pt_cmpR (op_neD hr.units) (pv 6) (pv 5) (nomark _)) (pss_one (ps_ret pe_bl)) pss_nil)) (pss_cons (ps_set (i := 2) sc_law_right.nd rfl (Or.inl rfl) (pv 5))
 (pss_one (ps_if (pt_cmpR (op_neD hr.units) (pv 6) (pe_lst (pa_cons pe_str (pa_cons pe_non pa_nil))) (nomark _)) (pss_one (ps_ret pe_bl)) pss_nil))))
 (pss_one (ps_if (pt_not (pt_val (cG (ok_law_book_shows T) hgd (hr.mono (by decide)) T.g_law_book_shows (pa_cons (pv 1) (pa_cons (pv 2) pa_nil))))) (pss_one (ps_ret pe_bl)) pss_nil))))))
 (pss_cons (ps_for (passes_of rfl) rfl (pi_range1 rfl T.n_range (pa_cons (pe_op op_sub (pe_callB ca_len rfl T.n_len PySem.boot_len (pa_cons (pv 2) pa_nil)) pe_int) pa_nil)) (pg_name (i := 3) sc_law_right.nd rfl (Or.inl rfl))
 (pss_cons (ps_set (i := 2) sc_law_right.nd rfl (Or.inl rfl) (pe_slice sl_list (pv 2) po_none (po_some (pe_un un_neg pe_int))))
 (pss_one (ps_if (PW.pt (pw_or (pt_cmpR op_notN (cM0E (passW (takes_of rfl rfl rfl rfl)) (ok_Book_undo T) T.clB T.mB_undo (hr.mono (by decide)) (pv 1)) pe_non (nomark _)) (pw_or1 (pt_not (pt_val (cG (ok_law_book_shows T) hgd (hr.mono (by decide)) T.g_law_book_shows (pa_cons (pv 1) (pa_cons (pv 2) pa_nil)))))))) (pss_one (ps_ret pe_bl)) pss_nil))))
 (pss_one (ps_ret (pe_cmpR (op_eqD hr.units) (LamX.pe_lamcall (T := TL Pt) (P := Pt) (c := He.codeOf K d_law_right.at_) (k := 12) rfl T.g_law_told kT lkT hcT hbT sc_law_told rfl (.inl rfl) (told_law T (ok_law_error T) (ok_law_field T) (hr.mono (by decide))) TB rfl (List.mem_singleton.mpr rfl) (by intro p hp _; cases List.mem_singleton.mp hp; rfl) hr (LamX.lamS_by (sc := defScope s_law_right) (by decide +kernel)) rfl (fun _ _ _ _ _ => rfl) (fun A outer s H E f c hr2 => cM0E (passW (takes_of rfl rfl rfl rfl)) (ok_Book_undo T) T.clB T.mB_undo (hr2.mono (by decide)) (pv 1)) (by decide +kernel) (by decide +kernel) (by decide +kernel)) (pe_lst (pa_cons pe_str (pa_cons pe_str (pa_cons pe_str pa_nil)))) (nomark _))))))), ?_⟩
    obtain ⟨j, rfl, hj, hT, fin⟩ := h
    walk_at "w"
    refine w_mkBook (σ := []) fun b H1 hb0 s1 hb1 => ?_
    have nbj : j ≠ b := fun z => hj.some (by rw [z]; exact hb0) rfl
    have hj1 := hj.at s1
    have hT1 := tabs_s hT s1
    walk_at "w"
    intro d hd
    have s2 := s1.u (o := .dK []) hd
    have t2 := sameU (o := .dK []) hd
    have d2 := upd_same (H := H1) (a := d) (o := .dK [])
    generalize upd H1 d (.dK []) = H2 at s2 t2 d2
    walk_at "w"
    refine ⟨le_line (by simp), fun m hm => ?_⟩
    have t3 := t2.u (o := .lst []) hm
    have d3 := sameU (o := .lst []) hm _ _ d2
    have m3 := upd_same (H := H2) (a := m) (o := .lst [])
    generalize upd H2 m (.lst []) = H3 at t3 d3 m3
    walk_at "w"
    refine ⟨le_line (by simp), fun a ha => ?_⟩
    have t4 := t3.u (o := .lst [.ref d, .ref m]) ha
    have d4 := sameU (o := .lst [.ref d, .ref m]) ha _ _ d3
    have m4 := sameU (o := .lst [.ref d, .ref m]) ha _ _ m3
    have a4 := upd_same (H := H3) (a := a) (o := .lst [.ref d, .ref m])
    generalize upd H3 a (.lst [.ref d, .ref m]) = H4 at t4 d4 m4 a4
    walk_at "w"
    refine ⟨le_line (by simp), fun p hp => ?_⟩
    have t5 := t4.u (o := .lst [.ref a]) hp
    have d5 := sameU (o := .lst [.ref a]) hp _ _ d4
    have m5 := sameU (o := .lst [.ref a]) hp _ _ m4
    have a5 := sameU (o := .lst [.ref a]) hp _ _ a4
    have p5 := upd_same (H := H4) (a := p) (o := .lst [.ref a])
    generalize upd H4 p (.lst [.ref a]) = H5 at t5 d5 m5 a5 p5
    have P5 : PastAt K H5 p [⟨[], []⟩] := PastAt.add (vs := []) (rest := []) p5 .nil ⟨a, d, m, rfl, a5, ⟨[], d5, .nil⟩, ⟨[], m5, .nil⟩⟩
    walk_at "w"
    refine ⟨le_line (by simp), fun tp htp => ?_⟩
    have t6 := t5.u (o := .tup [.ref b, .ref p]) htp
    have P6 := P5.kp (kpS (sameU (o := .tup [.ref b, .ref p]) htp))
    have tp6 := upd_same (H := H5) (a := tp) (o := .tup [.ref b, .ref p])
    generalize upd H5 tp (.tup [.ref b, .ref p]) = H6 at t6 P6 tp6
    refine w_tg2 rfl (sqT tp6) ?_
    walk_at "w"
    have s6 : Same H H6 := s1.trans t6
    refine ⟨16, rfl, by decide, by decide, for_rng (n := 16) rfl (RInv K Pt j b H) ?_ (fun i σ H' hi Pv => ?_) (fun σ H' Pv => ?_)⟩
    · exact ⟨p, ⟨[], []⟩, [], _, _, _, _, rfl, (ExtJ.refl j H).s s6, hj.at s6, hb1.at t6, P6, tabs_s hT s6, fun st hst => by
        rw [List.mem_singleton.mp hst]
        exact ⟨⟨.nil, Nat.zero_le _, fun _ h => (nomatch h), fun _ h => (nomatch h)⟩, Nat.zero_le _, fun _ h => (nomatch h), Nat.zero_le _⟩, Nat.zero_le _⟩
    · obtain ⟨p, s, rest, x3, x4, x5, x6, rfl, ext, jj, bb, pp, tt, oks, rl⟩ := Pv
      have so := oks s (List.mem_cons_self ..)
      have hml := so.made
      obtain ⟨ws, a, d, m, p1, p2, a1, d1, m1⟩ := pp.last
      obtain ⟨ms, m2, m3⟩ := id m1
      have hmj : m ≠ j := JarAt.ne jj m2 (not_mut (fun v b ⟨t, e, _⟩ => ⟨t, e⟩) m3)
      have hms : ms.length ≤ 100 := by rw [prd_len m3]; omega
      walk_at "w"
      refine w_ixL (sqL p1) (atI_last ..) ?_
      walk_at "w"
      refine w_ixL (sqL a1) (atI_nat (j := 0) rfl) ?_
      walk_at "w"
      refine w_ixL (sqL p1) (atI_last ..) ?_
      walk_at "w"
      refine w_ixL (sqL a1) (atI_nat (j := 1) rfl) ?_
      walk_at "w"
      refine ⟨j, d, m, s.kept, ms, rfl, jj, d1, so.kept, sqL m2, hmj, hms, fun q de H1 sj jj1 hq dok => ?_⟩
      have k1 := jj.kpx sj
      have ext1 := ext.j sj
      have bb1 := bb.j jj sj
      have pp1 := pp.kp k1
      have tt1 := jj.tabs tt sj
      walk_at "w"
      refine ⟨p, q, s, rest, de, rfl, pp1, hq, dok, so.kept, so.wok, by omega, by omega, fun due H2 s2 hdue => ?_⟩
      rw [due_act] at hdue
      have ext2 := ext1.s s2
      have bb2 := bb1.at s2
      have pp2 := pp1.kp (kpS s2)
      have jj2 := jj1.at s2
      have hq2 := hq.kp (kpS s2)
      walk_at "w"
      refine w_tlam (tabs_s tt1 s2) fun H3 x3' tt3 => ?_
      have ext3 := ext2.n x3'
      have bb3 := bb2.n x3'
      have pp3 := pp2.kp (kpN' x3')
      have jj3 := jj2.n x3'
      have hq3 := hq2.kp (kpN' x3')
      refine w_call ?_
      walk_at "w"
      refine ⟨b, q, s, rest, de, rfl, bb3, hq3, dok, so.kept, so.wok, by omega, fun e he od H4 s4 ea => ⟨e, rfl, FldX.of ea, act_fit he dok (by omega), fun H5 l s5 hl => ?_⟩, fun sts ho H4 sx bb4 l hl => ?_⟩
      · have ft := act_fit he dok (by omega)
        rw [he] at hdue
        have s45 := s4.trans s5
        have due5 : H5 due = some (.lst [.str "error", .str e.nm, .str e.tx]) := s45 _ _ (x3' _ _ hdue (fun _ z => by cases z))
        have ext5 := ext3.s s45
        have bb5 := bb3.at s45
        have pp5 := pp3.kp (kpS s45)
        have jj5 := jj3.at s45
        have tt5 := tabs_s tt3 s45
        walk_at "w"
        refine w_ixL (sqL due5) (atI_nat (j := 0) rfl) ?_
        walk_at "w"
        refine .inl ⟨_, _, rfl, rfl, ?_⟩
        walk_at "w"
        refine if_dT rfl ?_
        walk_at "w"
        refine w_neE3 ft hl due5 ?_
        walk_at "w"
        refine ⟨b, p, s, rest, rfl, bb5, pp5, so.kept, so.wok, by omega, by omega, fun H6 s6 => ?_⟩
        walk_at "w"
        exact ⟨p, s, rest, _, _, _, _, rfl, ext5.s s6, jj5.at s6, bb5.at s6, pp5.kp (kpS s6), tabs_s tt5 s6, fun st hst => (oks st hst).mono (Nat.le_succ i), Nat.le_succ_of_le rl⟩
      · rw [ho] at hdue
        obtain ⟨s', rest', rfl, oks', rl'⟩ := act_ok ho dok oks (by omega)
        have so' := oks' s' (List.mem_cons_self ..)
        have hml' := so'.made
        have nbj' : j ≠ b := nbj
        have due3 : PastAt K H3 due (s' :: rest') := PastAt.kp hdue (kpN' x3')
        have k4 := bb3.kpx sx
        have due4 := due3.kp k4
        have ext4 := ext3.b hb0 sx
        have jj4 := jj3.b nbj sx
        have tt4 := bb3.tabs tt3 sx
        have s5 := sameU (o := .lst [.str "told", .non]) hl
        have l5 := upd_same (H := H4) (a := l) (o := .lst [.str "told", .non])
        generalize upd H4 l (.lst [.str "told", .non]) = H5 at s5 l5
        have due5 := due4.kp (kpS s5)
        obtain ⟨vs, v, x, d', m', v1, rfl, v3⟩ := past_first due5 (List.cons_ne_nil _ _)
        walk_at "w"
        refine w_ixL (sqL v1) (atI_nat (j := 0) rfl) ?_
        walk_at "w"
        refine .inr ⟨x, _, _, rfl, sqL v3, rfl, ?_⟩
        walk_at "w"
        refine ⟨le_line (by simp), fun l6 hl6 => ?_⟩
        have s6 := s5.u (o := .lst [.str "told", .non]) hl6
        have l7 := sameU (o := .lst [.str "told", .non]) hl6 _ _ l5
        have l6' := upd_same (H := H5) (a := l6) (o := .lst [.str "told", .non])
        generalize upd H5 l6 (.lst [.str "told", .non]) = H6 at s6 l7 l6'
        refine w_neT2 l7 l6' ?_
        have bb6 := bb4.at s6
        have due6 := due4.kp (kpS s6)
        walk_at "w"
        refine ⟨b, due, s', rest', rfl, bb6, due6, so'.kept, so'.wok, by omega, by omega, fun H7 s7 => ?_⟩
        have s67 := s6.trans s7
        walk_at "w"
        exact ⟨due, s', rest', _, _, _, _, rfl, ext4.s s67, jj4.at s67, bb4.at s67, due4.kp (kpS s67), tabs_s tt4 s67, oks', by omega⟩
    · obtain ⟨p, s, rest, x3, x4, x5, x6, rfl, ext, jj, bb, pp, tt, oks, rl⟩ := Pv
      obtain ⟨vs, p1, p2⟩ := id pp
      have lv : vs.length = rest.length + 1 := by rw [prd_len p2, List.length_reverse, List.length_cons]
      walk_at "w"
      refine w_rlenL (sqL p1) ?_
      walk_at "w"
      refine ⟨_, rfl, by omega, by omega, for_rng (n := rest.length) (by omega) (UInv K Pt j b H (s :: rest)) ?_ (fun i σ H' hi Pv => ?_) (fun σ H' Pv => ?_)⟩
      · exact ⟨p, s, rest, _, _, _, _, rfl, rfl, ext, bb, pp, tt, oks⟩
      · obtain ⟨p, si, ri, x3, x4, x5, x6, ed, rfl, ext, bb, pp, tt, oks⟩ := Pv
        have len := congrArg List.length ed
        rw [List.length_drop, List.length_cons, List.length_cons] at len
        obtain ⟨s2, r2, rfl⟩ : ∃ s2 r2, ri = s2 :: r2 := by
          cases ri with
          | nil => rw [List.length_nil] at len; omega
          | cons s2 r2 => exact ⟨s2, r2, rfl⟩
        have ed2 : (s :: rest).drop (i + 1) = s2 :: r2 := by rw [← List.drop_drop, ed]; rfl
        have so2 := oks s2 (List.mem_cons_of_mem _ (List.mem_cons_self ..))
        have hml2 := so2.made
        have hr2 : r2.length ≤ 40 := by rw [List.length_cons] at len; omega
        obtain ⟨ws, a, d, m, q1, q2, a1, d1, m1⟩ := pp.last
        walk_at "w"
        refine w_slL (sqL q1) fun l hl => ?_
        rw [cut_init]
        have s1 := sameU (o := .lst ws) hl
        have l1 := upd_same (H := H') (a := l) (o := .lst ws)
        generalize upd H' l (.lst ws) = H1 at s1 l1
        have P1 : PastAt K H1 l (s2 :: r2) := ⟨ws, l1, sts_kp (kpS s1) q2⟩
        have bb1 := bb.at s1
        obtain ⟨dx, v, hb1, hb2⟩ := id bb1
        walk_at "w"
        refine ⟨b, dx, _, rfl, hb1, rfl, ?_⟩
        walk_at "w"
        refine ⟨b, si, s2 :: r2, rfl, bb1, fun e => absurd e (List.cons_ne_nil _ _), fun _ H2 sx bb2 => ?_⟩
        have k2 := bb1.kpx sx
        have tt2 := bb1.tabs (tabs_s tt s1) sx
        have ext2 := (ext.s s1).b hb0 sx
        have P2 := P1.kp k2
        walk_at "w"
        refine ⟨rfl, ?_⟩
        walk_at "w"
        refine if_dnF (p := V.non = V.non) rfl ?_
        walk_at "w"
        refine ⟨b, l, s2, r2, rfl, bb2, P2, so2.kept, so2.wok, by omega, hr2, fun H3 s3 => ?_⟩
        walk_at "w"
        exact ⟨l, s2, r2, _, _, _, _, ed2, rfl, ext2.s s3, bb2.at s3, P2.kp (kpS s3), tabs_s tt2 s3, fun st hst => oks st (List.mem_cons_of_mem _ hst)⟩
      · obtain ⟨p, si, ri, x3, x4, x5, x6, ed, rfl, ext, bb, pp, tt, oks⟩ := Pv
        have len := congrArg List.length ed
        rw [List.length_drop, List.length_cons, List.length_cons] at len
        have e0 : ri = [] := List.eq_nil_of_length_eq_zero (by omega)
        subst e0
        walk_at "w"
        refine w_tlam tt fun H3 x3' tt3 => ?_
        have bb3 := bb.n x3'
        have ext3 := ext.n x3'
        obtain ⟨dx, v, hb1, hb2⟩ := id bb3
        refine w_meth ?_
        walk_at "w"
        refine ⟨b, dx, _, rfl, hb1, rfl, ?_⟩
        walk_at "w"
        refine ⟨b, si, [], rfl, bb3, fun _ => ⟨.nothing, rfl, rfl, trivial, fun H5 l s5 hl => ?_⟩, fun e => absurd rfl e⟩
        walk_at "w"
        refine ⟨le_line (by simp), fun l2 hl2 => ?_⟩
        have t5 := sameU (o := .lst [.str "error", .str "NothingToUndo", .str "None"]) hl2
        refine w_eqE3 (t5 _ _ hl) upd_same ?_
        exact fin _ ((ext3.s s5).s t5) (tabs_s (tabs_s tt3 s5) t5)
end


/-! ### law -/
section
variable {w : World} {K : PySem.W.Frag} {mg : Str → Option Value} {base : Heap}
theorem extN_sq {H H' : Hp} {a : Addr} {xs : List V} (e : LamX.ExtN H H') (h : SqL K H a xs) : SqL K H' a xs := by
  rcases h with (h | ⟨o, h⟩) | h
  · exact .inl (.inl (e _ _ h (fun _ z => by cases z)))
  · exact .inl (.inr ⟨o, e _ _ h (fun _ z => by cases z)⟩)
  · exact .inr h
theorem sc_law : FnScope ns_law ps_law (defScope s_law) := ⟨rfl, rfl, rfl, by decide +kernel, rfl, by decide +kernel, by decide +kernel⟩
def sp_law (K : PySem.W.Frag) (Pt : Addr) : Sp := fun vs H Q _ => ∃ (a : Addr) (ns : List Int), vs = [.ref a] ∧ SqL K H a (ns.map V.int) ∧ ns.length ≤ 1000 ∧ LamX.Tabs (TL Pt) H ∧ ∀ H', Q (.bl true) H'
theorem fnG_fun {P : Program} {CX : CXT} {f : Addr} {fd : FuncData} {x q : Str} {pr : Arguments} {b : List Stmt} {sc : Scope} {N ps : List Str} {k : Nat} {sp : Sp} (F : FunD K x q pr b sc [] [] f fd) (S : FnScope N ps sc) (len : ∀ vs H Q E, sp vs H Q E → vs.length = ps.length)
    (hbody : ∀ (cdv : Value) (A : Around) (outer : List Env) (s : Shared) (H : Hp) (vs : List V) (Q : VK) (E : XK), A.guards = some [] → Room k (A.deeper (envOfC q sc s.heap.objs.size f cdv)) → sp vs H Q E →
      ∃ t, PSs (cxOf CX P w K mg base N q sc f cdv A outer s H E) b t ∧ t { nx := fun _ H' => Q .non H', rt := Q } (start N vs) H) : FnG P w K mg base CX (k + 1) f fd ps sp := by
  obtain ⟨oc, od, dV, kV, doc, pm, an, cdv, ct, osl, rfl, lk, hcd, _, _⟩ := F.ex
  exact fnG_of lk hcd S len fun A outer s H vs Q E hg hr hsp => hbody cdv A outer s H vs Q E hg hr hsp
theorem fn_law (T : Txt w K mg) {Pt : Addr} (TB : LamX.TabB base mg (He.codeOf K d_law_right.at_) Pt) {fd : FuncData} (F : FunD K "law" "law" (defArgs s_law) (defBody s_law) (defScope s_law) [] [] (He.fAd K ("law", none)) fd) :
    FnG PP w K mg base (L2.CX PP w) 16 (He.fAd K ("law", none)) fd ps_law (sp_law K Pt) := by
  have okR := ok_law_right (base := base) T TB
  refine fnG_fun F sc_law (fun vs H Q E h => ?_) (fun cdv A outer s H vs Q E hgd hr h => ⟨_, (pss_one (ps_ret (pe_callB (cr_all rfl) rfl T.n_all (by kernel_rfl) (pa_cons (pe_lc rfl sc_law.nd (pi_range1 rfl T.n_range (pa_cons (pe_callB (ca_max2 rfl) rfl T.n_max (by kernel_rfl) (pa_cons pe_int (pa_cons (pe_callB (ca_min2 rfl) rfl T.n_min (by kernel_rfl) (pa_cons (pe_callB ca_len rfl T.n_len PySem.boot_len (pa_cons (pv 0) pa_nil)) (pa_cons pe_int pa_nil))) pa_nil))) pa_nil)) (blkOk_by (own := [("_law_k", 1)]) (N := ns_law) (sc := defScope s_law) (by decide +kernel)) (fun _ _ _ _ _ => pg_name (i := 1) sc_law.nd rfl (Or.inl rfl)) (fun _ _ _ _ _ => pts_nil) (fun _ _ _ _ _ => (cG (okR) hgd (hr.mono (by decide)) T.g_law_right (pa_cons (cF (ok_law_jar T) (hr.mono (by decide)) T.g_law_jar (pa_cons (pv 0) (pa_cons (pv 1) pa_nil))) pa_nil)))) pa_nil)))), ?_⟩)
  · obtain ⟨a, ns, rfl, _⟩ := h
    rfl
  · obtain ⟨a, ns, rfl, ha, hl, tt, fin⟩ := h
    walk_at "w"
    refine w_rlenL ha ?_
    walk_at "w"
    have jb : ∀ {i : Int}, 0 ≤ i → ∃ n : Nat, (if (if (5 : Int) < i then 5 else i) > 2 then (if (5 : Int) < i then 5 else i) else 2) = (n : Int) ∧ n ≤ 5 := fun {i} h => by
      by_cases c1 : (5 : Int) < i
      · rw [if_pos c1, if_pos (by decide)]
        exact ⟨5, rfl, by decide⟩
      · rw [if_neg c1]
        by_cases c2 : i > 2
        · rw [if_pos c2]
          exact ⟨i.toNat, by omega, by omega⟩
        · rw [if_neg c2]
          exact ⟨2, rfl, by decide⟩
    obtain ⟨n, en, hn⟩ := jb (i := ((ns.map V.int).length : Nat)) (by omega)
    rw [en]
    refine ⟨_, rfl, by omega, by omega, ?_⟩
    rw [Int.toNat_natCast]
    intro D hD
    have naD : ∀ c o, H c = some o → c ≠ D := fun c o e z => by rw [z, hD] at e; cases e
    refine lc_it walk_range (fun i H' => LamX.ExtN H H' ∧ LamX.Tabs (TL Pt) H' ∧ H' D = some (.lst ((List.replicate i true).map V.bl))) ⟨fun c o e t => by rw [upd_ne (naD c o e)]; exact e, tabs_s tt (sameU hD), upd_same⟩ (fun _ _ _ _ => trivial) (fun i x H1 H2 hi p y => ?_) (fun H1 p => ?_)
    · obtain ⟨rfl, rfl⟩ := y
      obtain ⟨e1, t1, d1⟩ := p
      dsimp only
      rw [Int.zero_add]
      walk_at "w"
      refine ⟨rfl, ?_⟩
      walk_at "w"
      refine ⟨a, ns, (i : Nat), rfl, extN_sq e1 ha, by omega, hl, fun j H3 s3 hj0 hj => ?_⟩
      walk_at "w"
      have d3 := s3 _ _ d1
      have nDj : D ≠ j := fun z => by rw [z, hj0] at d1; cases d1
      refine ⟨j, rfl, hj, tabs_s t1 s3, fun H4 e4 t4 => ?_⟩
      have d4 := e4 _ _ nDj d3 (fun _ z => by cases z)
      refine ⟨_, d4, lt_line (by rw [List.length_map, List.length_replicate]; omega), fun c o e t => ?_, ?_, ?_⟩
      · have e5 := e1 c o e t
        have nc : c ≠ j := fun z => by rw [z, hj0] at e5; cases e5
        rw [upd_ne (naD c o e)]
        exact e4 _ _ nc (s3 _ _ e5) t
      · exact tabs_x t4 d4 (fun _ z => by cases z) (fun _ _ => lst_ne) (fun a u n h => by rw [upd_ne n]; exact h)
      · rw [upd_same, List.replicate_succ', List.map_append]
        rfl
    · obtain ⟨e1, t1, d1⟩ := p
      walk_at "w"
      refine ⟨D, List.replicate n true, rfl, sqL d1, ?_⟩
      rw [show (List.replicate n true).all id = true by rw [List.all_eq_true]; intro x hx; exact (List.mem_replicate.mp hx).2]
      exact fin _
end


/-! ### the end: the call of law from outside -/
/-- the abstract heap at the call: the table, and the script where it is no written object -/
def H0e (K : PySem.W.Frag) (a Pt : Addr) (o : Obj) (ns : List Int) : Hp := fun b => if b = Pt then some (.tbl #[]) else if b = a ∧ K.lookup a = none then some (.frz o (.lst (ns.map V.int))) else none
theorem law_callG {P : Program} {w : World} {K : PySem.W.Frag} {mg mb : Str → Option Value} {CX : CXT} {k : Nat} {fa a c Pt : Addr} {fd : FuncData} {x : Str} {sp : Sp} {s₁ : Shared} {vs : List Value} {ns : List Int}
    (KX : K.In s₁.heap) (hns : s₁.heap.Ns mainGlobals mg) (hb : s₁.heap.Ns builtinsNs mb) (hbb : ∀ x : Str, x ≠ "__name__" → mb x = bootBuiltins x) (hlim : s₁.heap.NoLimit) (hg : s₁.gens = #[])
    (hT : s₁.heap.get? Pt = some { cls := .none, data := .fields #[] }) (nT : K.lookup Pt = none) (C : PySem.W.CodeHd s₁.heap c Pt)
    (hbm : ∃ (bm : Addr) (ob : Obj), mg "__builtins__" = some (.ref bm) ∧ bm ≠ builtinsNs ∧ s₁.heap.get? bm = some ob ∧ ob.cls = .type "module" ∧ ob.dict = some builtinsNs ∧ ob.data = .plain)
    (ha : s₁.heap.get? a = some { cls := .type "list", data := .seq vs.toArray }) (hi : IntsAre vs ns) (hl : ns.length ≤ sizeLine) (hr : Room k callerA)
    (F : ∀ base : Heap, K.In base → base.Ns mainGlobals mg → LamX.TabB base mg c Pt → FnG P w K mg base CX k fa fd [x] sp) (hbind : ∀ (s : Shared) (u : Value), BindsTo s fd ⟨[u], []⟩ [(x, u)])
    (hsp : ∀ H : Hp, H Pt = some (.tbl #[]) → SqL K H a (ns.map V.int) → sp [.ref a] H (fun v _ => v = .bl true) fun _ _ _ => False)
    (hCX : ∀ H e s', CX [] H s₁ (fun _ _ _ => False) e s' → False) :
    codeAny (model P w) callerA (.call (.ref fa) ⟨[.ref a], []⟩) (fun r s' => r = .ok (.ret (.bool true)) ∧ OldK s₁.heap s'.heap ∧ s'.os = s₁.os ∧ AllBare s'.gens) s₁ := by
  have rv := vals_ints hi
  have naP : a ≠ Pt := fun z => by
    rw [z, hT] at ha
    have q : Data.fields #[] = Data.seq vs.toArray _ := congrArg Obj.data (Option.some.inj ha)
    cases q
  obtain ⟨ol, hol⟩ : ∃ ol : Obj, ol = { cls := .type "list", data := .seq vs.toArray } := ⟨_, rfl⟩
  have atP : H0e K a Pt ol ns Pt = some (.tbl #[]) := if_pos rfl
  have atA : K.lookup a = none → H0e K a Pt ol ns a = some (.frz ol (.lst (ns.map V.int))) := fun e => by unfold H0e; rw [if_neg naP, if_pos ⟨rfl, e⟩]
  have atN : ∀ b, b ≠ Pt → (b = a → K.lookup a ≠ none) → H0e K a Pt ol ns b = none := fun b n1 n2 => by unfold H0e; rw [if_neg n1, if_neg fun z => n2 z.1 z.2]
  have ways : ∀ b, H0e K a Pt ol ns b = none ∨ b = Pt ∨ (b = a ∧ K.lookup a = none) := fun b => by
    by_cases h1 : b = Pt
    · exact .inr (.inl h1)
    · by_cases h2 : b = a ∧ K.lookup a = none
      · exact .inr (.inr h2)
      · exact .inl (by unfold H0e; rw [if_neg h1, if_neg h2])
  have hS : SqL K (H0e K a Pt ol ns) a (ns.map V.int) := by
    cases hk : K.lookup a with
    | none => exact .inl (.inr ⟨ol, atA hk⟩)
    | some o =>
      have e := KX a o hk
      rw [ha] at e
      cases e
      exact .inr ⟨_, vs.toArray, _, hk, rfl, rfl, rfl, by rw [List.size_toArray, hi.length]; exact hl, by simpa using rv⟩
  have hok : HOk P w (H0e K a Pt ol ns) s₁.heap := fun b u z => by
    rcases ways b with e | rfl | ⟨rfl, e⟩
    · rw [e] at z; cases z
    · rw [atP] at z
      cases z
      exact hT
    · rw [atA e] at z
      cases z
      rw [hol]
      exact ⟨ha, by rw [List.length_map]; exact hl, vs, _, rv, ha⟩
  -- what is not tracked stands in the base
  have inB : ∀ {b : Addr} {o : Obj}, s₁.heap.get? b = some o → (∀ us n, o.data ≠ .seq us n) → o.data ≠ .fields #[] → (hidT s₁.heap (H0e K a Pt ol ns)).get? b = some o := fun {b o} e h1 h2 => hidT_get e (by
    rcases ways b with q | rfl | ⟨rfl, _⟩
    · exact q
    · rw [hT] at e; cases e; exact absurd rfl h2
    · rw [ha] at e; cases e; exact absurd rfl (h1 _ _))
  have nsB : ∀ {b : Addr} {m : Str → Option Value}, s₁.heap.Ns b m → (hidT s₁.heap (H0e K a Pt ol ns)).Ns b m := fun {b m} ⟨o, es, ep, e, d, r⟩ => ⟨o, es, ep, inB e (fun us n z => by rw [d] at z; cases z) (fun z => by rw [d] at z; cases z), d, r⟩
  have hKb : K.In (hidT s₁.heap (H0e K a Pt ol ns)) := fun b o e => hidT_get (KX b o e) (atN b (fun z => by rw [z, nT] at e; cases e) fun z q => by rw [z, q] at e; cases e)
  have hM : L2.Mod K mg (hidT s₁.heap (H0e K a Pt ol ns)) := ⟨hKb, nsB hns, ⟨mb, nsB hb, hbb⟩, let ⟨mc, h1, h2⟩ := hlim; ⟨mc, nsB h1, h2⟩⟩
  have TB : LamX.TabB (hidT s₁.heap (H0e K a Pt ol ns)) mg c Pt := by
    refine ⟨?_, ?_, fun z => ?_⟩
    · obtain ⟨o, us, file, tf, flags, tg, inF, text, tt, e1, r1, r2, r3, r4⟩ := C
      refine ⟨o, us, file, tf, flags, tg, inF, text, tt, inB e1 (fun us n z => by rw [r2] at z; cases z) (fun z => ?_), r1, r2, r3, r4⟩
      rw [r2] at z
      cases z
      simp at r3
    · obtain ⟨bm, ob, b1, b2, b3, b4, b5, b6⟩ := hbm
      refine ⟨bm, ob, b1, b2, fun q => ?_, fun q => ?_, inB b3 (fun us n z => by rw [b6] at z; cases z) (fun z => by rw [b6] at z; cases z), b4, b5, b6⟩
      · obtain ⟨o, es, ep, e, hd, _⟩ := hns
        rw [q, e] at b3
        cases b3
        rw [hd] at b6
        cases b6
      · rw [q, hT] at b3
        cases b3
        cases b6
    · obtain ⟨o, es, ep, e, hd, _⟩ := hns
      rw [z, hT] at e
      cases e
      cases hd
  have e0 : Env0 P w K mg (hidT s₁.heap (H0e K a Pt ol ns)) callerA [] s₁ (H0e K a Pt ol ns) := ⟨rfl, hM, fun b o e => of_hidT e, Nat.le_of_eq (hidT_size _ _), trivial, fun b hb => absurd (show b ∈ ([] : List Addr) from hb) (by simp), hok, .of_eq hg⟩
  refine codeAny_mono ((F _ hKb (nsB hns) TB).run callerA [] s₁ _ ⟨[.ref a], []⟩ [.ref a] [.ref a] _ _ rfl hr e0 (hbind s₁ (.ref a)) (.cons rfl .nil) (hsp _ atP hS)) fun r s' h => ?_
  cases r with
  | error e => exact (hCX _ e s' h).elim
  | ok fl =>
    cases fl with
    | next => exact False.elim h
    | brk => exact False.elim h
    | cont => exact False.elim h
    | ret u =>
      obtain ⟨v, H', os, bare, un, hok', r', q⟩ := h
      have q' : v = .bl true := q
      subst q'
      obtain rfl : u = Value.bool true := r'
      have key : ∀ b o, b ≠ Pt → s₁.heap.get? b = some o → s'.heap.get? b = some o := fun b o nb e => by
        rcases ways b with z | z | ⟨rfl, z⟩
        · exact un.keep b o e z (by intro z; exact absurd (show b ∈ ([] : List Addr) from z) (by simp)) (by simp)
        · exact absurd z nb
        · have z1 := atA z
          have z2 := un.frzs b _ _ z1
          obtain ⟨e1, _⟩ := hok b _ z1
          obtain ⟨e2, _⟩ := hok' b _ z2
          rw [e] at e1; cases e1
          exact e2
      have grown : ∃ more : Array Value, s'.heap.get? Pt = some { cls := .none, data := .fields more } := by
        obtain ⟨more, z⟩ := un.tbls Pt #[] atP
        exact ⟨_, hok' Pt _ z⟩
      refine ⟨rfl, ⟨fun b o e => ?_, fun b o e => ?_⟩, os, bare⟩
      · by_cases nb : b = Pt
        · obtain ⟨more, hm⟩ := grown
          rw [nb] at e ⊢
          rw [hT] at e
          cases e
          exact .inr (.inl ⟨(C.tab hT).isCodeTable, rfl, #[], more, rfl, by rw [Array.empty_append]; exact hm⟩)
        · exact .inl (key b o nb e)
      · by_cases nb : b = Pt
        · obtain ⟨more, hm⟩ := grown
          rw [nb]
          exact ⟨_, hm⟩
        · exact ⟨o, key b o nb e⟩


section
open PySem.W
abbrev L : PySem.W.OpenLaw := PySem.Challenge.rw_wordshuffles_k61_whole_books_through_dee
theorem walk_end {q : Program} {loose : List Str} {XP : (Str → Option Value) → Heap → Prop} {d : DefRec} (hn : L.most = some 63) (hdf : d.params.defaults = []) (hd : d.name = "law") :
    WalkO q loose XP hookY.says L.row.toRowW d [] (fun f vs => PySem.call f vs) := by
  refine Att.attach_callB hn hdf fun w s₀ s₁ mg mb fa o pm cd doc a vs ns G Y ho hd2 hcd hmg hobj hints hlen hbits hg => ?_
  obtain ⟨K, KX, c⟩ := Y
  have T : Txt w K mg := ⟨c.t, c.more, c.kin, c.pr, s₁.heap, KX, G.T.g⟩
  rw [hd, T.g_law] at hmg
  cases hmg
  obtain ⟨fd, F⟩ := T.f_law
  have hb := FunD.bindsA (ps := ps_law) F (fun _ _ _ _ _ _ us hl => match us, hl with | [_], _ => rfl)
  exact law_callG (CX := L2.CX PP w) (k := 16) KX G.T.g G.T.b G.T.builtins G.T.nolimit hg c.empty c.out (codeHd_of_K KX c.hd) G.T.bmain hobj hints (Nat.le_trans hlen (by rw [sizeLine_eq]; decide)) ⟨rfl, by decide, by decide⟩
    (fun base _ _ TB => fn_law T TB F) (fun s v => hb s [v] rfl)
    (fun H hP hS => ⟨a, ns, rfl, hS, by omega, fun p hp => by cases List.mem_singleton.mp hp; exact LamX.TabS.nil hP, fun _ => rfl⟩)
    (fun H e s' z => by obtain ⟨_, _, _, _, _, _, _, _, _, _, _, _, z⟩ := z; exact z)
end
end WH
open PySem PySem.W PySem.Calls PyProof.Rows
theorem PySem.Challenge.cw_wordshuffles_k61_whole_books_through_dee_holds : PySem.Challenge.rw_wordshuffles_k61_whole_books_through_dee.Holds := by
  w_on; o_law
  refine HandSHeadRun.head_any (r := OpenLaw.row PySem.Challenge.rw_wordshuffles_k61_whole_books_through_dee) (q := WH.qv) (H := WH.hookY) (ob := WH.obT) (M := 20000) (loose := WH.names) (d := HandSHeadRun.topDef (OpenLaw.row PySem.Challenge.rw_wordshuffles_k61_whole_books_through_dee).prog 120) (kwd := []) WH.obT_eq
    (by kernel_rfl) (fun s => by kernel_rfl) WH.run (by kernel_rfl) (by kernel_rfl) (by kernel_rfl) (by rfl) (by first | assumption | decide +kernel) (by decide +kernel) ⟨rfl, rfl, rfl, rfl, rfl, by decide +kernel⟩ ?hw ?hc
  case hw => w_witness2
  case hc => exact WH.walk_end rfl (by kernel_rfl) (by kernel_rfl)
