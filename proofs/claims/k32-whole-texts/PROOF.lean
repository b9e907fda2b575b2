import PyProof.Rows.All
import Wide.All
import OpenK.AllK
import Wide.FinOn
import HandS.Words
import HandS.Codes
import HandS.HeadHook2
import KE.KStateDown
import HandS.Head0
import HandS.Head1
import HandS.Head2
import HandS.HeadEnd
import HandS.HeadHook1
import HandS.ForMost
import HandS.IsInst
import HandS.TupAny
import HandS.Deep
import HandS.Zip
import HandS.Style
import HandS.SortInts
import HandS.SortRule
import HandS.More
import HandS.Evl
import HandS.Defaults
import HandS.TupMul
import HandS.SetFor
import HandS.RaiseMore
import KE.GoesMore
import KE.GoesEnum
import HandS.CallLocal
import HandS.OwnEq
import HandS.SortOrd
import HandS.NamedTupSort
import HandS.Conv
import PySem.Challenge.RW_onepicture_k32_whole_texts
set_option Elab.async false
set_option linter.all false
set_option maxRecDepth 100000
set_option maxHeartbeats 4000000
/-! ### the text by places, the def records, what is looked at (printed by gen_head.py) -/
namespace K32
open PySem PySem.Spec PyProof.Rows L2
def top (i : Nat) : Stmt := PySem.Challenge.pw_onepicture_k32_whole_texts.main.body.getD i (.Pass ⟨0, 0, 0, 0⟩)
def dr_is_integer : He.DefD := ⟨("is_integer", none), "is_integer", "is_integer", defArgs (top 10), defBody (top 10), defScope (top 10), [], []⟩
def dr_is_within : He.DefD := ⟨("is_within", none), "is_within", "is_within", defArgs (top 11), defBody (top 11), defScope (top 11), [], []⟩
def dr_is_below : He.DefD := ⟨("is_below", none), "is_below", "is_below", defArgs (top 12), defBody (top 12), defScope (top 12), [], []⟩
def dr_is_sized : He.DefD := ⟨("is_sized", none), "is_sized", "is_sized", defArgs (top 13), defBody (top 13), defScope (top 13), [], []⟩
def dr_is_pair : He.DefD := ⟨("is_pair", none), "is_pair", "is_pair", defArgs (top 14), defBody (top 14), defScope (top 14), [], []⟩
def dr_check_within : He.DefD := ⟨("check_within", none), "check_within", "check_within", defArgs (top 15), defBody (top 15), defScope (top 15), [], []⟩
def dr_replaced : He.DefD := ⟨("replaced", none), "replaced", "replaced", defArgs (top 16), defBody (top 16), defScope (top 16), [], []⟩
def dr_is_deed : He.DefD := ⟨("is_deed", none), "is_deed", "is_deed", defArgs (top 33), defBody (top 33), defScope (top 33), [], []⟩
def dr_is_script : He.DefD := ⟨("is_script", none), "is_script", "is_script", defArgs (top 34), defBody (top 34), defScope (top 34), [], []⟩
def dr_is_value : He.DefD := ⟨("is_value", none), "is_value", "is_value", defArgs (top 35), defBody (top 35), defScope (top 35), [], []⟩
def dr_is_near_value : He.DefD := ⟨("is_near_value", none), "is_near_value", "is_near_value", defArgs (top 36), defBody (top 36), defScope (top 36), [], []⟩
def dr_is_lot : He.DefD := ⟨("is_lot", none), "is_lot", "is_lot", defArgs (top 37), defBody (top 37), defScope (top 37), [], []⟩
def dr_is_row_of : He.DefD := ⟨("is_row_of", none), "is_row_of", "is_row_of", defArgs (top 38), defBody (top 38), defScope (top 38), [], []⟩
def dr_are_inputs : He.DefD := ⟨("are_inputs", none), "are_inputs", "are_inputs", defArgs (top 39), defBody (top 39), defScope (top 39), [], []⟩
def dr_is_hand : He.DefD := ⟨("is_hand", none), "is_hand", "is_hand", defArgs (top 41), defBody (top 41), defScope (top 41), [], []⟩
def dr_check_hand : He.DefD := ⟨("check_hand", none), "check_hand", "check_hand", defArgs (top 42), defBody (top 42), defScope (top 42), [], []⟩
def dr_is_number : He.DefD := ⟨("is_number", none), "is_number", "is_number", defArgs (top 48), defBody (top 48), defScope (top 48), [], []⟩
def dr_is_picture : He.DefD := ⟨("is_picture", none), "is_picture", "is_picture", defArgs (top 49), defBody (top 49), defScope (top 49), [], []⟩
def dr_is_call : He.DefD := ⟨("is_call", none), "is_call", "is_call", defArgs (top 50), defBody (top 50), defScope (top 50), [], []⟩
def dr_has_like : He.DefD := ⟨("has_like", none), "has_like", "has_like", defArgs (top 51), defBody (top 51), defScope (top 51), [], []⟩
def dr_moments_of : He.DefD := ⟨("moments_of", none), "moments_of", "moments_of", defArgs (top 52), defBody (top 52), defScope (top 52), [], []⟩
def dr_are_hands_clear : He.DefD := ⟨("are_hands_clear", none), "are_hands_clear", "are_hands_clear", defArgs (top 53), defBody (top 53), defScope (top 53), [], []⟩
def dr_number_in : He.DefD := ⟨("number_in", none), "number_in", "number_in", defArgs (top 68), defBody (top 68), defScope (top 68), [], []⟩
def dr_integer_in : He.DefD := ⟨("integer_in", none), "integer_in", "integer_in", defArgs (top 69), defBody (top 69), defScope (top 69), [], []⟩
def dr_numbers_in : He.DefD := ⟨("numbers_in", none), "numbers_in", "numbers_in", defArgs (top 70), defBody (top 70), defScope (top 70), [], []⟩
def dr_line_of : He.DefD := ⟨("line_of", none), "line_of", "line_of", defArgs (top 71), defBody (top 71), defScope (top 71), [], []⟩
def dr_closed_rows : He.DefD := ⟨("closed_rows", none), "closed_rows", "closed_rows", defArgs (top 72), defBody (top 72), defScope (top 72), [], []⟩
def dr_deed_words : He.DefD := ⟨("deed_words", none), "deed_words", "deed_words", defArgs (top 73), defBody (top 73), defScope (top 73), [], []⟩
def dr_hand_line : He.DefD := ⟨("hand_line", none), "hand_line", "hand_line", defArgs (top 74), defBody (top 74), defScope (top 74), [], []⟩
def dr_play_text : He.DefD := ⟨("play_text", none), "play_text", "play_text", defArgs (top 75), defBody (top 75), defScope (top 75), [], []⟩
def dr_weaving_text : He.DefD := ⟨("weaving_text", none), "weaving_text", "weaving_text", defArgs (top 76), defBody (top 76), defScope (top 76), [], []⟩
def dr_told_word : He.DefD := ⟨("told_word", none), "told_word", "told_word", defArgs (top 77), defBody (top 77), defScope (top 77), [], []⟩
def dr_call_line : He.DefD := ⟨("call_line", none), "call_line", "call_line", defArgs (top 78), defBody (top 78), defScope (top 78), [], []⟩
def dr_record_text : He.DefD := ⟨("record_text", none), "record_text", "record_text", defArgs (top 79), defBody (top 79), defScope (top 79), [], []⟩
def dr_read_script : He.DefD := ⟨("read_script", none), "read_script", "read_script", defArgs (top 80), defBody (top 80), defScope (top 80), [], []⟩
def dr_read_input : He.DefD := ⟨("read_input", none), "read_input", "read_input", defArgs (top 81), defBody (top 81), defScope (top 81), [], []⟩
def dr_pair_in : He.DefD := ⟨("pair_in", none), "pair_in", "pair_in", defArgs (top 82), defBody (top 82), defScope (top 82), [], []⟩
def dr_read_call : He.DefD := ⟨("read_call", none), "read_call", "read_call", defArgs (top 83), defBody (top 83), defScope (top 83), [], []⟩
def dr_read_play : He.DefD := ⟨("read_play", none), "read_play", "read_play", defArgs (top 85), defBody (top 85), defScope (top 85), [], []⟩
def dr_read_weaving : He.DefD := ⟨("read_weaving", none), "read_weaving", "read_weaving", defArgs (top 86), defBody (top 86), defScope (top 86), [], []⟩
def dr_read_record : He.DefD := ⟨("read_record", none), "read_record", "read_record", defArgs (top 87), defBody (top 87), defScope (top 87), [], []⟩
def dr_level_cell : He.DefD := ⟨("level_cell", none), "level_cell", "level_cell", defArgs (top 90), defBody (top 90), defScope (top 90), [], []⟩
def dr_level_state : He.DefD := ⟨("level_state", none), "level_state", "level_state", defArgs (top 91), defBody (top 91), defScope (top 91), [], []⟩
def dr_level_next : He.DefD := ⟨("level_next", none), "level_next", "level_next", defArgs (top 92), defBody (top 92), defScope (top 92), [], []⟩
def dr_level_after : He.DefD := ⟨("level_after", none), "level_after", "level_after", defArgs (top 93), defBody (top 93), defScope (top 93), [], []⟩
def dr_fresh : He.DefD := ⟨("fresh", none), "fresh", "fresh", defArgs (top 97), defBody (top 97), defScope (top 97), [], []⟩
def dr_manner_cell : He.DefD := ⟨("manner_cell", none), "manner_cell", "manner_cell", defArgs (top 98), defBody (top 98), defScope (top 98), [], []⟩
def dr_manner_state : He.DefD := ⟨("manner_state", none), "manner_state", "manner_state", defArgs (top 99), defBody (top 99), defScope (top 99), [], []⟩
def dr_is_put_next : He.DefD := ⟨("is_put_next", none), "is_put_next", "is_put_next", defArgs (top 100), defBody (top 100), defScope (top 100), [], []⟩
def dr_manner_next : He.DefD := ⟨("manner_next", none), "manner_next", "manner_next", defArgs (top 101), defBody (top 101), defScope (top 101), [], []⟩
def dr_numbers_of : He.DefD := ⟨("numbers_of", none), "numbers_of", "numbers_of", defArgs (top 102), defBody (top 102), defScope (top 102), [], []⟩
def dr_picture_of : He.DefD := ⟨("picture_of", none), "picture_of", "picture_of", defArgs (top 103), defBody (top 103), defScope (top 103), [], []⟩
def dr_lent : He.DefD := ⟨("lent", none), "lent", "lent", defArgs (top 104), defBody (top 104), defScope (top 104), [], []⟩
def dr_result_of : He.DefD := ⟨("result_of", none), "result_of", "result_of", defArgs (top 105), defBody (top 105), defScope (top 105), [], []⟩
def dr_after_sweep : He.DefD := ⟨("after_sweep", none), "after_sweep", "after_sweep", defArgs (top 106), defBody (top 106), defScope (top 106), [], []⟩
def dr_manner_after : He.DefD := ⟨("manner_after", none), "manner_after", "manner_after", defArgs (top 107), defBody (top 107), defScope (top 107), [], []⟩
def dr_top_cell : He.DefD := ⟨("top_cell", none), "top_cell", "top_cell", defArgs (top 109), defBody (top 109), defScope (top 109), [], []⟩
def dr_top_state : He.DefD := ⟨("top_state", none), "top_state", "top_state", defArgs (top 110), defBody (top 110), defScope (top 110), [], []⟩
def dr_top_next : He.DefD := ⟨("top_next", none), "top_next", "top_next", defArgs (top 111), defBody (top 111), defScope (top 111), [], []⟩
def dr_wish_by : He.DefD := ⟨("wish_by", none), "wish_by", "wish_by", defArgs (top 112), defBody (top 112), defScope (top 112), [], []⟩
def dr_after_names : He.DefD := ⟨("after_names", none), "after_names", "after_names", defArgs (top 113), defBody (top 113), defScope (top 113), [], []⟩
def dr_after_near : He.DefD := ⟨("after_near", none), "after_near", "after_near", defArgs (top 114), defBody (top 114), defScope (top 114), [], []⟩
def dr_after_chain : He.DefD := ⟨("after_chain", none), "after_chain", "after_chain", defArgs (top 115), defBody (top 115), defScope (top 115), [], []⟩
def dr_top_after : He.DefD := ⟨("top_after", none), "top_after", "top_after", defArgs (top 116), defBody (top 116), defScope (top 116), [], []⟩
def dr_cell_of : He.DefD := ⟨("cell_of", none), "cell_of", "cell_of", defArgs (top 118), defBody (top 118), defScope (top 118), [], []⟩
def dr_state_of : He.DefD := ⟨("state_of", none), "state_of", "state_of", defArgs (top 119), defBody (top 119), defScope (top 119), [], []⟩
def dr_next_of : He.DefD := ⟨("next_of", none), "next_of", "next_of", defArgs (top 120), defBody (top 120), defScope (top 120), [], []⟩
def dr_after_of : He.DefD := ⟨("after_of", none), "after_of", "after_of", defArgs (top 121), defBody (top 121), defScope (top 121), [], []⟩
def dr_begun : He.DefD := ⟨("begun", none), "begun", "begun", defArgs (top 122), defBody (top 122), defScope (top 122), [], []⟩
def dr_first_standing : He.DefD := ⟨("first_standing", none), "first_standing", "first_standing", defArgs (top 123), defBody (top 123), defScope (top 123), [], []⟩
def dr_movers : He.DefD := ⟨("movers", none), "movers", "movers", defArgs (top 124), defBody (top 124), defScope (top 124), [], []⟩
def dr_can_step : He.DefD := ⟨("can_step", none), "can_step", "can_step", defArgs (top 125), defBody (top 125), defScope (top 125), [], []⟩
def dr_after_step : He.DefD := ⟨("after_step", none), "after_step", "after_step", defArgs (top 126), defBody (top 126), defScope (top 126), [], []⟩
def dr_check_step : He.DefD := ⟨("check_step", none), "check_step", "check_step", defArgs (top 127), defBody (top 127), defScope (top 127), [], []⟩
def dr_step : He.DefD := ⟨("step", none), "step", "step", defArgs (top 128), defBody (top 128), defScope (top 128), [], []⟩
def dr_law_hand : He.DefD := ⟨("_law_hand", none), "_law_hand", "_law_hand", defArgs (top 130), defBody (top 130), defScope (top 130), [], []⟩
def dr_law_draw : He.DefD := ⟨("_law_draw", none), "_law_draw", "_law_draw", defArgs (top 131), defBody (top 131), defScope (top 131), [], []⟩
def dr_law_is : He.DefD := ⟨("_law_is", none), "_law_is", "_law_is", defArgs (top 132), defBody (top 132), defScope (top 132), [], []⟩
def dr_law_scripts : He.DefD := ⟨("_law_scripts", none), "_law_scripts", "_law_scripts", defArgs (top 133), defBody (top 133), defScope (top 133), [], []⟩
def dr_law_inputs : He.DefD := ⟨("_law_inputs", none), "_law_inputs", "_law_inputs", defArgs (top 134), defBody (top 134), defScope (top 134), [], []⟩
def dr_law_weaving : He.DefD := ⟨("_law_weaving", none), "_law_weaving", "_law_weaving", defArgs (top 135), defBody (top 135), defScope (top 135), [], []⟩
def dr_law_closed : He.DefD := ⟨("_law_closed", none), "_law_closed", "_law_closed", defArgs (top 136), defBody (top 136), defScope (top 136), [], []⟩
def dr_law_play_lines : He.DefD := ⟨("_law_play_lines", none), "_law_play_lines", "_law_play_lines", defArgs (top 137), defBody (top 137), defScope (top 137), [], []⟩
def dr_law_dash : He.DefD := ⟨("_law_dash", none), "_law_dash", "_law_dash", defArgs (top 138), defBody (top 138), defScope (top 138), [], []⟩
def dr_law_record_lines : He.DefD := ⟨("_law_record_lines", none), "_law_record_lines", "_law_record_lines", defArgs (top 139), defBody (top 139), defScope (top 139), [], []⟩
def dr_law_calls : He.DefD := ⟨("_law_calls", none), "_law_calls", "_law_calls", defArgs (top 140), defBody (top 140), defScope (top 140), [], []⟩
def dr_law_unlike : He.DefD := ⟨("_law_unlike", none), "_law_unlike", "_law_unlike", defArgs (top 141), defBody (top 141), defScope (top 141), [], []⟩
def dr_law_great : He.DefD := ⟨("_law_great", none), "_law_great", "_law_great", defArgs (top 142), defBody (top 142), defScope (top 142), [], []⟩
def dr_law : He.DefD := ⟨("law", none), "law", "law", defArgs (top 143), defBody (top 143), defScope (top 143), [], []⟩
def dr_Play_initx : He.DefD := ⟨("Play", some "__init__"), "__init__", "Play.__init__", defArgs (inClass (top 40) 0), defBody (inClass (top 40) 0), defScope (inClass (top 40) 0), [], []⟩
def dr_Play_eqx : He.DefD := ⟨("Play", some "__eq__"), "__eq__", "Play.__eq__", defArgs (inClass (top 40) 1), defBody (inClass (top 40) 1), defScope (inClass (top 40) 1), [], []⟩
def dr_Record_initx : He.DefD := ⟨("Record", some "__init__"), "__init__", "Record.__init__", defArgs (inClass (top 54) 0), defBody (inClass (top 54) 0), defScope (inClass (top 54) 0), [], []⟩
def dr_Record_eqx : He.DefD := ⟨("Record", some "__eq__"), "__eq__", "Record.__eq__", defArgs (inClass (top 54) 1), defBody (inClass (top 54) 1), defScope (inClass (top 54) 1), [], []⟩
def dr_TextReader_initx : He.DefD := ⟨("TextReader", some "__init__"), "__init__", "TextReader.__init__", defArgs (inClass (top 84) 0), defBody (inClass (top 84) 0), defScope (inClass (top 84) 0), [], []⟩
def dr_TextReader_is_more : He.DefD := ⟨("TextReader", some "is_more"), "is_more", "TextReader.is_more", defArgs (inClass (top 84) 1), defBody (inClass (top 84) 1), defScope (inClass (top 84) 1), [], []⟩
def dr_TextReader_next_words : He.DefD := ⟨("TextReader", some "next_words"), "next_words", "TextReader.next_words", defArgs (inClass (top 84) 2), defBody (inClass (top 84) 2), defScope (inClass (top 84) 2), [], []⟩
def dr_TextReader_take : He.DefD := ⟨("TextReader", some "take"), "take", "TextReader.take", defArgs (inClass (top 84) 3), defBody (inClass (top 84) 3), defScope (inClass (top 84) 3), [], []⟩
def dr_TextReader_take_behind : He.DefD := ⟨("TextReader", some "take_behind"), "take_behind", "TextReader.take_behind", defArgs (inClass (top 84) 4), defBody (inClass (top 84) 4), defScope (inClass (top 84) 4), [], []⟩
def dr_TextReader_take_kind : He.DefD := ⟨("TextReader", some "take_kind"), "take_kind", "TextReader.take_kind", defArgs (inClass (top 84) 5), defBody (inClass (top 84) 5), defScope (inClass (top 84) 5), [], []⟩
def dr_TextReader_take_number : He.DefD := ⟨("TextReader", some "take_number"), "take_number", "TextReader.take_number", defArgs (inClass (top 84) 6), defBody (inClass (top 84) 6), defScope (inClass (top 84) 6), [], []⟩
def dr_TextReader_take_hand : He.DefD := ⟨("TextReader", some "take_hand"), "take_hand", "TextReader.take_hand", defArgs (inClass (top 84) 7), defBody (inClass (top 84) 7), defScope (inClass (top 84) 7), [], []⟩
def dr_TextReader_finish : He.DefD := ⟨("TextReader", some "finish"), "finish", "TextReader.finish", defArgs (inClass (top 84) 8), defBody (inClass (top 84) 8), defScope (inClass (top 84) 8), [], []⟩
def fnl0 : List He.DefD := [dr_is_integer, dr_is_within, dr_is_below, dr_is_sized, dr_is_pair, dr_check_within, dr_replaced, dr_is_deed, dr_is_script, dr_is_value, dr_is_near_value, dr_is_lot]
def fnl1 : List He.DefD := [dr_is_row_of, dr_are_inputs, dr_is_hand, dr_check_hand, dr_is_number, dr_is_picture, dr_is_call, dr_has_like, dr_moments_of, dr_are_hands_clear, dr_number_in, dr_integer_in]
def fnl2 : List He.DefD := [dr_numbers_in, dr_line_of, dr_closed_rows, dr_deed_words, dr_hand_line, dr_play_text, dr_weaving_text, dr_told_word, dr_call_line, dr_record_text, dr_read_script, dr_read_input]
def fnl3 : List He.DefD := [dr_pair_in, dr_read_call, dr_read_play, dr_read_weaving, dr_read_record, dr_level_cell, dr_level_state, dr_level_next, dr_level_after, dr_fresh, dr_manner_cell, dr_manner_state]
def fnl4 : List He.DefD := [dr_is_put_next, dr_manner_next, dr_numbers_of, dr_picture_of, dr_lent, dr_result_of, dr_after_sweep, dr_manner_after, dr_top_cell, dr_top_state, dr_top_next, dr_wish_by]
def fnl5 : List He.DefD := [dr_after_names, dr_after_near, dr_after_chain, dr_top_after, dr_cell_of, dr_state_of, dr_next_of, dr_after_of, dr_begun, dr_first_standing, dr_movers, dr_can_step]
def fnl6 : List He.DefD := [dr_after_step, dr_check_step, dr_step, dr_law_hand, dr_law_draw, dr_law_is, dr_law_scripts, dr_law_inputs, dr_law_weaving, dr_law_closed, dr_law_play_lines, dr_law_dash]
def fnl7 : List He.DefD := [dr_law_record_lines, dr_law_calls, dr_law_unlike, dr_law_great, dr_law, dr_Play_initx, dr_Play_eqx, dr_Record_initx, dr_Record_eqx, dr_TextReader_initx, dr_TextReader_is_more, dr_TextReader_next_words]
def fnl8 : List He.DefD := [dr_TextReader_take, dr_TextReader_take_behind, dr_TextReader_take_kind, dr_TextReader_take_number, dr_TextReader_take_hand, dr_TextReader_finish]
def fnl : List He.DefD := fnl0 ++ (fnl1 ++ (fnl2 ++ (fnl3 ++ (fnl4 ++ (fnl5 ++ (fnl6 ++ (fnl7 ++ (fnl8))))))))
def fal0 : List He.Fa := [.glo "is_integer", .glo "is_within", .glo "is_below", .glo "is_sized", .glo "is_pair", .glo "check_within", .glo "replaced", .glo "is_deed", .glo "is_script", .glo "is_value", .glo "is_near_value", .glo "is_lot"]
def fal1 : List He.Fa := [.glo "is_row_of", .glo "are_inputs", .glo "is_hand", .glo "check_hand", .glo "is_number", .glo "is_picture", .glo "is_call", .glo "has_like", .glo "moments_of", .glo "are_hands_clear", .glo "number_in", .glo "integer_in"]
def fal2 : List He.Fa := [.glo "numbers_in", .glo "line_of", .glo "closed_rows", .glo "deed_words", .glo "hand_line", .glo "play_text", .glo "weaving_text", .glo "told_word", .glo "call_line", .glo "record_text", .glo "read_script", .glo "read_input"]
def fal3 : List He.Fa := [.glo "pair_in", .glo "read_call", .glo "read_play", .glo "read_weaving", .glo "read_record", .glo "level_cell", .glo "level_state", .glo "level_next", .glo "level_after", .glo "fresh", .glo "manner_cell", .glo "manner_state"]
def fal4 : List He.Fa := [.glo "is_put_next", .glo "manner_next", .glo "numbers_of", .glo "picture_of", .glo "lent", .glo "result_of", .glo "after_sweep", .glo "manner_after", .glo "top_cell", .glo "top_state", .glo "top_next", .glo "wish_by"]
def fal5 : List He.Fa := [.glo "after_names", .glo "after_near", .glo "after_chain", .glo "top_after", .glo "cell_of", .glo "state_of", .glo "next_of", .glo "after_of", .glo "begun", .glo "first_standing", .glo "movers", .glo "can_step"]
def fal6 : List He.Fa := [.glo "after_step", .glo "check_step", .glo "step", .glo "_law_hand", .glo "_law_draw", .glo "_law_is", .glo "_law_scripts", .glo "_law_inputs", .glo "_law_weaving", .glo "_law_closed", .glo "_law_play_lines", .glo "_law_dash"]
def fal7 : List He.Fa := [.glo "_law_record_lines", .glo "_law_calls", .glo "_law_unlike", .glo "_law_great", .glo "law", .int "MOST_HANDS_plays" 5, .int "MOST_DEEDS" 6, .int "MOST_VALUE" 1000, .int "MOST_ROUNDS" 6, .int "MOST_THING" 20, .str "SWEEP" "sweep", .str "TWICE" "twice"]
def fal8 : List He.Fa := [.str "BORROW" "borrow", .str "LEVELS" "levels", .str "NAMES" "names", .str "NEAR" "near", .str "CHAIN" "chain", .glo "MANNERS", .str "PUT_plays" "put", .str "SEE" "see", .int "MOST_HANDS_records" 8, .int "MOST_CALLS" 300, .str "PUT_records" "put", .str "LOOK_records" "look"]
def fal9 : List He.Fa := [.str "KIND" "kind", .str "ROUNDS" "rounds", .str "HAND" "hand", .str "WEAVING" "weaving", .str "HANDS" "hands", .glo "KINDS", .str "NOTHING" "-", .str "MINUS" "-", .str "BLANK" " ", .str "LINE_END" "\n", .str "FIGURES" "0123456789", .int "MOST_FIGURES" 20]
def fal10 : List He.Fa := [.str "LOOK_levels" "look", .str "LOOK_manners" "look", .glo "FIRST_CELL", .free "len", .free "isinstance", .free "int", .free "str", .free "bool", .free "tuple", .free "list", .free "all", .free "any"]
def fal11 : List He.Fa := [.free "zip", .free "enumerate", .free "range", .free "sorted", .free "max", .free "min", .free "set", .glo "Play", .cls "Play", .mkr "Play", .noat "Play" "kind", .noat "Play" "inputs"]
def fal12 : List He.Fa := [.noat "Play" "rows", .glo "Record", .cls "Record", .mkr "Record", .noat "Record" "many", .noat "Record" "calls", .glo "TextReader", .cls "TextReader", .mkr "TextReader", .noat "TextReader" "lines_told", .noat "TextReader" "at", .meth "Play" "__eq__"]
def fal13 : List He.Fa := [.meth "Record" "__eq__", .meth "TextReader" "is_more", .meth "TextReader" "next_words", .meth "TextReader" "take", .meth "TextReader" "take_behind", .meth "TextReader" "take_kind", .meth "TextReader" "take_number", .meth "TextReader" "take_hand", .meth "TextReader" "finish"]
def fal : List He.Fa := fal0 ++ (fal1 ++ (fal2 ++ (fal3 ++ (fal4 ++ (fal5 ++ (fal6 ++ (fal7 ++ (fal8 ++ (fal9 ++ (fal10 ++ (fal11 ++ (fal12 ++ (fal13)))))))))))))
/-- what isinstance asks of an own class, looked at -/
def insB (K : PySem.W.Frag) (C : Addr) : Bool :=
  He.eqO (PySem.W.findIn K (.ref C) "__class__") (some (some (.builtin "object.__class__"))) && (He.eqO (PySem.W.specialIn K (.builtin "object.__class__") "__get__") (some (some (.builtin "getset_descriptor.__get__"))) &&
    (decide (PySem.W.takesIn K (.builtin "object.__class__") = some true) && (decide (PySem.W.mroIn K C (.type "object") = some true) && decide (PySem.W.kitOne K (.ref C) (.ref C) = some true))))
theorem insB_ok {K : PySem.W.Frag} {C : Addr} (cl : Cls K C) (h : insB K C = true) : C8.InsC K C := by
  obtain ⟨h1, h⟩ := He.ba h
  obtain ⟨h2, h⟩ := He.ba h
  obtain ⟨h3, h⟩ := He.ba h
  obtain ⟨h4, h5⟩ := He.ba h
  exact ⟨cl, He.eqO_ok h1, He.eqO_ok h2, of_decide_eq_true h3, of_decide_eq_true h4, of_decide_eq_true h5⟩
def exl (K : PySem.W.Frag) : List Bool := [He.tupB K "MANNERS" [.str "sweep", .str "twice", .str "borrow"], He.tupB K "KINDS" [.str "sweep", .str "twice", .str "borrow", .str "levels", .str "names", .str "near", .str "chain"], He.tupB K "FIRST_CELL" [.int 0, .int 0, .non], insB K (He.ga K "Play"), insB K (He.ga K "Record")]
def exB (K : PySem.W.Frag) : Bool := (exl K).all id
end K32
/-! ### the head's run (printed by gen_head.py) -/
namespace K32
open PySem PySem.Spec PyProof.Rows L2
def loose0 : List PySem.Str := ["PictureError", "BadPlay", "NoHand", "NoStep", "NoNumber", "BadRecord", "Unclear", "BadText", "is_integer", "is_within", "is_below", "is_sized"]
def loose1 : List PySem.Str := ["is_pair", "check_within", "replaced", "MOST_HANDS_plays", "MOST_DEEDS", "MOST_VALUE", "MOST_ROUNDS", "MOST_THING", "SWEEP", "TWICE", "BORROW", "LEVELS"]
def loose2 : List PySem.Str := ["NAMES", "NEAR", "CHAIN", "MANNERS", "PUT_plays", "SEE", "is_deed", "is_script", "is_value", "is_near_value", "is_lot", "is_row_of"]
def loose3 : List PySem.Str := ["are_inputs", "Play", "is_hand", "check_hand", "MOST_HANDS_records", "MOST_CALLS", "PUT_records", "LOOK_records", "is_number", "is_picture", "is_call", "has_like"]
def loose4 : List PySem.Str := ["moments_of", "are_hands_clear", "Record", "KIND", "ROUNDS", "HAND", "WEAVING", "HANDS", "KINDS", "NOTHING", "MINUS", "BLANK"]
def loose5 : List PySem.Str := ["LINE_END", "FIGURES", "MOST_FIGURES", "number_in", "integer_in", "numbers_in", "line_of", "closed_rows", "deed_words", "hand_line", "play_text", "weaving_text"]
def loose6 : List PySem.Str := ["told_word", "call_line", "record_text", "read_script", "read_input", "pair_in", "read_call", "TextReader", "read_play", "read_weaving", "read_record", "LOOK_levels"]
def loose7 : List PySem.Str := ["level_cell", "level_state", "level_next", "level_after", "LOOK_manners", "FIRST_CELL", "fresh", "manner_cell", "manner_state", "is_put_next", "manner_next", "numbers_of"]
def loose8 : List PySem.Str := ["picture_of", "lent", "result_of", "after_sweep", "manner_after", "top_cell", "top_state", "top_next", "wish_by", "after_names", "after_near", "after_chain"]
def loose9 : List PySem.Str := ["top_after", "cell_of", "state_of", "next_of", "after_of", "begun", "first_standing", "movers", "can_step", "after_step", "check_step", "step"]
def loose10 : List PySem.Str := ["_law_hand", "_law_draw", "_law_is", "_law_scripts", "_law_inputs", "_law_weaving", "_law_closed", "_law_play_lines", "_law_dash", "_law_record_lines", "_law_calls", "_law_unlike"]
def loose11 : List PySem.Str := ["_law_great"]
def loose : List PySem.Str := loose0 ++ (loose1 ++ (loose2 ++ (loose3 ++ (loose4 ++ (loose5 ++ (loose6 ++ (loose7 ++ (loose8 ++ (loose9 ++ (loose10 ++ (loose11)))))))))))
abbrev LRow : PySem.W.OpenRow := PySem.W.OpenLaw.row PySem.Challenge.rw_onepicture_k32_whole_texts
def adl0 : List Addr := [3, 145, 146, 152, 153, 159, 160, 166, 167, 173, 174, 180, 181, 187, 188, 189, 195, 196, 200, 201, 207, 208, 214, 215, 219, 220, 224, 225, 231, 232]
def adl1 : List Addr := [245, 246, 252, 253, 255, 256, 266, 267, 273, 274, 280, 281, 285, 286, 292, 293, 297, 298, 302, 303, 309, 310, 321, 322, 328, 329, 331, 332, 337, 341]
def adl2 : List Addr := [342, 348, 349, 353, 354, 358, 359, 363, 364, 370, 371, 377, 378, 382, 383, 389, 390, 396, 397, 401, 402, 406, 407, 413, 414, 420, 421, 427, 428, 432]
def adl3 : List Addr := [433, 446, 447, 453, 454, 460, 461, 467, 468, 474, 475, 481, 482, 488, 489, 495, 496, 502, 503, 505, 506, 516, 517, 523, 524, 530, 531, 537, 538, 544]
def adl4 : List Addr := [545, 551, 552, 556, 557, 558, 564, 565, 571, 572, 578, 579, 585, 586, 592, 593, 597, 598, 602, 603, 609, 610, 616, 617, 623, 624, 630, 631, 637, 638]
def adl5 : List Addr := [644, 645, 651, 652, 656, 657, 661, 662, 666, 667, 673, 674, 680, 681, 687, 688, 694, 695, 701, 702, 708, 709, 713, 714, 720, 721, 725, 726, 732, 733]
def adl6 : List Addr := [739, 740, 746, 747, 753, 754, 758, 759, 765, 766, 770, 771, 777, 778, 782, 783, 789, 790, 794, 795, 799, 800, 806, 807, 811, 812, 816, 817, 821, 822]
def adl7 : List Addr := [828, 829, 833, 834]
def adl : List Addr := adl0 ++ (adl1 ++ (adl2 ++ (adl3 ++ (adl4 ++ (adl5 ++ (adl6 ++ (adl7)))))))
def obsL (g : Addr → Option Obj) : Bool × List He.FnW := ((fal.all fun f => f.ok (He.frG g adl)) && ((fnl.all fun d => d.ok (He.frG g adl)) && exB (He.frG g adl)), fnl.map fun d => He.fnW (He.frG g adl) d.at_)
theorem obsL_says {g : Addr → Option Obj} (h : obsL g = (true, fnl.map He.DefD.val)) : He.SaysD fal fnl (He.frG g adl) ∧ exB (He.frG g adl) = true := by
  have h1 : ((fal.all fun f => f.ok (He.frG g adl)) && ((fnl.all fun d => d.ok (He.frG g adl)) && exB (He.frG g adl))) = true := congrArg Prod.fst h
  have h2 : (fnl.map fun d => He.fnW (He.frG g adl) d.at_) = fnl.map He.DefD.val := congrArg Prod.snd h
  obtain ⟨a, b⟩ := He.ba h1
  obtain ⟨b, c⟩ := He.ba b
  refine ⟨?_, c⟩
  show ((fal.all fun f => f.ok (He.frG g adl)) && fnl.all fun d => d.ok (He.frG g adl), fnl.map fun d => He.fnW (He.frG g adl) d.at_) = (true, fnl.map He.DefD.val)
  rw [a, b, h2]
  rfl
def hk : PySem.W.Hook where
  α := Bool × List He.FnW
  obs := fun s => obsL s.heap.get?
  val := fun _ => (true, fnl.map He.DefD.val)
  says := fun _ h => ∃ K : PySem.W.Frag, K.In h ∧ He.SaysD fal fnl K ∧ exB K = true
  of := fun _ _ e => ⟨_, He.frG_in, obsL_says e⟩
  keeps := fun _ _ _ ⟨K, hK, c⟩ k => ⟨K, PySem.W.Frag.In.keeps hK k, c⟩
def ob (s : PySem.W.SharedT) : Bool × List He.FnW := obsL (HandSHeadRun.getT s)
theorem ob_eq (s : PySem.W.SharedT) : ob s = hk.obs s.abs := by
  have e : HandSHeadRun.getT s = s.abs.heap.get? := funext (HandSHeadRun.getT_eq s)
  show obsL (HandSHeadRun.getT s) = obsL s.abs.heap.get?
  rw [e]
/-! the run, looked at three times (each keeps the kernel's memory low) -/
noncomputable def endO (w : World) (os : PySem.OsState) : Option PySem.W.SharedT := HandSHeadRun.endF (HandSHeadRun.stepQ (HandSHeadRun.denQ HandSHeadRun.tabQ) LRow.prog w) 6000 LRow.prog w os
def obA (s : PySem.W.SharedT) : Bool := (fal.all fun f => f.ok (He.frG (HandSHeadRun.getT s) adl)) && exB (He.frG (HandSHeadRun.getT s) adl)
def obB (s : PySem.W.SharedT) : Bool × List He.FnW := ((fnl.all fun d => d.ok (He.frG (HandSHeadRun.getT s) adl)), fnl.map fun d => He.fnW (He.frG (HandSHeadRun.getT s) adl) d.at_)
def hk0 : PySem.W.Hook := PySem.W.Hook.none
theorem runA (w : World) (os : PySem.OsState) : (endO w os).map obA = some true := by
  kernel_rfl
theorem runB (w : World) (os : PySem.OsState) : (endO w os).map obB = some (true, fnl.map He.DefD.val) := by
  kernel_rfl
theorem runC (w : World) : HandSHeadRun.RunEq LRow (PySem.W.view LRow.prog [143]) hk0 (fun _ => ()) 6000 loose w := by
  intro os
  kernel_rfl
theorem run (w : World) : HandSHeadRun.RunEq LRow (PySem.W.view LRow.prog [143]) hk ob 6000 loose w := fun os => by
  have a := runA w os
  have b := runB w os
  have c := runC w os
  show (endO w os).map _ = _
  have c : (endO w os).map _ = _ := c
  generalize endO w os = o at a b c
  cases o with
  | none => cases a
  | some s =>
    have a : obA s = true := Option.some.inj a
    have b : obB s = (true, fnl.map He.DefD.val) := Option.some.inj b
    have c := Option.some.inj c
    have c1 := congrArg Prod.fst c
    have c2 := congrArg (fun x => x.2.1) c
    obtain ⟨a1, a2⟩ := He.ba a
    have b1 : (fnl.all fun d => d.ok (He.frG (HandSHeadRun.getT s) adl)) = true := congrArg Prod.fst b
    have b2 : (fnl.map fun d => He.fnW (He.frG (HandSHeadRun.getT s) adl) d.at_) = fnl.map He.DefD.val := congrArg Prod.snd b
    have e : ob s = (true, fnl.map He.DefD.val) := by
      show obsL (HandSHeadRun.getT s) = _
      unfold obsL
      rw [a1, a2, b1, b2]
      rfl
    exact congrArg some (Prod.ext c1 (Prod.ext c2 e))
end K32
/-! The head, up to the law's call. -/
namespace K32
abbrev qv : PySem.Program := PySem.W.view LRow.prog [143]
open PySem PySem.W PySem.Calls PyProof.Rows
abbrev dl : DefRec := HandSHeadRun.topDef LRow.prog 143
theorem hd1 : opening LRow.prog = plainProg LRow.prog.main.scope.names := by kernel_rfl
theorem hd2 (s : _) : fenceModules? LRow.prog s = some s := by kernel_rfl
theorem hd3 : defOf qv LRow.name = some (dl, []) := by kernel_rfl
theorem hd4 : LRow.prog.theDef LRow.name = some (dl.params, dl.body, dl.scope) := by kernel_rfl
theorem hd5 : kwWritten? dl.params.kwonlyargs dl.params.kw_defaults = some [] := by kernel_rfl
theorem hd6 : (chainsOk qv && opensWell LRow.prog && (frees LRow.toRowW && LRow.within.isEmpty)) = true := by decide +kernel
theorem head (hc : WalkO qv loose (XL qv []) hk.says LRow.toRowW dl [] fun f vs => PySem.call f vs) : PySem.Challenge.rw_onepicture_k32_whole_texts.Holds := by
  w_on; o_law
  refine HandSHeadRun.head_any (r := LRow) (q := qv) (H := hk) (ob := ob) (M := 6000) (loose := loose) (d := dl) (kwd := []) ob_eq hd1 hd2 run hd3 hd4 hd5 (by rfl) (by first | assumption | decide +kernel) hd6 ⟨rfl, rfl, rfl, rfl, rfl, by decide +kernel⟩ ?hw hc
  case hw => w_witness2
end K32
/-! ### what is told of the top (printed by gen_head.py) -/
namespace K32
open PySem PySem.Spec PyProof.Rows L2
/-- a def of the module -/
structure DefAt (K : PySem.W.Frag) (mg : Str → Option Value) (x : Str) (st : Stmt) : Prop where
  fn : ∃ fd, FunD K x x (defArgs st) (defBody st) (defScope st) [] [] (He.ga K x) fd
  mgf : mg x = some (.ref (He.ga K x))
/-- all that is told of the top -/
structure TX (K : PySem.W.Frag) (mg : Str → Option Value) : Prop where
  at_ : ∃ h : Heap, K.In h ∧ h.Ns mainGlobals mg
  d : He.SaysD fal fnl K
  x : exB K = true
section
variable {K : PySem.W.Frag} {mg : Str → Option Value}
theorem TX.glo (T : TX K mg) {x : Str} (i : Nat) (h : fal[i]? = some (.glo x)) : mg x = some (.ref (He.ga K x)) := by
  obtain ⟨_, X, G⟩ := T.at_
  exact He.glo_ok X G (T.d.fact i h)
theorem TX.ref (T : TX K mg) {x : Str} (i : Nat) (h : fal[i]? = some (.glo x)) : ∃ u, mg x = some u ∧ RelV (.ref (He.ga K x)) u := ⟨_, T.glo i h, rfl⟩
theorem TX.free (T : TX K mg) {x : Str} (i : Nat) (h : fal[i]? = some (.free x)) : mg x = none := by
  obtain ⟨_, X, G⟩ := T.at_
  exact He.free_ok X G (T.d.fact i h)
theorem TX.str (T : TX K mg) {x z : Str} (i : Nat) (h : fal[i]? = some (.str x z)) : ∃ u, mg x = some u ∧ RelV (.str z) u := by
  obtain ⟨_, X, G⟩ := T.at_
  obtain ⟨t, e⟩ := He.str_ok X G (T.d.fact i h)
  exact ⟨_, e, t, rfl⟩
theorem TX.int (T : TX K mg) {x : Str} {z : Int} (i : Nat) (h : fal[i]? = some (.int x z)) : ∃ u, mg x = some u ∧ RelV (.int z) u := by
  obtain ⟨_, X, G⟩ := T.at_
  obtain ⟨t, e⟩ := He.int_ok X G (T.d.fact i h)
  exact ⟨_, e, t, rfl⟩
theorem TX.cls (T : TX K mg) {x : Str} (i : Nat) (h : fal[i]? = some (.cls x)) : Cls K (He.ga K x) := He.cls_ok (T.d.fact i h)
theorem TX.mkr (T : TX K mg) {x : Str} (i : Nat) (h : fal[i]? = some (.mkr x)) : Mk K (He.ga K x) (He.ma K (He.ga K x) "__init__") := He.mkr_ok (T.d.fact i h)
theorem TX.noat (T : TX K mg) {x f : Str} (i : Nat) (h : fal[i]? = some (.noat x f)) : NoAttr K (He.ga K x) f := He.noat_ok (T.d.fact i h)
theorem TX.meth (T : TX K mg) {x m : Str} (i : Nat) (h : fal[i]? = some (.meth x m)) : Meth K (He.ga K x) m (He.ma K (He.ga K x) m) := He.meth_ok (T.d.fact i h)
theorem TX.def_ (T : TX K mg) (i : Nat) (d : He.DefD) (h : fnl[i]? = some d) : ∃ fd, FunD K d.name d.qual d.params d.body d.scope (d.dvs K) (d.kws K) (He.fAd K d.at_) fd := T.d.def_ i h
theorem TX.more (T : TX K mg) {b : Bool} (i : Nat) (h : (exl K)[i]? = some b) : b = true := by
  have e := T.x
  unfold exB at e
  rw [List.all_eq_true] at e
  exact e b (List.mem_of_getElem? h)
theorem TX.c_MOST_HANDS_plays (T : TX K mg) : ∃ u, mg "MOST_HANDS_plays" = some u ∧ RelV (.int 5) u := T.int 89 rfl
theorem TX.c_MOST_DEEDS (T : TX K mg) : ∃ u, mg "MOST_DEEDS" = some u ∧ RelV (.int 6) u := T.int 90 rfl
theorem TX.c_MOST_VALUE (T : TX K mg) : ∃ u, mg "MOST_VALUE" = some u ∧ RelV (.int 1000) u := T.int 91 rfl
theorem TX.c_MOST_ROUNDS (T : TX K mg) : ∃ u, mg "MOST_ROUNDS" = some u ∧ RelV (.int 6) u := T.int 92 rfl
theorem TX.c_MOST_THING (T : TX K mg) : ∃ u, mg "MOST_THING" = some u ∧ RelV (.int 20) u := T.int 93 rfl
theorem TX.c_SWEEP (T : TX K mg) : ∃ u, mg "SWEEP" = some u ∧ RelV (.str "sweep") u := T.str 94 rfl
theorem TX.c_TWICE (T : TX K mg) : ∃ u, mg "TWICE" = some u ∧ RelV (.str "twice") u := T.str 95 rfl
theorem TX.c_BORROW (T : TX K mg) : ∃ u, mg "BORROW" = some u ∧ RelV (.str "borrow") u := T.str 96 rfl
theorem TX.c_LEVELS (T : TX K mg) : ∃ u, mg "LEVELS" = some u ∧ RelV (.str "levels") u := T.str 97 rfl
theorem TX.c_NAMES (T : TX K mg) : ∃ u, mg "NAMES" = some u ∧ RelV (.str "names") u := T.str 98 rfl
theorem TX.c_NEAR (T : TX K mg) : ∃ u, mg "NEAR" = some u ∧ RelV (.str "near") u := T.str 99 rfl
theorem TX.c_CHAIN (T : TX K mg) : ∃ u, mg "CHAIN" = some u ∧ RelV (.str "chain") u := T.str 100 rfl
theorem TX.c_MANNERS (T : TX K mg) : ∃ u, mg "MANNERS" = some u ∧ RelV (.ref (He.ga K "MANNERS")) u := T.ref 101 rfl
theorem TX.c_PUT_plays (T : TX K mg) : ∃ u, mg "PUT_plays" = some u ∧ RelV (.str "put") u := T.str 102 rfl
theorem TX.c_SEE (T : TX K mg) : ∃ u, mg "SEE" = some u ∧ RelV (.str "see") u := T.str 103 rfl
theorem TX.c_MOST_HANDS_records (T : TX K mg) : ∃ u, mg "MOST_HANDS_records" = some u ∧ RelV (.int 8) u := T.int 104 rfl
theorem TX.c_MOST_CALLS (T : TX K mg) : ∃ u, mg "MOST_CALLS" = some u ∧ RelV (.int 300) u := T.int 105 rfl
theorem TX.c_PUT_records (T : TX K mg) : ∃ u, mg "PUT_records" = some u ∧ RelV (.str "put") u := T.str 106 rfl
theorem TX.c_LOOK_records (T : TX K mg) : ∃ u, mg "LOOK_records" = some u ∧ RelV (.str "look") u := T.str 107 rfl
theorem TX.c_KIND (T : TX K mg) : ∃ u, mg "KIND" = some u ∧ RelV (.str "kind") u := T.str 108 rfl
theorem TX.c_ROUNDS (T : TX K mg) : ∃ u, mg "ROUNDS" = some u ∧ RelV (.str "rounds") u := T.str 109 rfl
theorem TX.c_HAND (T : TX K mg) : ∃ u, mg "HAND" = some u ∧ RelV (.str "hand") u := T.str 110 rfl
theorem TX.c_WEAVING (T : TX K mg) : ∃ u, mg "WEAVING" = some u ∧ RelV (.str "weaving") u := T.str 111 rfl
theorem TX.c_HANDS (T : TX K mg) : ∃ u, mg "HANDS" = some u ∧ RelV (.str "hands") u := T.str 112 rfl
theorem TX.c_KINDS (T : TX K mg) : ∃ u, mg "KINDS" = some u ∧ RelV (.ref (He.ga K "KINDS")) u := T.ref 113 rfl
theorem TX.c_NOTHING (T : TX K mg) : ∃ u, mg "NOTHING" = some u ∧ RelV (.str "-") u := T.str 114 rfl
theorem TX.c_MINUS (T : TX K mg) : ∃ u, mg "MINUS" = some u ∧ RelV (.str "-") u := T.str 115 rfl
theorem TX.c_BLANK (T : TX K mg) : ∃ u, mg "BLANK" = some u ∧ RelV (.str " ") u := T.str 116 rfl
theorem TX.c_LINE_END (T : TX K mg) : ∃ u, mg "LINE_END" = some u ∧ RelV (.str "\n") u := T.str 117 rfl
theorem TX.c_FIGURES (T : TX K mg) : ∃ u, mg "FIGURES" = some u ∧ RelV (.str "0123456789") u := T.str 118 rfl
theorem TX.c_MOST_FIGURES (T : TX K mg) : ∃ u, mg "MOST_FIGURES" = some u ∧ RelV (.int 20) u := T.int 119 rfl
theorem TX.c_LOOK_levels (T : TX K mg) : ∃ u, mg "LOOK_levels" = some u ∧ RelV (.str "look") u := T.str 120 rfl
theorem TX.c_LOOK_manners (T : TX K mg) : ∃ u, mg "LOOK_manners" = some u ∧ RelV (.str "look") u := T.str 121 rfl
theorem TX.c_FIRST_CELL (T : TX K mg) : ∃ u, mg "FIRST_CELL" = some u ∧ RelV (.ref (He.ga K "FIRST_CELL")) u := T.ref 122 rfl
theorem TX.n_len (T : TX K mg) : mg "len" = none := T.free 123 rfl
theorem TX.n_isinstance (T : TX K mg) : mg "isinstance" = none := T.free 124 rfl
theorem TX.n_int (T : TX K mg) : mg "int" = none := T.free 125 rfl
theorem TX.n_str (T : TX K mg) : mg "str" = none := T.free 126 rfl
theorem TX.n_bool (T : TX K mg) : mg "bool" = none := T.free 127 rfl
theorem TX.n_tuple (T : TX K mg) : mg "tuple" = none := T.free 128 rfl
theorem TX.n_list (T : TX K mg) : mg "list" = none := T.free 129 rfl
theorem TX.n_all (T : TX K mg) : mg "all" = none := T.free 130 rfl
theorem TX.n_any (T : TX K mg) : mg "any" = none := T.free 131 rfl
theorem TX.n_zip (T : TX K mg) : mg "zip" = none := T.free 132 rfl
theorem TX.n_enumerate (T : TX K mg) : mg "enumerate" = none := T.free 133 rfl
theorem TX.n_range (T : TX K mg) : mg "range" = none := T.free 134 rfl
theorem TX.n_sorted (T : TX K mg) : mg "sorted" = none := T.free 135 rfl
theorem TX.n_max (T : TX K mg) : mg "max" = none := T.free 136 rfl
theorem TX.n_min (T : TX K mg) : mg "min" = none := T.free 137 rfl
theorem TX.n_set (T : TX K mg) : mg "set" = none := T.free 138 rfl
theorem TX.g_Play (T : TX K mg) : mg "Play" = some (.ref (He.ga K "Play")) := T.glo 139 rfl
theorem TX.cls_Play (T : TX K mg) : Cls K (He.ga K "Play") := T.cls 140 rfl
theorem TX.mk_Play (T : TX K mg) : Mk K (He.ga K "Play") (He.ma K (He.ga K "Play") "__init__") := T.mkr 141 rfl
theorem TX.no_Play_kind (T : TX K mg) : NoAttr K (He.ga K "Play") "kind" := T.noat 142 rfl
theorem TX.no_Play_inputs (T : TX K mg) : NoAttr K (He.ga K "Play") "inputs" := T.noat 143 rfl
theorem TX.no_Play_rows (T : TX K mg) : NoAttr K (He.ga K "Play") "rows" := T.noat 144 rfl
theorem TX.g_Record (T : TX K mg) : mg "Record" = some (.ref (He.ga K "Record")) := T.glo 145 rfl
theorem TX.cls_Record (T : TX K mg) : Cls K (He.ga K "Record") := T.cls 146 rfl
theorem TX.mk_Record (T : TX K mg) : Mk K (He.ga K "Record") (He.ma K (He.ga K "Record") "__init__") := T.mkr 147 rfl
theorem TX.no_Record_many (T : TX K mg) : NoAttr K (He.ga K "Record") "many" := T.noat 148 rfl
theorem TX.no_Record_calls (T : TX K mg) : NoAttr K (He.ga K "Record") "calls" := T.noat 149 rfl
theorem TX.g_TextReader (T : TX K mg) : mg "TextReader" = some (.ref (He.ga K "TextReader")) := T.glo 150 rfl
theorem TX.cls_TextReader (T : TX K mg) : Cls K (He.ga K "TextReader") := T.cls 151 rfl
theorem TX.mk_TextReader (T : TX K mg) : Mk K (He.ga K "TextReader") (He.ma K (He.ga K "TextReader") "__init__") := T.mkr 152 rfl
theorem TX.no_TextReader_lines_told (T : TX K mg) : NoAttr K (He.ga K "TextReader") "lines_told" := T.noat 153 rfl
theorem TX.no_TextReader_at (T : TX K mg) : NoAttr K (He.ga K "TextReader") "at" := T.noat 154 rfl
theorem TX.me_Play_eqx (T : TX K mg) : Meth K (He.ga K "Play") "__eq__" (He.ma K (He.ga K "Play") "__eq__") := T.meth 155 rfl
theorem TX.me_Record_eqx (T : TX K mg) : Meth K (He.ga K "Record") "__eq__" (He.ma K (He.ga K "Record") "__eq__") := T.meth 156 rfl
theorem TX.me_TextReader_is_more (T : TX K mg) : Meth K (He.ga K "TextReader") "is_more" (He.ma K (He.ga K "TextReader") "is_more") := T.meth 157 rfl
theorem TX.me_TextReader_next_words (T : TX K mg) : Meth K (He.ga K "TextReader") "next_words" (He.ma K (He.ga K "TextReader") "next_words") := T.meth 158 rfl
theorem TX.me_TextReader_take (T : TX K mg) : Meth K (He.ga K "TextReader") "take" (He.ma K (He.ga K "TextReader") "take") := T.meth 159 rfl
theorem TX.me_TextReader_take_behind (T : TX K mg) : Meth K (He.ga K "TextReader") "take_behind" (He.ma K (He.ga K "TextReader") "take_behind") := T.meth 160 rfl
theorem TX.me_TextReader_take_kind (T : TX K mg) : Meth K (He.ga K "TextReader") "take_kind" (He.ma K (He.ga K "TextReader") "take_kind") := T.meth 161 rfl
theorem TX.me_TextReader_take_number (T : TX K mg) : Meth K (He.ga K "TextReader") "take_number" (He.ma K (He.ga K "TextReader") "take_number") := T.meth 162 rfl
theorem TX.me_TextReader_take_hand (T : TX K mg) : Meth K (He.ga K "TextReader") "take_hand" (He.ma K (He.ga K "TextReader") "take_hand") := T.meth 163 rfl
theorem TX.me_TextReader_finish (T : TX K mg) : Meth K (He.ga K "TextReader") "finish" (He.ma K (He.ga K "TextReader") "finish") := T.meth 164 rfl
theorem TX.t_MANNERS (T : TX K mg) (H : Hp) : SqT K H (He.ga K "MANNERS") [V.str "sweep", V.str "twice", V.str "borrow"] := He.tupB_ok (x := "MANNERS") (vs := [.str "sweep", .str "twice", .str "borrow"]) (T.more 0 rfl) H
theorem TX.t_KINDS (T : TX K mg) (H : Hp) : SqT K H (He.ga K "KINDS") [V.str "sweep", V.str "twice", V.str "borrow", V.str "levels", V.str "names", V.str "near", V.str "chain"] := He.tupB_ok (x := "KINDS") (vs := [.str "sweep", .str "twice", .str "borrow", .str "levels", .str "names", .str "near", .str "chain"]) (T.more 1 rfl) H
theorem TX.t_FIRST_CELL (T : TX K mg) (H : Hp) : SqT K H (He.ga K "FIRST_CELL") [V.int 0, V.int 0, V.non] := He.tupB_ok (x := "FIRST_CELL") (vs := [.int 0, .int 0, .non]) (T.more 2 rfl) H
theorem TX.ins_Play (T : TX K mg) : C8.InsC K (He.ga K "Play") := insB_ok T.cls_Play (T.more 3 rfl)
theorem TX.ins_Record (T : TX K mg) : C8.InsC K (He.ga K "Record") := insB_ok T.cls_Record (T.more 4 rfl)
theorem TX.d_is_integer (T : TX K mg) : DefAt K mg "is_integer" (top 10) := ⟨T.def_ 0 dr_is_integer rfl, T.glo 0 rfl⟩
theorem TX.d_is_within (T : TX K mg) : DefAt K mg "is_within" (top 11) := ⟨T.def_ 1 dr_is_within rfl, T.glo 1 rfl⟩
theorem TX.d_is_below (T : TX K mg) : DefAt K mg "is_below" (top 12) := ⟨T.def_ 2 dr_is_below rfl, T.glo 2 rfl⟩
theorem TX.d_is_sized (T : TX K mg) : DefAt K mg "is_sized" (top 13) := ⟨T.def_ 3 dr_is_sized rfl, T.glo 3 rfl⟩
theorem TX.d_is_pair (T : TX K mg) : DefAt K mg "is_pair" (top 14) := ⟨T.def_ 4 dr_is_pair rfl, T.glo 4 rfl⟩
theorem TX.d_check_within (T : TX K mg) : DefAt K mg "check_within" (top 15) := ⟨T.def_ 5 dr_check_within rfl, T.glo 5 rfl⟩
theorem TX.d_replaced (T : TX K mg) : DefAt K mg "replaced" (top 16) := ⟨T.def_ 6 dr_replaced rfl, T.glo 6 rfl⟩
theorem TX.d_is_deed (T : TX K mg) : DefAt K mg "is_deed" (top 33) := ⟨T.def_ 7 dr_is_deed rfl, T.glo 7 rfl⟩
theorem TX.d_is_script (T : TX K mg) : DefAt K mg "is_script" (top 34) := ⟨T.def_ 8 dr_is_script rfl, T.glo 8 rfl⟩
theorem TX.d_is_value (T : TX K mg) : DefAt K mg "is_value" (top 35) := ⟨T.def_ 9 dr_is_value rfl, T.glo 9 rfl⟩
theorem TX.d_is_near_value (T : TX K mg) : DefAt K mg "is_near_value" (top 36) := ⟨T.def_ 10 dr_is_near_value rfl, T.glo 10 rfl⟩
theorem TX.d_is_lot (T : TX K mg) : DefAt K mg "is_lot" (top 37) := ⟨T.def_ 11 dr_is_lot rfl, T.glo 11 rfl⟩
theorem TX.d_is_row_of (T : TX K mg) : DefAt K mg "is_row_of" (top 38) := ⟨T.def_ 12 dr_is_row_of rfl, T.glo 12 rfl⟩
theorem TX.d_are_inputs (T : TX K mg) : DefAt K mg "are_inputs" (top 39) := ⟨T.def_ 13 dr_are_inputs rfl, T.glo 13 rfl⟩
theorem TX.d_is_hand (T : TX K mg) : DefAt K mg "is_hand" (top 41) := ⟨T.def_ 14 dr_is_hand rfl, T.glo 14 rfl⟩
theorem TX.d_check_hand (T : TX K mg) : DefAt K mg "check_hand" (top 42) := ⟨T.def_ 15 dr_check_hand rfl, T.glo 15 rfl⟩
theorem TX.d_is_number (T : TX K mg) : DefAt K mg "is_number" (top 48) := ⟨T.def_ 16 dr_is_number rfl, T.glo 16 rfl⟩
theorem TX.d_is_picture (T : TX K mg) : DefAt K mg "is_picture" (top 49) := ⟨T.def_ 17 dr_is_picture rfl, T.glo 17 rfl⟩
theorem TX.d_is_call (T : TX K mg) : DefAt K mg "is_call" (top 50) := ⟨T.def_ 18 dr_is_call rfl, T.glo 18 rfl⟩
theorem TX.d_has_like (T : TX K mg) : DefAt K mg "has_like" (top 51) := ⟨T.def_ 19 dr_has_like rfl, T.glo 19 rfl⟩
theorem TX.d_moments_of (T : TX K mg) : DefAt K mg "moments_of" (top 52) := ⟨T.def_ 20 dr_moments_of rfl, T.glo 20 rfl⟩
theorem TX.d_are_hands_clear (T : TX K mg) : DefAt K mg "are_hands_clear" (top 53) := ⟨T.def_ 21 dr_are_hands_clear rfl, T.glo 21 rfl⟩
theorem TX.d_number_in (T : TX K mg) : DefAt K mg "number_in" (top 68) := ⟨T.def_ 22 dr_number_in rfl, T.glo 22 rfl⟩
theorem TX.d_integer_in (T : TX K mg) : DefAt K mg "integer_in" (top 69) := ⟨T.def_ 23 dr_integer_in rfl, T.glo 23 rfl⟩
theorem TX.d_numbers_in (T : TX K mg) : DefAt K mg "numbers_in" (top 70) := ⟨T.def_ 24 dr_numbers_in rfl, T.glo 24 rfl⟩
theorem TX.d_line_of (T : TX K mg) : DefAt K mg "line_of" (top 71) := ⟨T.def_ 25 dr_line_of rfl, T.glo 25 rfl⟩
theorem TX.d_closed_rows (T : TX K mg) : DefAt K mg "closed_rows" (top 72) := ⟨T.def_ 26 dr_closed_rows rfl, T.glo 26 rfl⟩
theorem TX.d_deed_words (T : TX K mg) : DefAt K mg "deed_words" (top 73) := ⟨T.def_ 27 dr_deed_words rfl, T.glo 27 rfl⟩
theorem TX.d_hand_line (T : TX K mg) : DefAt K mg "hand_line" (top 74) := ⟨T.def_ 28 dr_hand_line rfl, T.glo 28 rfl⟩
theorem TX.d_play_text (T : TX K mg) : DefAt K mg "play_text" (top 75) := ⟨T.def_ 29 dr_play_text rfl, T.glo 29 rfl⟩
theorem TX.d_weaving_text (T : TX K mg) : DefAt K mg "weaving_text" (top 76) := ⟨T.def_ 30 dr_weaving_text rfl, T.glo 30 rfl⟩
theorem TX.d_told_word (T : TX K mg) : DefAt K mg "told_word" (top 77) := ⟨T.def_ 31 dr_told_word rfl, T.glo 31 rfl⟩
theorem TX.d_call_line (T : TX K mg) : DefAt K mg "call_line" (top 78) := ⟨T.def_ 32 dr_call_line rfl, T.glo 32 rfl⟩
theorem TX.d_record_text (T : TX K mg) : DefAt K mg "record_text" (top 79) := ⟨T.def_ 33 dr_record_text rfl, T.glo 33 rfl⟩
theorem TX.d_read_script (T : TX K mg) : DefAt K mg "read_script" (top 80) := ⟨T.def_ 34 dr_read_script rfl, T.glo 34 rfl⟩
theorem TX.d_read_input (T : TX K mg) : DefAt K mg "read_input" (top 81) := ⟨T.def_ 35 dr_read_input rfl, T.glo 35 rfl⟩
theorem TX.d_pair_in (T : TX K mg) : DefAt K mg "pair_in" (top 82) := ⟨T.def_ 36 dr_pair_in rfl, T.glo 36 rfl⟩
theorem TX.d_read_call (T : TX K mg) : DefAt K mg "read_call" (top 83) := ⟨T.def_ 37 dr_read_call rfl, T.glo 37 rfl⟩
theorem TX.d_read_play (T : TX K mg) : DefAt K mg "read_play" (top 85) := ⟨T.def_ 38 dr_read_play rfl, T.glo 38 rfl⟩
theorem TX.d_read_weaving (T : TX K mg) : DefAt K mg "read_weaving" (top 86) := ⟨T.def_ 39 dr_read_weaving rfl, T.glo 39 rfl⟩
theorem TX.d_read_record (T : TX K mg) : DefAt K mg "read_record" (top 87) := ⟨T.def_ 40 dr_read_record rfl, T.glo 40 rfl⟩
theorem TX.d_level_cell (T : TX K mg) : DefAt K mg "level_cell" (top 90) := ⟨T.def_ 41 dr_level_cell rfl, T.glo 41 rfl⟩
theorem TX.d_level_state (T : TX K mg) : DefAt K mg "level_state" (top 91) := ⟨T.def_ 42 dr_level_state rfl, T.glo 42 rfl⟩
theorem TX.d_level_next (T : TX K mg) : DefAt K mg "level_next" (top 92) := ⟨T.def_ 43 dr_level_next rfl, T.glo 43 rfl⟩
theorem TX.d_level_after (T : TX K mg) : DefAt K mg "level_after" (top 93) := ⟨T.def_ 44 dr_level_after rfl, T.glo 44 rfl⟩
theorem TX.d_fresh (T : TX K mg) : DefAt K mg "fresh" (top 97) := ⟨T.def_ 45 dr_fresh rfl, T.glo 45 rfl⟩
theorem TX.d_manner_cell (T : TX K mg) : DefAt K mg "manner_cell" (top 98) := ⟨T.def_ 46 dr_manner_cell rfl, T.glo 46 rfl⟩
theorem TX.d_manner_state (T : TX K mg) : DefAt K mg "manner_state" (top 99) := ⟨T.def_ 47 dr_manner_state rfl, T.glo 47 rfl⟩
theorem TX.d_is_put_next (T : TX K mg) : DefAt K mg "is_put_next" (top 100) := ⟨T.def_ 48 dr_is_put_next rfl, T.glo 48 rfl⟩
theorem TX.d_manner_next (T : TX K mg) : DefAt K mg "manner_next" (top 101) := ⟨T.def_ 49 dr_manner_next rfl, T.glo 49 rfl⟩
theorem TX.d_numbers_of (T : TX K mg) : DefAt K mg "numbers_of" (top 102) := ⟨T.def_ 50 dr_numbers_of rfl, T.glo 50 rfl⟩
theorem TX.d_picture_of (T : TX K mg) : DefAt K mg "picture_of" (top 103) := ⟨T.def_ 51 dr_picture_of rfl, T.glo 51 rfl⟩
theorem TX.d_lent (T : TX K mg) : DefAt K mg "lent" (top 104) := ⟨T.def_ 52 dr_lent rfl, T.glo 52 rfl⟩
theorem TX.d_result_of (T : TX K mg) : DefAt K mg "result_of" (top 105) := ⟨T.def_ 53 dr_result_of rfl, T.glo 53 rfl⟩
theorem TX.d_after_sweep (T : TX K mg) : DefAt K mg "after_sweep" (top 106) := ⟨T.def_ 54 dr_after_sweep rfl, T.glo 54 rfl⟩
theorem TX.d_manner_after (T : TX K mg) : DefAt K mg "manner_after" (top 107) := ⟨T.def_ 55 dr_manner_after rfl, T.glo 55 rfl⟩
theorem TX.d_top_cell (T : TX K mg) : DefAt K mg "top_cell" (top 109) := ⟨T.def_ 56 dr_top_cell rfl, T.glo 56 rfl⟩
theorem TX.d_top_state (T : TX K mg) : DefAt K mg "top_state" (top 110) := ⟨T.def_ 57 dr_top_state rfl, T.glo 57 rfl⟩
theorem TX.d_top_next (T : TX K mg) : DefAt K mg "top_next" (top 111) := ⟨T.def_ 58 dr_top_next rfl, T.glo 58 rfl⟩
theorem TX.d_wish_by (T : TX K mg) : DefAt K mg "wish_by" (top 112) := ⟨T.def_ 59 dr_wish_by rfl, T.glo 59 rfl⟩
theorem TX.d_after_names (T : TX K mg) : DefAt K mg "after_names" (top 113) := ⟨T.def_ 60 dr_after_names rfl, T.glo 60 rfl⟩
theorem TX.d_after_near (T : TX K mg) : DefAt K mg "after_near" (top 114) := ⟨T.def_ 61 dr_after_near rfl, T.glo 61 rfl⟩
theorem TX.d_after_chain (T : TX K mg) : DefAt K mg "after_chain" (top 115) := ⟨T.def_ 62 dr_after_chain rfl, T.glo 62 rfl⟩
theorem TX.d_top_after (T : TX K mg) : DefAt K mg "top_after" (top 116) := ⟨T.def_ 63 dr_top_after rfl, T.glo 63 rfl⟩
theorem TX.d_cell_of (T : TX K mg) : DefAt K mg "cell_of" (top 118) := ⟨T.def_ 64 dr_cell_of rfl, T.glo 64 rfl⟩
theorem TX.d_state_of (T : TX K mg) : DefAt K mg "state_of" (top 119) := ⟨T.def_ 65 dr_state_of rfl, T.glo 65 rfl⟩
theorem TX.d_next_of (T : TX K mg) : DefAt K mg "next_of" (top 120) := ⟨T.def_ 66 dr_next_of rfl, T.glo 66 rfl⟩
theorem TX.d_after_of (T : TX K mg) : DefAt K mg "after_of" (top 121) := ⟨T.def_ 67 dr_after_of rfl, T.glo 67 rfl⟩
theorem TX.d_begun (T : TX K mg) : DefAt K mg "begun" (top 122) := ⟨T.def_ 68 dr_begun rfl, T.glo 68 rfl⟩
theorem TX.d_first_standing (T : TX K mg) : DefAt K mg "first_standing" (top 123) := ⟨T.def_ 69 dr_first_standing rfl, T.glo 69 rfl⟩
theorem TX.d_movers (T : TX K mg) : DefAt K mg "movers" (top 124) := ⟨T.def_ 70 dr_movers rfl, T.glo 70 rfl⟩
theorem TX.d_can_step (T : TX K mg) : DefAt K mg "can_step" (top 125) := ⟨T.def_ 71 dr_can_step rfl, T.glo 71 rfl⟩
theorem TX.d_after_step (T : TX K mg) : DefAt K mg "after_step" (top 126) := ⟨T.def_ 72 dr_after_step rfl, T.glo 72 rfl⟩
theorem TX.d_check_step (T : TX K mg) : DefAt K mg "check_step" (top 127) := ⟨T.def_ 73 dr_check_step rfl, T.glo 73 rfl⟩
theorem TX.d_step (T : TX K mg) : DefAt K mg "step" (top 128) := ⟨T.def_ 74 dr_step rfl, T.glo 74 rfl⟩
theorem TX.d_law_hand (T : TX K mg) : DefAt K mg "_law_hand" (top 130) := ⟨T.def_ 75 dr_law_hand rfl, T.glo 75 rfl⟩
theorem TX.d_law_draw (T : TX K mg) : DefAt K mg "_law_draw" (top 131) := ⟨T.def_ 76 dr_law_draw rfl, T.glo 76 rfl⟩
theorem TX.d_law_is (T : TX K mg) : DefAt K mg "_law_is" (top 132) := ⟨T.def_ 77 dr_law_is rfl, T.glo 77 rfl⟩
theorem TX.d_law_scripts (T : TX K mg) : DefAt K mg "_law_scripts" (top 133) := ⟨T.def_ 78 dr_law_scripts rfl, T.glo 78 rfl⟩
theorem TX.d_law_inputs (T : TX K mg) : DefAt K mg "_law_inputs" (top 134) := ⟨T.def_ 79 dr_law_inputs rfl, T.glo 79 rfl⟩
theorem TX.d_law_weaving (T : TX K mg) : DefAt K mg "_law_weaving" (top 135) := ⟨T.def_ 80 dr_law_weaving rfl, T.glo 80 rfl⟩
theorem TX.d_law_closed (T : TX K mg) : DefAt K mg "_law_closed" (top 136) := ⟨T.def_ 81 dr_law_closed rfl, T.glo 81 rfl⟩
theorem TX.d_law_play_lines (T : TX K mg) : DefAt K mg "_law_play_lines" (top 137) := ⟨T.def_ 82 dr_law_play_lines rfl, T.glo 82 rfl⟩
theorem TX.d_law_dash (T : TX K mg) : DefAt K mg "_law_dash" (top 138) := ⟨T.def_ 83 dr_law_dash rfl, T.glo 83 rfl⟩
theorem TX.d_law_record_lines (T : TX K mg) : DefAt K mg "_law_record_lines" (top 139) := ⟨T.def_ 84 dr_law_record_lines rfl, T.glo 84 rfl⟩
theorem TX.d_law_calls (T : TX K mg) : DefAt K mg "_law_calls" (top 140) := ⟨T.def_ 85 dr_law_calls rfl, T.glo 85 rfl⟩
theorem TX.d_law_unlike (T : TX K mg) : DefAt K mg "_law_unlike" (top 141) := ⟨T.def_ 86 dr_law_unlike rfl, T.glo 86 rfl⟩
theorem TX.d_law_great (T : TX K mg) : DefAt K mg "_law_great" (top 142) := ⟨T.def_ 87 dr_law_great rfl, T.glo 87 rfl⟩
theorem TX.d_law (T : TX K mg) : DefAt K mg "law" (top 143) := ⟨T.def_ 88 dr_law rfl, T.glo 88 rfl⟩
theorem TX.d_Play_initx (T : TX K mg) : ∃ fd, FunD K "__init__" "Play.__init__" (defArgs (inClass (top 40) 0)) (defBody (inClass (top 40) 0)) (defScope (inClass (top 40) 0)) [] [] (He.ma K (He.ga K "Play") "__init__") fd := T.def_ 89 dr_Play_initx rfl
theorem TX.d_Play_eqx (T : TX K mg) : ∃ fd, FunD K "__eq__" "Play.__eq__" (defArgs (inClass (top 40) 1)) (defBody (inClass (top 40) 1)) (defScope (inClass (top 40) 1)) [] [] (He.ma K (He.ga K "Play") "__eq__") fd := T.def_ 90 dr_Play_eqx rfl
theorem TX.d_Record_initx (T : TX K mg) : ∃ fd, FunD K "__init__" "Record.__init__" (defArgs (inClass (top 54) 0)) (defBody (inClass (top 54) 0)) (defScope (inClass (top 54) 0)) [] [] (He.ma K (He.ga K "Record") "__init__") fd := T.def_ 91 dr_Record_initx rfl
theorem TX.d_Record_eqx (T : TX K mg) : ∃ fd, FunD K "__eq__" "Record.__eq__" (defArgs (inClass (top 54) 1)) (defBody (inClass (top 54) 1)) (defScope (inClass (top 54) 1)) [] [] (He.ma K (He.ga K "Record") "__eq__") fd := T.def_ 92 dr_Record_eqx rfl
theorem TX.d_TextReader_initx (T : TX K mg) : ∃ fd, FunD K "__init__" "TextReader.__init__" (defArgs (inClass (top 84) 0)) (defBody (inClass (top 84) 0)) (defScope (inClass (top 84) 0)) [] [] (He.ma K (He.ga K "TextReader") "__init__") fd := T.def_ 93 dr_TextReader_initx rfl
theorem TX.d_TextReader_is_more (T : TX K mg) : ∃ fd, FunD K "is_more" "TextReader.is_more" (defArgs (inClass (top 84) 1)) (defBody (inClass (top 84) 1)) (defScope (inClass (top 84) 1)) [] [] (He.ma K (He.ga K "TextReader") "is_more") fd := T.def_ 94 dr_TextReader_is_more rfl
theorem TX.d_TextReader_next_words (T : TX K mg) : ∃ fd, FunD K "next_words" "TextReader.next_words" (defArgs (inClass (top 84) 2)) (defBody (inClass (top 84) 2)) (defScope (inClass (top 84) 2)) [] [] (He.ma K (He.ga K "TextReader") "next_words") fd := T.def_ 95 dr_TextReader_next_words rfl
theorem TX.d_TextReader_take (T : TX K mg) : ∃ fd, FunD K "take" "TextReader.take" (defArgs (inClass (top 84) 3)) (defBody (inClass (top 84) 3)) (defScope (inClass (top 84) 3)) [] [] (He.ma K (He.ga K "TextReader") "take") fd := T.def_ 96 dr_TextReader_take rfl
theorem TX.d_TextReader_take_behind (T : TX K mg) : ∃ fd, FunD K "take_behind" "TextReader.take_behind" (defArgs (inClass (top 84) 4)) (defBody (inClass (top 84) 4)) (defScope (inClass (top 84) 4)) [] [] (He.ma K (He.ga K "TextReader") "take_behind") fd := T.def_ 97 dr_TextReader_take_behind rfl
theorem TX.d_TextReader_take_kind (T : TX K mg) : ∃ fd, FunD K "take_kind" "TextReader.take_kind" (defArgs (inClass (top 84) 5)) (defBody (inClass (top 84) 5)) (defScope (inClass (top 84) 5)) [] [] (He.ma K (He.ga K "TextReader") "take_kind") fd := T.def_ 98 dr_TextReader_take_kind rfl
theorem TX.d_TextReader_take_number (T : TX K mg) : ∃ fd, FunD K "take_number" "TextReader.take_number" (defArgs (inClass (top 84) 6)) (defBody (inClass (top 84) 6)) (defScope (inClass (top 84) 6)) [] [] (He.ma K (He.ga K "TextReader") "take_number") fd := T.def_ 99 dr_TextReader_take_number rfl
theorem TX.d_TextReader_take_hand (T : TX K mg) : ∃ fd, FunD K "take_hand" "TextReader.take_hand" (defArgs (inClass (top 84) 7)) (defBody (inClass (top 84) 7)) (defScope (inClass (top 84) 7)) [] [] (He.ma K (He.ga K "TextReader") "take_hand") fd := T.def_ 100 dr_TextReader_take_hand rfl
theorem TX.d_TextReader_finish (T : TX K mg) : ∃ fd, FunD K "finish" "TextReader.finish" (defArgs (inClass (top 84) 8)) (defBody (inClass (top 84) 8)) (defScope (inClass (top 84) 8)) [] [] (He.ma K (He.ga K "TextReader") "finish") fd := T.def_ 101 dr_TextReader_finish rfl
end
end K32
/-! Layer D: data in slots. A slot holds data (None, flags, ints, texts, tuples of these), a list of data, a list of the def's own (it may grow), an instance with data in its attributes, or a value as it is.
EvS: an expression gives a slot's worth, all that stood stands (but the law's hand, where there is one); SX: a statement brings slots to slots. -/
namespace K32
open PySem PySem.Spec PyProof.Rows L2
/-! ### data at a heap -/
mutual
inductive DT (K : PySem.W.Frag) (H : Hp) : V → PyData → Prop
  | non : DT K H .non .none
  | bl (b : Bool) : DT K H (.bl b) (.bool b)
  | int (i : Int) : DT K H (.int i) (.int i)
  | str (x : Str) : DT K H (.str x) (.str x)
  | tup {a : Addr} {xs : List V} {ds : List PyData} : SqT K H a xs → DTs K H xs ds → DT K H (.ref a) (.tuple ds)
inductive DTs (K : PySem.W.Frag) (H : Hp) : List V → List PyData → Prop
  | nil : DTs K H [] []
  | cons {v : V} {vs : List V} {d : PyData} {ds : List PyData} : DT K H v d → DTs K H vs ds → DTs K H (v :: vs) (d :: ds)
end
section
variable {K : PySem.W.Frag} {H H' : Hp}
mutual
theorem DT.mono (hT : ∀ a xs, SqT K H a xs → SqT K H' a xs) : ∀ (d : PyData) (v : V), DT K H v d → DT K H' v d
  | .none, _, .non => .non
  | .bool b, _, .bl _ => .bl b
  | .int i, _, .int _ => .int i
  | .str x, _, .str _ => .str x
  | .tuple ds, _, .tup s h => .tup (hT _ _ s) (DTs.mono hT ds _ h)
theorem DTs.mono (hT : ∀ a xs, SqT K H a xs → SqT K H' a xs) : ∀ (ds : List PyData) (vs : List V), DTs K H vs ds → DTs K H' vs ds
  | [], _, .nil => .nil
  | d :: ds, _, .cons h hs => .cons (DT.mono hT d _ h) (DTs.mono hT ds _ hs)
end
mutual
theorem DT.dp : ∀ (d : PyData) (v : V), DT K H v d → Dp K H v d
  | .none, _, .non => .non
  | .bool b, _, .bl _ => .bl b
  | .int i, _, .int _ => .int i
  | .str x, _, .str _ => .str x
  | .tuple ds, _, .tup s h => .tup s (DTs.dp ds _ h)
theorem DTs.dp : ∀ (ds : List PyData) (vs : List V), DTs K H vs ds → DpAll K H vs ds
  | [], _, .nil => .nil
  | d :: ds, _, .cons h hs => .cons (DT.dp d _ h) (DTs.dp ds _ hs)
end
theorem DTs.length : ∀ {vs : List V} {ds : List PyData}, DTs K H vs ds → vs.length = ds.length
  | _, _, .nil => rfl
  | _, _, .cons _ h => congrArg (· + 1) (DTs.length h)
theorem DTs.get : ∀ {vs : List V} {ds : List PyData} {i : Nat} {d : PyData}, DTs K H vs ds → ds[i]? = some d → ∃ v, vs[i]? = some v ∧ DT K H v d
  | _, _, _, _, .nil, e => by simp at e
  | _, _, 0, _, .cons h _, e => by simp at e; subst e; exact ⟨_, rfl, h⟩
  | _, _, i + 1, d, .cons _ t, e => by
    obtain ⟨v, h1, h2⟩ := DTs.get (i := i) (d := d) t (by simpa using e)
    exact ⟨v, by simpa using h1, h2⟩
theorem DTs.getV : ∀ {vs : List V} {ds : List PyData} {i : Nat} {v : V}, DTs K H vs ds → vs[i]? = some v → ∃ d, ds[i]? = some d ∧ DT K H v d
  | _, _, _, _, .nil, e => by simp at e
  | _, _, 0, _, .cons h _, e => by simp at e; subst e; exact ⟨_, rfl, h⟩
  | _, _, i + 1, v, .cons _ t, e => by
    obtain ⟨d, h1, h2⟩ := DTs.getV (i := i) (v := v) t (by simpa using e)
    exact ⟨d, by simpa using h1, h2⟩
theorem DTs.append : ∀ {vs ws : List V} {ds es : List PyData}, DTs K H vs ds → DTs K H ws es → DTs K H (vs ++ ws) (ds ++ es)
  | _, _, _, _, .nil, s => s
  | _, _, _, _, .cons r t, s => .cons r (DTs.append t s)
theorem DTs.take : ∀ {vs : List V} {ds : List PyData} (n : Nat), DTs K H vs ds → DTs K H (vs.take n) (ds.take n)
  | _, _, 0, _ => .nil
  | _, _, _ + 1, .nil => .nil
  | _, _, n + 1, .cons r t => .cons r (DTs.take n t)
theorem DTs.drop : ∀ {vs : List V} {ds : List PyData} (n : Nat), DTs K H vs ds → DTs K H (vs.drop n) (ds.drop n)
  | _, _, 0, r => r
  | _, _, _ + 1, .nil => .nil
  | _, _, n + 1, .cons _ t => DTs.drop n t
theorem DTs.reverse : ∀ {vs : List V} {ds : List PyData}, DTs K H vs ds → DTs K H vs.reverse ds.reverse
  | _, _, .nil => .nil
  | _, _, .cons r t => by
    rw [List.reverse_cons, List.reverse_cons]
    exact DTs.append (DTs.reverse t) (.cons r .nil)
theorem DTs.eraseIdx : ∀ {vs : List V} {ds : List PyData} (i : Nat), DTs K H vs ds → DTs K H (vs.eraseIdx i) (ds.eraseIdx i)
  | _, _, _, .nil => .nil
  | _, _, 0, .cons _ t => t
  | _, _, i + 1, .cons r t => .cons r (DTs.eraseIdx i t)
/-- the data of a flat value -/
theorem DT.int_inv {v : V} {i : Int} (h : DT K H v (.int i)) : v = .int i := by cases h; rfl
theorem DT.str_inv {v : V} {x : Str} (h : DT K H v (.str x)) : v = .str x := by cases h; rfl
theorem DT.bl_inv {v : V} {b : Bool} (h : DT K H v (.bool b)) : v = .bl b := by cases h; rfl
theorem DT.non_inv {v : V} (h : DT K H v .none) : v = .non := by cases h; rfl
theorem DT.tup_inv {v : V} {ds : List PyData} (h : DT K H v (.tuple ds)) : ∃ a xs, v = .ref a ∧ SqT K H a xs ∧ DTs K H xs ds := by
  cases h with
  | tup s h => exact ⟨_, _, rfl, s, h⟩
theorem DTs.ints : ∀ {ns : List Int} {vs : List V}, DTs K H vs (ns.map PyData.int) → vs = ns.map V.int
  | [], _, .nil => rfl
  | n :: ns, _, .cons h t => by rw [h.int_inv, DTs.ints t]; rfl
theorem DTs.of_ints : ∀ (ns : List Int), DTs K H (ns.map V.int) (ns.map PyData.int)
  | [] => .nil
  | n :: ns => .cons (.int n) (DTs.of_ints ns)
theorem DTs.strs : ∀ {ns : List Str} {vs : List V}, DTs K H vs (ns.map PyData.str) → vs = ns.map V.str
  | [], _, .nil => rfl
  | n :: ns, _, .cons h t => by rw [h.str_inv, DTs.strs t]; rfl
theorem DTs.of_strs : ∀ (ns : List Str), DTs K H (ns.map V.str) (ns.map PyData.str)
  | [] => .nil
  | n :: ns => .cons (.str n) (DTs.of_strs ns)
theorem DTs.bls : ∀ {ns : List Bool} {vs : List V}, DTs K H vs (ns.map PyData.bool) → vs = ns.map V.bl
  | [], _, .nil => rfl
  | n :: ns, _, .cons h t => by rw [h.bl_inv, DTs.bls t]; rfl
end
/-- flat data -/
def flatD : PyData → Bool
  | .none => true
  | .bool _ => true
  | .int _ => true
  | .str _ => true
  | _ => false
def vOf : PyData → V
  | .bool b => .bl b
  | .int i => .int i
  | .str x => .str x
  | _ => .non
theorem DT.flat {K : PySem.W.Frag} {H : Hp} {v : V} {d : PyData} (h : DT K H v d) (f : flatD d = true) : v = vOf d := by
  cases h <;> first | rfl | cases f
theorem DTs.flat {K : PySem.W.Frag} {H : Hp} : ∀ {vs : List V} {ds : List PyData}, DTs K H vs ds → ds.all flatD = true → vs = ds.map vOf
  | _, _, .nil, _ => rfl
  | _, _, .cons h t, f => by
    rw [List.all_cons, Bool.and_eq_true] at f
    rw [h.flat f.1, DTs.flat t f.2]; rfl
theorem flatV_vOf {d : PyData} (f : flatD d = true) : flatV (vOf d) = true := by
  cases d <;> first | rfl | cases f
theorem all_flatV {ds : List PyData} (f : ds.all flatD = true) : (ds.map vOf).all flatV = true := by
  rw [List.all_map]
  rw [List.all_eq_true] at f ⊢
  exact fun d hd => flatV_vOf (f d hd)
theorem DT.of_flat {K : PySem.W.Frag} {H : Hp} {d : PyData} (f : flatD d = true) : DT K H (vOf d) d := by
  cases d <;> first | exact .non | exact .bl _ | exact .int _ | exact .str _ | cases f
/-! ### slots -/
inductive Sv where
  | dat (d : PyData) | lst (ds : List PyData) | own (ds : List PyData) | val (v : V) | ins (C : Addr) (fs : List (Str × PyData)) | obj (p : Addr) (o : HO)
abbrev Dn := List (Option Sv)
def Sv.isL : Sv → Bool
  | .lst _ => true
  | .own _ => true
  | _ => false
/-- a dict or an instance: never a list, a tuple -/
def softO : HO → Bool
  | .dK _ => true
  | .ins _ _ _ => true
  | _ => false
def Sv.calm : Sv → Bool
  | .ins _ _ => false
  | .obj _ _ => false
  | _ => true
abbrev Hand := Option (Addr × Addr)
def FsOk (K : PySem.W.Frag) (H : Hp) : List (Str × V) → List (Str × PyData) → Prop := Paired fun g f => g.1 = f.1 ∧ DT K H g.2 f.2
def SvOk (K : PySem.W.Frag) (hd : Hand) (H : Hp) (v : V) : Sv → Prop
  | .dat d => DT K H v d
  | .lst ds => ∃ a xs, v = .ref a ∧ (∀ p q, hd = some (p, q) → a ≠ p) ∧ H a = some (.lst xs) ∧ DTs K H xs ds
  | .own ds => ∃ a xs, v = .ref a ∧ (∀ p q, hd = some (p, q) → a ≠ p) ∧ H a = some (.lst xs) ∧ DTs K H xs ds
  | .val u => v = u
  | .ins C fs => ∃ a dx gs, v = .ref a ∧ H a = some (.ins C dx gs) ∧ FsOk K H gs fs
  | .obj p o => v = .ref p ∧ H p = some o ∧ softO o = true
/-- the law's hand: a list of five at p, its numbers at q -/
def HandAt (H : Hp) (p q : Addr) : Prop := (∃ a b c d : Int, H p = some (.lst [.ref q, .int a, .int b, .int c, .int d]) ∧ 0 ≤ a ∧ 0 ≤ b ∧ 0 ≤ c ∧ 0 ≤ d ∧ c < 2147483648) ∧ ∃ ns : List Int, H q = some (.lst (ns.map V.int)) ∧ ns.length ≤ 63
def Rel (hd : Hand) (H H' : Hp) : Prop := ∀ b o, (∀ p q, hd = some (p, q) → b ≠ p) → H b = some o → H' b = some o
def Hands (hd : Hand) (H : Hp) : Prop := ∀ p q, hd = some (p, q) → HandAt H p q
structure Bx where
  K : PySem.W.Frag
  hd : Hand
  H0 : Hp
  gh : List (V × Sv)
section
variable {K : PySem.W.Frag} {hd : Hand} {H H' H2 : Hp}
theorem Rel.refl : Rel hd H H := fun _ _ _ e => e
theorem Rel.trans (a : Rel hd H H') (b : Rel hd H' H2) : Rel hd H H2 := fun c o h e => b c o h (a c o h e)
theorem Rel.same (a : Same H H') : Rel hd H H' := fun c o _ e => a c o e
theorem Rel.new {p : Addr} {o : HO} (h : H p = none) : Rel hd H (upd H p o) := fun c u _ e => by rw [upd_ne (ne_of_none e h)]; exact e
theorem Rel.none_same (a : Rel none H H') : Same H H' := fun c o e => a c o (fun _ _ q => nomatch q) e
theorem Hands.of_none : Hands none H := fun _ _ q => nomatch q
theorem Hands.same (h : Hands hd H) (a : Same H H') : Hands hd H' := fun p q e => by
  obtain ⟨⟨x, y, z, u, h1, h2⟩, ns, h3, h4⟩ := h p q e
  exact ⟨⟨x, y, z, u, a _ _ h1, h2⟩, ns, a _ _ h3, h4⟩
theorem Hands.new {p : Addr} {o : HO} (h : Hands hd H) (hp : H p = none) : Hands hd (upd H p o) := h.same fun c u e => by rw [upd_ne (ne_of_none e hp)]; exact e
theorem Hands.no (h : Hands hd H) {p q : Addr} (e : hd = some (p, q)) : ∃ xs, H p = some (.lst xs) := by
  obtain ⟨⟨_, _, _, _, h1, _⟩, _⟩ := h p q e
  exact ⟨_, h1⟩
theorem sqT_rel (h : Hands hd H) (r : Rel hd H H') {a : Addr} {xs : List V} (s : SqT K H a xs) : SqT K H' a xs := by
  rcases s with (s | ⟨o, s⟩) | s
  · refine .inl (.inl (r _ _ (fun p q e z => ?_) s))
    obtain ⟨ys, h1⟩ := h.no e
    rw [← z, s] at h1; cases h1
  · refine .inl (.inr ⟨o, r _ _ (fun p q e z => ?_) s⟩)
    obtain ⟨ys, h1⟩ := h.no e
    rw [← z, s] at h1; cases h1
  · exact .inr s
theorem sqT_updL {l : Addr} {ys zs : List V} (hl : H l = some (.lst ys)) {a : Addr} {xs : List V} (s : SqT K H a xs) : SqT K (upd H l (.lst zs)) a xs := by
  rcases s with (s | ⟨o, s⟩) | s
  · exact .inl (.inl (by rw [upd_ne (ne_of s hl (by intro z; cases z))]; exact s))
  · exact .inl (.inr ⟨o, by rw [upd_ne (ne_of s hl (by intro z; cases z))]; exact s⟩)
  · exact .inr s
theorem FsOk.mono (hT : ∀ a xs, SqT K H a xs → SqT K H' a xs) {gs : List (Str × V)} {fs : List (Str × PyData)} (h : FsOk K H gs fs) : FsOk K H' gs fs :=
  Paired.mapP h fun _ _ z => ⟨z.1, DT.mono hT _ _ z.2⟩
theorem SvOk.mono (h : Hands hd H) (r : Rel hd H H') {v : V} {s : Sv} (o : SvOk K hd H v s) : SvOk K hd H' v s := by
  have hT : ∀ a xs, SqT K H a xs → SqT K H' a xs := fun _ _ => sqT_rel h r
  cases s with
  | dat d => exact DT.mono hT _ _ o
  | lst ds => obtain ⟨a, xs, e, n, q, t⟩ := o; exact ⟨a, xs, e, n, r _ _ n q, DTs.mono hT _ _ t⟩
  | own ds => obtain ⟨a, xs, e, n, q, t⟩ := o; exact ⟨a, xs, e, n, r _ _ n q, DTs.mono hT _ _ t⟩
  | val u => exact o
  | ins C fs =>
    obtain ⟨a, dx, gs, e, q, t⟩ := o
    refine ⟨a, dx, gs, e, r _ _ (fun p q' e' z => ?_) q, t.mono hT⟩
    obtain ⟨ys, h1⟩ := h.no e'
    rw [← z, q] at h1; cases h1
  | obj p o' =>
    obtain ⟨e, q, so⟩ := o
    refine ⟨e, r _ _ (fun p' q' e' z => ?_) q, so⟩
    obtain ⟨ys, h1⟩ := h.no e'
    rw [← z, q] at h1; cases h1; cases so
theorem SvOk.updL {l : Addr} {ys zs : List V} (hl : H l = some (.lst ys)) {v : V} {s : Sv} (o : SvOk K hd H v s) (hn : s.isL = true → v ≠ .ref l) : SvOk K hd (upd H l (.lst zs)) v s := by
  have hT : ∀ a xs, SqT K H a xs → SqT K (upd H l (.lst zs)) a xs := fun _ _ => sqT_updL hl
  cases s with
  | dat d => exact DT.mono hT _ _ o
  | lst ds =>
    obtain ⟨a, xs, e, n, q, t⟩ := o
    subst e
    have na : a ≠ l := fun z => hn rfl (congrArg V.ref z)
    exact ⟨a, xs, rfl, n, by rw [upd_ne na]; exact q, DTs.mono hT _ _ t⟩
  | own ds =>
    obtain ⟨a, xs, e, n, q, t⟩ := o
    subst e
    have na : a ≠ l := fun z => hn rfl (congrArg V.ref z)
    exact ⟨a, xs, rfl, n, by rw [upd_ne na]; exact q, DTs.mono hT _ _ t⟩
  | val u => exact o
  | ins C fs =>
    obtain ⟨a, dx, gs, e, q, t⟩ := o
    exact ⟨a, dx, gs, e, by rw [upd_ne (ne_of q hl (by intro z; cases z))]; exact q, t.mono hT⟩
  | obj p o' =>
    obtain ⟨e, q, so⟩ := o
    exact ⟨e, by rw [upd_ne (ne_of q hl (by intro z; cases z; cases so))]; exact q, so⟩
/-- seen without the hand -/
theorem SvOk.bare {v : V} {s : Sv} (o : SvOk K hd H v s) : SvOk K none H v s := by
  cases s with
  | dat d => exact o
  | lst ds => obtain ⟨a, xs, e, n, q, t⟩ := o; exact ⟨a, xs, e, fun _ _ z => (nomatch z), q, t⟩
  | own ds => obtain ⟨a, xs, e, n, q, t⟩ := o; exact ⟨a, xs, e, fun _ _ z => (nomatch z), q, t⟩
  | val u => exact o
  | ins C fs => exact o
  | obj p u => exact o
/-- a list slot's address -/
theorem SvOk.isL_at {v : V} {s : Sv} (o : SvOk K hd H v s) (h : s.isL = true) : ∃ a xs, v = .ref a ∧ H a = some (.lst xs) := by
  cases s with
  | lst ds => obtain ⟨a, xs, e, n, q, t⟩ := o; exact ⟨a, xs, e, q⟩
  | own ds => obtain ⟨a, xs, e, n, q, t⟩ := o; exact ⟨a, xs, e, q⟩
  | _ => cases h
end
theorem isL_calm {s : Sv} (h : s.isL = true) : s.calm = true := by cases s <;> first | rfl | cases h
structure StB (B : Bx) (H : Hp) (σ : L2.St) (δ : Dn) : Prop where
  rel : Rel B.hd B.H0 H
  h0 : Hands B.hd B.H0
  hh : Hands B.hd H
  len : σ.length = δ.length
  ok : ∀ (i : Nat) (s : Sv), δ[i]? = some (some s) → ∃ v, σ[i]? = some (some v) ∧ SvOk B.K B.hd H v s
  gh : ∀ (v : V) (s : Sv), (v, s) ∈ B.gh → s.calm = true → SvOk B.K B.hd H v s
  own : ∀ (i : Nat) (ds : List PyData) (a : Addr), δ[i]? = some (some (.own ds)) → σ[i]? = some (some (.ref a)) → B.H0 a = none ∧ (∀ (j : Nat) (s : Sv), j ≠ i → δ[j]? = some (some s) → σ[j]? = some (some (.ref a)) → s.isL = false) ∧ ∀ s : Sv, (V.ref a, s) ∈ B.gh → s.isL = false
def Bx.add (B : Bx) (γ : List (V × Sv)) : Bx := { B with gh := γ ++ B.gh }
section
variable {B : Bx} {H H' H1 : Hp} {σ : L2.St} {δ : Dn}
theorem StB.mono (st : StB B H σ δ) (r : Rel B.hd H H') (h : Hands B.hd H') : StB B H' σ δ :=
  ⟨st.rel.trans r, st.h0, h, st.len, fun i s e => let ⟨v, e1, o⟩ := st.ok i s e; ⟨v, e1, o.mono st.hh r⟩, fun v s m c => (st.gh v s m c).mono st.hh r, st.own⟩
theorem StB.drop {γ : List (V × Sv)} (st : StB (B.add γ) H σ δ) : StB B H σ δ :=
  ⟨st.rel, st.h0, st.hh, st.len, st.ok, fun v s m => st.gh v s (List.mem_append_right _ m), fun i ds a e1 e2 => let ⟨a1, a2, a3⟩ := st.own i ds a e1 e2; ⟨a1, a2, fun s m => a3 s (List.mem_append_right _ m)⟩⟩
theorem getSet {α : Type} {l : List α} {i j : Nat} {x y : α} (h : (l.set i x)[j]? = some y) : (j = i ∧ y = x) ∨ (j ≠ i ∧ l[j]? = some y) := by
  by_cases e : i = j
  · subst e
    rw [List.getElem?_set] at h
    simp only [if_true] at h
    split at h
    · exact .inl ⟨rfl, (Option.some.inj h).symm⟩
    · cases h
  · rw [List.getElem?_set_ne e] at h
    exact .inr ⟨fun q => e q.symm, h⟩
theorem getSet_eq {α : Type} {l : List α} {i : Nat} {x y : α} (h : l[i]? = some y) : (l.set i x)[i]? = some x := by
  have hi := (List.getElem?_eq_some_iff.mp h).1
  rw [List.getElem?_set, if_pos rfl, if_pos hi]
theorem set_get {α β : Type} {l : List α} {m : List β} {i : Nat} {x : α} {y z : β} (hl : l.length = m.length) (h : (m.set i y)[i]? = some z) : (l.set i x)[i]? = some x := by
  have hi := (List.getElem?_eq_some_iff.mp h).1
  rw [List.length_set] at hi
  rw [List.getElem?_set, if_pos rfl, if_pos (by omega)]
/-- a slot is stored: no list -/
theorem StB.set (st : StB B H σ δ) (i : Nat) {v : V} {s : Sv} (o : SvOk B.K B.hd H v s) (hs : s.isL = false) : StB B H (σ.set i (some v)) (δ.set i (some s)) := by
  refine ⟨st.rel, st.h0, st.hh, by rw [List.length_set, List.length_set]; exact st.len, fun j t e => ?_, st.gh, fun j ds a e1 e2 => ?_⟩
  · rcases getSet e with ⟨rfl, e'⟩ | ⟨n, e'⟩
    · cases e'
      exact ⟨v, set_get st.len e, o⟩
    · obtain ⟨u, h1, h2⟩ := st.ok j t e'
      exact ⟨u, by rw [List.getElem?_set_ne (Ne.symm n)]; exact h1, h2⟩
  · rcases getSet e1 with ⟨rfl, e'⟩ | ⟨n, e'⟩
    · cases e'; cases hs
    · have e2' : σ[j]? = some (some (.ref a)) := by rwa [List.getElem?_set_ne (Ne.symm n)] at e2
      obtain ⟨a1, a2, a3⟩ := st.own j ds a e' e2'
      refine ⟨a1, fun k t hk f1 f2 => ?_, a3⟩
      rcases getSet f1 with ⟨rfl, f'⟩ | ⟨m, f'⟩
      · cases f'; exact hs
      · exact a2 k t hk f' (by rwa [List.getElem?_set_ne (Ne.symm m)] at f2)
/-- a list slot's address differs from what was free -/
theorem StB.ne_free (st : StB B H1 σ δ) {a : Addr} (ha : H1 a = none) {j : Nat} {s : Sv} (e1 : δ[j]? = some (some s)) (e2 : σ[j]? = some (some (.ref a))) : s.isL = false := by
  cases hs : s.isL with
  | false => rfl
  | true =>
    obtain ⟨v, f1, o⟩ := st.ok j s e1
    obtain ⟨b, xs, rfl, q⟩ := o.isL_at hs
    rw [e2] at f1; cases f1
    rw [ha] at q; cases q
theorem StB.gh_free (st : StB B H1 σ δ) {a : Addr} (ha : H1 a = none) {s : Sv} (m : (.ref a, s) ∈ B.gh) : s.isL = false := by
  cases hs : s.isL with
  | false => rfl
  | true =>
    obtain ⟨b, xs, e, q⟩ := (st.gh _ _ m (isL_calm hs)).isL_at hs
    cases e
    rw [ha] at q; cases q
theorem StB.h0_free (st : StB B H1 σ δ) {a : Addr} (ha : H1 a = none) : B.H0 a = none := by
  cases e : B.H0 a with
  | none => rfl
  | some o =>
    exfalso
    by_cases hp : ∀ p q, B.hd = some (p, q) → a ≠ p
    · have := st.rel a o hp e
      rw [ha] at this; cases this
    · apply hp
      intro p q e' z
      obtain ⟨xs, h1⟩ := st.hh.no e'
      rw [← z, ha] at h1; cases h1
theorem Hands.ne_free {hd : Hand} (h : Hands hd H) {a : Addr} (ha : H a = none) : ∀ p q, hd = some (p, q) → a ≠ p := fun p q e z => by
  obtain ⟨xs, h1⟩ := h.no e
  rw [← z, ha] at h1; cases h1
/-- a new list is stored -/
theorem StB.set_new (st1 : StB B H1 σ δ) (i : Nat) {a : Addr} {xs : List V} {ds : List PyData} (ha : H1 a = none) (r : Rel B.hd H1 H) (h : Hands B.hd H) (hl : H a = some (.lst xs)) (t : DTs B.K H xs ds) :
    StB B H (σ.set i (some (.ref a))) (δ.set i (some (.own ds))) := by
  have st := st1.mono r h
  refine ⟨st.rel, st.h0, st.hh, by rw [List.length_set, List.length_set]; exact st.len, fun j s e => ?_, st.gh, fun j es b e1 e2 => ?_⟩
  · rcases getSet e with ⟨rfl, e'⟩ | ⟨n, e'⟩
    · cases e'
      exact ⟨_, set_get st.len e, a, xs, rfl, st1.hh.ne_free ha, hl, t⟩
    · obtain ⟨u, h1, h2⟩ := st.ok j s e'
      exact ⟨u, by rw [List.getElem?_set_ne (Ne.symm n)]; exact h1, h2⟩
  · rcases getSet e1 with ⟨rfl, e'⟩ | ⟨n, e'⟩
    · have e3 := set_get (x := some (V.ref a)) st.len e1
      rw [e2] at e3
      cases e3
      refine ⟨st1.h0_free ha, fun k s hk f1 f2 => ?_, fun s m => st1.gh_free ha m⟩
      rcases getSet f1 with ⟨rfl, f'⟩ | ⟨m, f'⟩
      · exact absurd rfl hk
      · exact st1.ne_free ha f' (by rwa [List.getElem?_set_ne (Ne.symm m)] at f2)
    · have e2' : σ[j]? = some (some (.ref b)) := by rwa [List.getElem?_set_ne (Ne.symm n)] at e2
      obtain ⟨a1, a2, a3⟩ := st.own j es b e' e2'
      refine ⟨a1, fun k s hk f1 f2 => ?_, a3⟩
      rcases getSet f1 with ⟨rfl, f'⟩ | ⟨m, f'⟩
      · have e3 := set_get (x := some (V.ref a)) st.len f1
        rw [f2] at e3
        cases e3
        exact absurd (st1.ne_free ha e' e2') (fun q => Bool.noConfusion (show true = false from q))
      · exact a2 k s hk f' (by rwa [List.getElem?_set_ne (Ne.symm m)] at f2)
/-- slots forgotten -/
theorem StB.weak {σ' : L2.St} {δ' : Dn} (st : StB B H σ δ) (hl : σ'.length = δ'.length) (hw : ∀ (i : Nat) (s : Sv), δ'[i]? = some (some s) → δ[i]? = some (some s) ∧ σ'[i]? = σ[i]?) : StB B H σ' δ' :=
  ⟨st.rel, st.h0, st.hh, hl, fun i s e => let ⟨e1, e2⟩ := hw i s e; let ⟨v, f, o⟩ := st.ok i s e1; ⟨v, e2.trans f, o⟩, st.gh,
    fun i ds a e1 e2 => let ⟨g1, g2⟩ := hw i _ e1; let ⟨a1, a2, a3⟩ := st.own i ds a g1 (g2.symm.trans e2); ⟨a1, fun j s hj f1 f2 => let ⟨k1, k2⟩ := hw j s f1; a2 j s hj k1 (k2.symm.trans f2), a3⟩⟩
/-- an own list grows or shrinks -/
theorem StB.upd_own (st : StB B H σ δ) {i : Nat} {ds es : List PyData} (hi : δ[i]? = some (some (.own ds))) {a : Addr} (ha : σ[i]? = some (some (.ref a))) {zs : List V} (t : DTs B.K H zs es) :
    StB B (upd H a (.lst zs)) σ (δ.set i (some (.own es))) := by
  obtain ⟨v, e1, b, xs, ev, nb, hb, tb⟩ := st.ok i _ hi
  rw [ha] at e1; cases e1; cases ev
  obtain ⟨o1, o2, o3⟩ := st.own i ds a hi ha
  have hT : ∀ c ys, SqT B.K H c ys → SqT B.K (upd H a (.lst zs)) c ys := fun _ _ => sqT_updL hb
  refine ⟨fun c o hc e => ?_, st.h0, fun p q e => ?_, by rw [List.length_set]; exact st.len, fun j s e => ?_, fun v s m c => (st.gh v s m c).updL hb fun hs z => ?_, fun j es' c f1 f2 => ?_⟩
  · have : c ≠ a := fun z => by rw [z, o1] at e; cases e
    rw [upd_ne this]; exact st.rel c o hc e
  · obtain ⟨⟨x, y, z, u, h1, h2⟩, ns, h3, h4⟩ := st.hh p q e
    obtain ⟨⟨_, _, _, _, k1, _⟩, ms, k3, _⟩ := st.h0 p q e
    have np : p ≠ a := fun z => by rw [z, o1] at k1; cases k1
    have nq : q ≠ a := fun z => by rw [z, o1] at k3; cases k3
    exact ⟨⟨x, y, z, u, by rw [upd_ne np]; exact h1, h2⟩, ns, by rw [upd_ne nq]; exact h3, h4⟩
  · rcases getSet e with ⟨rfl, e'⟩ | ⟨n, e'⟩
    · cases e'
      exact ⟨_, ha, a, zs, rfl, nb, upd_same, DTs.mono hT _ _ t⟩
    · obtain ⟨u, h1, h2⟩ := st.ok j s e'
      refine ⟨u, h1, h2.updL hb fun hs z => ?_⟩
      subst z
      rw [o2 j s n e' h1] at hs; cases hs
  · subst z
    rw [o3 s m] at hs; cases hs
  · have f1' : ∃ ds', δ[j]? = some (some (.own ds')) := by
      rcases getSet f1 with ⟨rfl, e'⟩ | ⟨n, e'⟩
      · exact ⟨ds, hi⟩
      · exact ⟨es', e'⟩
    obtain ⟨ds', f1'⟩ := f1'
    obtain ⟨a1, a2, a3⟩ := st.own j ds' c f1' f2
    refine ⟨a1, fun k s hk g1 g2 => ?_, a3⟩
    rcases getSet g1 with ⟨rfl, e'⟩ | ⟨n, e'⟩
    · cases e'
      exact absurd (a2 k (.own ds) hk hi g2) (fun q => Bool.noConfusion (show true = false from q))
    · exact a2 k s hk e' g2
end
section
variable {B : Bx} {H H' : Hp} {σ : L2.St} {δ : Dn}
/-- a dict or an instance of the def's own changes -/
theorem StB.put {p : Addr} {o o' : HO} (st : StB B H σ δ) (h0 : B.H0 p = none) {i : Nat} (hi : δ[i]? = some (some (.obj p o))) (hs' : softO o' = true) (hk : ∀ b u, b ≠ p → H b = some u → H' b = some u) (hp' : H' p = some o')
    (hc : ∀ (j : Nat) (s : Sv), j ≠ i → δ[j]? = some (some s) → s.calm = true) : StB B H' σ (δ.set i (some (.obj p o'))) := by
  obtain ⟨v, e1, ev, hp, so⟩ := st.ok i _ hi
  have nt : ∀ {a u}, H a = some u → softO u = false → a ≠ p := fun e f z => by
    subst z
    rw [hp] at e; cases e
    rw [so] at f; cases f
  have hT : ∀ c ys, SqT B.K H c ys → SqT B.K H' c ys := fun c ys q => by
    rcases q with (q | ⟨ob, q⟩) | q
    · exact .inl (.inl (hk _ _ (nt q rfl) q))
    · exact .inl (.inr ⟨ob, hk _ _ (nt q rfl) q⟩)
    · exact .inr q
  have hok : ∀ {v s}, s.calm = true → SvOk B.K B.hd H v s → SvOk B.K B.hd H' v s := fun {v s} c o => by
    cases s with
    | dat d => exact DT.mono hT _ _ o
    | lst ds => obtain ⟨a, xs, e, n, q, t⟩ := o; exact ⟨a, xs, e, n, hk _ _ (nt q rfl) q, DTs.mono hT _ _ t⟩
    | own ds => obtain ⟨a, xs, e, n, q, t⟩ := o; exact ⟨a, xs, e, n, hk _ _ (nt q rfl) q, DTs.mono hT _ _ t⟩
    | val u => exact o
    | ins C fs => cases c
    | obj q u => cases c
  refine ⟨fun c u hc e => hk _ _ (fun z => by rw [z, h0] at e; cases e) (st.rel c u hc e), st.h0, fun a b e => ?_, by rw [List.length_set]; exact st.len, fun j s e => ?_, fun v s m c => hok c (st.gh v s m c), fun j ds a f1 f2 => ?_⟩
  · obtain ⟨⟨x, y, z, u, h1, h2⟩, ns, h3, h4⟩ := st.hh a b e
    exact ⟨⟨x, y, z, u, hk _ _ (nt h1 rfl) h1, h2⟩, ns, hk _ _ (nt h3 rfl) h3, h4⟩
  · rcases getSet e with ⟨rfl, e'⟩ | ⟨n, e'⟩
    · cases e'
      exact ⟨v, e1, ev, hp', hs'⟩
    · obtain ⟨u, h1, h2⟩ := st.ok j s e'
      exact ⟨u, h1, hok (hc j s n e') h2⟩
  · rcases getSet f1 with ⟨rfl, e'⟩ | ⟨n, e'⟩
    · cases e'
    · obtain ⟨a1, a2, a3⟩ := st.own j ds a e' f2
      refine ⟨a1, fun k s hk g1 g2 => ?_, a3⟩
      rcases getSet g1 with ⟨rfl, e''⟩ | ⟨m, e''⟩
      · cases e''; rfl
      · exact a2 k s hk e'' g2
end
/-! ### judgements -/
/-- what is wanted behind an expression | behind one that makes a list -/
def Fin (B : Bx) (H : Hp) (S : Sv → Prop) (Q : VK) : Prop := ∀ v H' s, Rel B.hd H H' → Hands B.hd H' → SvOk B.K B.hd H' v s → S s → Q v H'
def FinL (B : Bx) (H : Hp) (S : List PyData → Prop) (Q : VK) : Prop := ∀ a xs ds H', Rel B.hd H H' → Hands B.hd H' → H a = none → H' a = some (.lst xs) → DTs B.K H' xs ds → S ds → Q (.ref a) H'
def FinA (B : Bx) (H : Hp) (S : List Sv → Prop) (Q : List V → Hp → Prop) : Prop := ∀ vs H' ss, Rel B.hd H H' → Hands B.hd H' → Paired (SvOk B.K B.hd H') vs ss → S ss → Q vs H'
def FinT (B : Bx) (H : Hp) (S : Bool → Prop) (Q : Bool → Hp → Prop) : Prop := ∀ b H', Rel B.hd H H' → Hands B.hd H' → S b → Q b H'
def EvS (B : Bx) (te : TE) (δ : Dn) (S : Sv → Prop) : Prop := ∀ σ H, StB B H σ δ → ∀ Q, Fin B H S Q → te σ H Q
def EvL (B : Bx) (te : TE) (δ : Dn) (S : List PyData → Prop) : Prop := ∀ σ H, StB B H σ δ → ∀ Q, FinL B H S Q → te σ H Q
def EvA (B : Bx) (ta : TA) (δ : Dn) (S : List Sv → Prop) : Prop := ∀ σ H, StB B H σ δ → ∀ Q, FinA B H S Q → ta σ H Q
def EvT (B : Bx) (tt : TT) (δ : Dn) (S : Bool → Prop) : Prop := ∀ σ H, StB B H σ δ → ∀ Q, FinT B H S Q → tt σ H Q
/-- an operation on values -/
def RV (B : Bx) (r : R2) (s u : Sv) (S : Sv → Prop) : Prop := ∀ H v w, Hands B.hd H → SvOk B.K B.hd H v s → SvOk B.K B.hd H w u → ∀ Q, Fin B H S Q → r v w H Q
def RVL (B : Bx) (r : R2) (s u : Sv) (S : List PyData → Prop) : Prop := ∀ H v w, Hands B.hd H → SvOk B.K B.hd H v s → SvOk B.K B.hd H w u → ∀ Q, FinL B H S Q → r v w H Q
def RC (B : Bx) (r : List V → Hp → VK → Prop) (ss : List Sv) (S : Sv → Prop) : Prop := ∀ H vs, Hands B.hd H → Paired (SvOk B.K B.hd H) vs ss → ∀ Q, Fin B H S Q → r vs H Q
def RCL (B : Bx) (r : List V → Hp → VK → Prop) (ss : List Sv) (S : List PyData → Prop) : Prop := ∀ H vs, Hands B.hd H → Paired (SvOk B.K B.hd H) vs ss → ∀ Q, FinL B H S Q → r vs H Q
/-- a value is this one -/
abbrev Is (d : PyData) : Sv → Prop := fun s => s = .dat d
section
variable {B : Bx} {H H' H1 : Hp} {σ : L2.St} {δ : Dn} {te ta tb tc : TE} {S P R : Sv → Prop} {r : R2} {tt tu : TT}
theorem Fin.dat {Q : VK} {v : V} {d : PyData} (k : Fin B H S Q) (r : Rel B.hd H H') (h : Hands B.hd H') (o : DT B.K H' v d) (q : S (.dat d)) : Q v H' := k v H' (.dat d) r h o q
theorem Fin.vl {Q : VK} {v : V} (k : Fin B H S Q) (r : Rel B.hd H H') (h : Hands B.hd H') (q : S (.val v)) : Q v H' := k v H' (.val v) r h rfl q
theorem Fin.back {Q : VK} (k : Fin B H S Q) (r : Rel B.hd H H1) : Fin B H1 S Q := fun v H' s r' h o q => k v H' s (r.trans r') h o q
theorem FinT.back {S : Bool → Prop} {Q : Bool → Hp → Prop} (k : FinT B H S Q) (r : Rel B.hd H H1) : FinT B H1 S Q := fun v H' r' h q => k v H' (r.trans r') h q
theorem free_back {hd : Hand} {G G' : Hp} (h : Hands hd G') (r : Rel hd G G') {a : Addr} (ha : G' a = none) : G a = none := by
  cases e : G a with
  | none => rfl
  | some o =>
    have := r a o (fun p q e' z => by
      obtain ⟨ys, h1⟩ := h.no e'
      rw [← z, ha] at h1; cases h1) e
    rw [ha] at this; cases this
theorem FinL.back {S : List PyData → Prop} {Q : VK} (k : FinL B H S Q) (h : Hands B.hd H1) (r : Rel B.hd H H1) : FinL B H1 S Q := fun a xs ds H' r' h' ha hl t q => k a xs ds H' (r.trans r') h' (free_back h r ha) hl t q
theorem FinA.back {S : List Sv → Prop} {Q : List V → Hp → Prop} (k : FinA B H S Q) (r : Rel B.hd H H1) : FinA B H1 S Q := fun v H' s r' h o q => k v H' s (r.trans r') h o q
/-! ### expressions -/
theorem EvS.imp (h : EvS B te δ P) (hp : ∀ s, P s → S s) : EvS B te δ S := fun σ H st Q k => h σ H st Q fun v H' s r hh o q => k v H' s r hh o (hp s q)
theorem EvL.imp {P S : List PyData → Prop} (h : EvL B te δ P) (hp : ∀ s, P s → S s) : EvL B te δ S := fun σ H st Q k => h σ H st Q fun a xs ds H' r hh ha hl t q => k a xs ds H' r hh ha hl t (hp ds q)
theorem EvT.imp {P S : Bool → Prop} (h : EvT B tt δ P) (hp : ∀ s, P s → S s) : EvT B tt δ S := fun σ H st Q k => h σ H st Q fun b H' r hh q => k b H' r hh (hp b q)
theorem EvL.evs {P : List PyData → Prop} (h : EvL B te δ P) : EvS B te δ (fun s => ∃ ds, s = .lst ds ∧ P ds) := fun σ H st Q k => h σ H st Q fun a xs ds H' r hh ha hl t q => k _ H' (.lst ds) r hh ⟨a, xs, rfl, st.hh.ne_free ha, hl, t⟩ ⟨ds, rfl, q⟩
theorem EvL.evs1 {ds : List PyData} (h : EvL B te δ (· = ds)) : EvS B te δ (· = .lst ds) := h.evs.imp fun _ ⟨_, e, q⟩ => by rw [e, q]
theorem evs_var {i : Nat} {s : Sv} (h : δ[i]? = some (some s)) (hs : ∀ ds, s ≠ .own ds := by intro _ q; cases q) : EvS B (tVar i) δ (· = s) := fun σ H st Q k => by
  obtain ⟨v, e, o⟩ := st.ok i s h
  exact ⟨v, e, k v H s .refl st.hh o rfl⟩
theorem evs_own {i : Nat} {ds : List PyData} (h : δ[i]? = some (some (.own ds))) : EvS B (tVar i) δ (· = .lst ds) := fun σ H st Q k => by
  obtain ⟨v, e, o⟩ := st.ok i _ h
  exact ⟨v, e, k v H (.lst ds) .refl st.hh o rfl⟩
theorem evs_int {i : Int} : EvS B (tC (.int i)) δ (· = .dat (.int i)) := fun σ H st Q k => k.dat .refl st.hh (DT.int i) rfl
theorem evs_str {x : Str} : EvS B (tC (.str x)) δ (· = .dat (.str x)) := fun σ H st Q k => k.dat .refl st.hh (DT.str x) rfl
theorem evs_bl {b : Bool} : EvS B (tC (.bl b)) δ (· = .dat (.bool b)) := fun σ H st Q k => k.dat .refl st.hh (DT.bl b) rfl
theorem evs_non : EvS B (tC .non) δ (· = .dat .none) := fun σ H st Q k => k.dat .refl st.hh DT.non rfl
theorem evs_val {v : V} : EvS B (tC v) δ (· = .val v) := fun σ H st Q k => k.vl .refl st.hh rfl
/-- a tuple that the top wrote -/
theorem evs_ktup {a : Addr} {xs : List V} {ds : List PyData} (h : ∀ H, SqT B.K H a xs) (t : ∀ H, DTs B.K H xs ds) : EvS B (tC (.ref a)) δ (· = .dat (.tuple ds)) := fun σ H st Q k => k.dat .refl st.hh (.tup (h H) (t H)) rfl
theorem evs_op (ha : EvS B ta δ P) (hb : EvS B tb δ R) (hr : ∀ s u, P s → R u → RV B r s u S) : EvS B (tOp r ta tb) δ S := fun σ H st Q k =>
  ha σ H st _ fun v H1 s r1 h1 o1 p1 => hb σ H1 (st.mono r1 h1) _ fun w H2 u r2 h2 o2 p2 => hr s u p1 p2 H2 v w h2 (o1.mono h1 r2) o2 Q (k.back (r1.trans r2))
theorem evl_op {S : List PyData → Prop} (ha : EvS B ta δ P) (hb : EvS B tb δ R) (hr : ∀ s u, P s → R u → RVL B r s u S) : EvL B (tOp r ta tb) δ S := fun σ H st Q k =>
  ha σ H st _ fun v H1 s r1 h1 o1 p1 => hb σ H1 (st.mono r1 h1) _ fun w H2 u r2 h2 o2 p2 => hr s u p1 p2 H2 v w h2 (o1.mono h1 r2) o2 Q (k.back h2 (r1.trans r2))
/-- with both operands known -/
theorem evs_op1 {s u : Sv} (ha : EvS B ta δ (· = s)) (hb : EvS B tb δ (· = u)) (hr : RV B r s u S) : EvS B (tOp r ta tb) δ S := evs_op ha hb fun _ _ e1 e2 => by rw [e1, e2]; exact hr
theorem evl_op1 {S : List PyData → Prop} {s u : Sv} (ha : EvS B ta δ (· = s)) (hb : EvS B tb δ (· = u)) (hr : RVL B r s u S) : EvL B (tOp r ta tb) δ S := evl_op ha hb fun _ _ e1 e2 => by rw [e1, e2]; exact hr
/-- ints that are known, or told by a property -/
def IntP (P : Int → Prop) : Sv → Prop := fun s => ∃ i, s = .dat (.int i) ∧ P i
theorem evs_I0 {g : Int → Int → Int} {i j : Int} (ha : EvS B ta δ (Is (.int i))) (hb : EvS B tb δ (Is (.int j))) : EvS B (tOp (rI0 fun i j => .int (g i j)) ta tb) δ (Is (.int (g i j))) := evs_op1 ha hb fun H v w hh o1 o2 Q k =>
  ⟨i, j, DT.int_inv o1, DT.int_inv o2, k.dat .refl hh (DT.int _) rfl⟩
theorem evs_I {C : Int → Int → Prop} {g : Int → Int → Int} {i j : Int} (ha : EvS B ta δ (Is (.int i))) (hb : EvS B tb δ (Is (.int j))) (c : C i j) : EvS B (tOp (rI C fun i j => .int (g i j)) ta tb) δ (Is (.int (g i j))) := evs_op1 ha hb fun H v w hh o1 o2 Q k =>
  ⟨i, j, DT.int_inv o1, DT.int_inv o2, c, k.dat .refl hh (DT.int _) rfl⟩
theorem evs_B0 {g : Int → Int → Bool} {i j : Int} (ha : EvS B ta δ (Is (.int i))) (hb : EvS B tb δ (Is (.int j))) : EvS B (tOp (rI0 fun i j => .bl (g i j)) ta tb) δ (Is (.bool (g i j))) := evs_op1 ha hb fun H v w hh o1 o2 Q k =>
  ⟨i, j, DT.int_inv o1, DT.int_inv o2, k.dat .refl hh (DT.bl _) rfl⟩
theorem evs_I0P {g : Int → Int → Int} {P R S : Int → Prop} (ha : EvS B ta δ (IntP P)) (hb : EvS B tb δ (IntP R)) (hs : ∀ i j, P i → R j → S (g i j)) : EvS B (tOp (rI0 fun i j => .int (g i j)) ta tb) δ (IntP S) := evs_op ha hb fun s u ⟨i, e1, p⟩ ⟨j, e2, q⟩ => by
  subst e1 e2
  exact fun H v w hh o1 o2 Q k => ⟨i, j, DT.int_inv o1, DT.int_inv o2, k.dat .refl hh (DT.int _) ⟨_, rfl, hs i j p q⟩⟩
theorem evs_IP {C : Int → Int → Prop} {g : Int → Int → Int} {P R S : Int → Prop} (ha : EvS B ta δ (IntP P)) (hb : EvS B tb δ (IntP R)) (hs : ∀ i j, P i → R j → C i j ∧ S (g i j)) : EvS B (tOp (rI C fun i j => .int (g i j)) ta tb) δ (IntP S) := evs_op ha hb fun s u ⟨i, e1, p⟩ ⟨j, e2, q⟩ => by
  subst e1 e2
  exact fun H v w hh o1 o2 Q k => ⟨i, j, DT.int_inv o1, DT.int_inv o2, (hs i j p q).1, k.dat .refl hh (DT.int _) ⟨_, rfl, (hs i j p q).2⟩⟩
theorem Is.intP {i : Int} {P : Int → Prop} (h : EvS B te δ (Is (.int i))) (p : P i) : EvS B te δ (IntP P) := h.imp fun _ e => ⟨i, e, p⟩
theorem evs_neg {i : Int} (ha : EvS B ta δ (Is (.int i))) : EvS B (tUn (rU fun i => .int (-i)) ta) δ (Is (.int (-i))) := fun σ H st Q k => ha σ H st _ fun v H1 s r1 h1 o1 p1 => by
  subst p1
  exact ⟨i, DT.int_inv o1, k.dat r1 h1 (DT.int _) rfl⟩
/-- == != of what scal takes -/
theorem evs_eq {d e : PyData} (ha : EvS B ta δ (Is d)) (hb : EvS B tb δ (Is e)) (fd : flatD d = true) (fe : flatD e = true) (h : scal (vOf d) (vOf e) = true) : EvS B (tOp rEq ta tb) δ (Is (.bool (decide (vOf d = vOf e)))) := evs_op1 ha hb fun H v w hh o1 o2 Q k => by
  rw [DT.flat o1 fd, DT.flat o2 fe]
  exact ⟨h, k.dat .refl hh (DT.bl _) rfl⟩
theorem evs_ne {d e : PyData} (ha : EvS B ta δ (Is d)) (hb : EvS B tb δ (Is e)) (fd : flatD d = true) (fe : flatD e = true) (h : scal (vOf d) (vOf e) = true) : EvS B (tOp rNe ta tb) δ (Is (.bool (!decide (vOf d = vOf e)))) := evs_op1 ha hb fun H v w hh o1 o2 Q k => by
  rw [DT.flat o1 fd, DT.flat o2 fe]
  exact ⟨h, k.dat .refl hh (DT.bl _) rfl⟩
/-- data as a Dp, of a slot -/
def Sv.dp : Sv → Option PyData
  | .dat d => some d
  | .lst ds => some (.list ds)
  | .own ds => some (.list ds)
  | _ => none
theorem SvOk.dp {K : PySem.W.Frag} {hd : Hand} {v : V} {s : Sv} {d : PyData} (o : SvOk K hd H v s) (h : s.dp = some d) : Dp K H v d := by
  cases s with
  | dat e => cases h; exact DT.dp _ _ o
  | lst ds => cases h; obtain ⟨a, xs, rfl, n, q, t⟩ := o; exact .lst (SqL.of q) (DTs.dp _ _ t)
  | own ds => cases h; obtain ⟨a, xs, rfl, n, q, t⟩ := o; exact .lst (SqL.of q) (DTs.dp _ _ t)
  | _ => cases h
theorem evs_eqD {s u : Sv} {d e : PyData} (ha : EvS B ta δ (· = s)) (hb : EvS B tb δ (· = u)) (hs : s.dp = some d) (hu : u.dp = some e) (hd : SeqAt.shaped d = true) (he : SeqAt.shaped e = true) : EvS B (tOp (rEqD B.K) ta tb) δ (Is (.bool (PyData.eqv d e))) := evs_op1 ha hb fun H v w hh o1 o2 Q k =>
  ⟨d, e, o1.dp hs, o2.dp hu, hd, he, k.dat .refl hh (DT.bl _) rfl⟩
theorem evs_neD {s u : Sv} {d e : PyData} (ha : EvS B ta δ (· = s)) (hb : EvS B tb δ (· = u)) (hs : s.dp = some d) (hu : u.dp = some e) (hd : SeqAt.shaped d = true) (he : SeqAt.shaped e = true) : EvS B (tOp (rNeD B.K) ta tb) δ (Is (.bool (!PyData.eqv d e))) := evs_op1 ha hb fun H v w hh o1 o2 Q k =>
  ⟨d, e, o1.dp hs, o2.dp hu, hd, he, k.dat .refl hh (DT.bl _) rfl⟩
theorem evs_inD {s u : Sv} {d : PyData} {ds : List PyData} (ha : EvS B ta δ (· = s)) (hb : EvS B tb δ (· = u)) (hs : s.dp = some d) (hu : u.dp = some (.list ds)) (hd : SeqAt.shaped d = true) (he : SeqAt.shaped (.list ds) = true) : EvS B (tOp (rInD B.K) ta tb) δ (Is (.bool (ds.any fun z => PyData.eqv z d))) := evs_op1 ha hb fun H v w hh o1 o2 Q k =>
  ⟨d, ds, o1.dp hs, o2.dp hu, hd, he, k.dat .refl hh (DT.bl _) rfl⟩
/-- is None -/
def rIsNo : R2 := fun x y H Q => y = .non ∧ Q (.bl (decide (x = .non))) H
def rNotNo : R2 := fun x y H Q => y = .non ∧ Q (.bl (!decide (x = .non))) H
def isN : Sv → Bool
  | .dat .none => true
  | _ => false
theorem isN_ok {K : PySem.W.Frag} {hd : Hand} {v : V} {s : Sv} (o : SvOk K hd H v s) (hs : ∀ u, s ≠ .val u) : decide (v = .non) = isN s := by
  cases s with
  | dat d => cases d <;> cases o <;> rfl
  | lst ds => obtain ⟨a, xs, rfl, _⟩ := o; rfl
  | own ds => obtain ⟨a, xs, rfl, _⟩ := o; rfl
  | val u => exact absurd rfl (hs u)
  | ins C fs => obtain ⟨a, dx, gs, rfl, _⟩ := o; rfl
  | obj p u => obtain ⟨rfl, _⟩ := o; rfl
theorem evs_isN {s : Sv} (ha : EvS B ta δ (· = s)) (hs : ∀ u, s ≠ .val u := by intro _ q; cases q) : EvS B (tOp rIsNo ta (tC .non)) δ (Is (.bool (isN s))) := evs_op1 ha evs_non fun H v w hh o1 o2 Q k =>
  ⟨DT.non_inv o2, by rw [isN_ok o1 hs]; exact k.dat .refl hh (DT.bl _) rfl⟩
theorem evs_notN {s : Sv} (ha : EvS B ta δ (· = s)) (hs : ∀ u, s ≠ .val u := by intro _ q; cases q) : EvS B (tOp rNotNo ta (tC .non)) δ (Is (.bool (!isN s))) := evs_op1 ha evs_non fun H v w hh o1 o2 Q k =>
  ⟨DT.non_inv o2, by rw [isN_ok o1 hs]; exact k.dat .refl hh (DT.bl _) rfl⟩
/-- texts -/
def rAddS : R2 := fun x y H Q => ∃ i j, x = .str i ∧ y = .str j ∧ i.length + j.length ≤ sizeLine ∧ Q (.str (i ++ j)) H
theorem evs_addS {x y : Str} (ha : EvS B ta δ (Is (.str x))) (hb : EvS B tb δ (Is (.str y))) (hz : x.length + y.length ≤ 16000000) : EvS B (tOp rAddS ta tb) δ (Is (.str (x ++ y))) := evs_op1 ha hb fun H v w hh o1 o2 Q k =>
  ⟨x, y, DT.str_inv o1, DT.str_inv o2, Nat.le_trans hz (by decide), k.dat .refl hh (DT.str _) rfl⟩
/-- a subscript -/
theorem evs_ixT {ds : List PyData} {i : Int} {d : PyData} (ha : EvS B ta δ (Is (.tuple ds))) (hb : EvS B tb δ (Is (.int i))) (h : atI ds i = some d) : EvS B (tOp (rIxT B.K) ta tb) δ (Is d) := evs_op1 ha hb fun H v w hh o1 o2 Q k => by
  obtain ⟨a, xs, rfl, sq, t⟩ := DT.tup_inv o1
  unfold atI at h
  rw [← t.length] at h
  obtain ⟨j, hj, h2⟩ := Option.bind_eq_some_iff.mp h
  obtain ⟨x, hx, ox⟩ := t.get h2
  exact ⟨a, xs, i, x, rfl, DT.int_inv o2, sq, by unfold atI; rw [hj]; exact hx, k.dat .refl hh ox rfl⟩
theorem evs_ixL {ds : List PyData} {i : Int} {d : PyData} (ha : EvS B ta δ (· = .lst ds)) (hb : EvS B tb δ (Is (.int i))) (h : atI ds i = some d) : EvS B (tOp (rIxL B.K) ta tb) δ (Is d) := evs_op1 ha hb fun H v w hh o1 o2 Q k => by
  obtain ⟨a, xs, rfl, n, sq, t⟩ := o1
  unfold atI at h
  rw [← t.length] at h
  obtain ⟨j, hj, h2⟩ := Option.bind_eq_some_iff.mp h
  obtain ⟨x, hx, ox⟩ := t.get h2
  exact ⟨a, xs, i, x, rfl, DT.int_inv o2, SqL.of sq, by unfold atI; rw [hj]; exact hx, k.dat .refl hh ox rfl⟩
/-- an item of a list at a place that is told by its bounds -/
theorem evs_ixLP {ds : List PyData} {P : PyData → Prop} (ha : EvS B ta δ (· = .lst ds)) (hb : EvS B tb δ (IntP fun i => 0 ≤ i ∧ i < (ds.length : Int))) (h : ∀ d ∈ ds, P d) : EvS B (tOp (rIxL B.K) ta tb) δ (fun s => ∃ d, s = .dat d ∧ P d) := evs_op ha hb fun s u e1 ⟨i, e2, h1, h2⟩ => by
  subst e1 e2
  intro H v w hh o1 o2 Q k
  obtain ⟨a, xs, rfl, n, sq, t⟩ := o1
  have hl : i.toNat < ds.length := by omega
  obtain ⟨x, hx, ox⟩ := t.get (List.getElem?_eq_getElem hl)
  refine ⟨a, xs, i, x, rfl, DT.int_inv o2, SqL.of sq, at_of (j := i.toNat) (by omega) hx, k.dat .refl hh ox ⟨_, rfl, h _ (List.getElem_mem hl)⟩⟩
theorem evs_ixS {x : Str} {i : Int} {c : Nat} (ha : EvS B ta δ (Is (.str x))) (hb : EvS B tb δ (Is (.int i))) (hz : x.length ≤ 16000000) (h : atI x.cps.toList i = some c) : EvS B (tOp rIxS ta tb) δ (Is (.str ⟨#[c]⟩)) := evs_op1 ha hb fun H v w hh o1 o2 Q k =>
  ⟨x, i, c, DT.str_inv o1, DT.int_inv o2, Nat.le_trans hz (by decide), h, k.dat .refl hh (DT.str _) rfl⟩
/-- an attribute -/
theorem FsOk.look {K : PySem.W.Frag} {f : Str} {d : PyData} : ∀ {gs : List (Str × V)} {fs : List (Str × PyData)}, FsOk K H gs fs → fs.lookup f = some d → ∃ v, gs.lookup f = some v ∧ DT K H v d
  | _, _, .nil, h => by simp [List.lookup] at h
  | (g, v) :: gs, (g', e) :: fs, .cons ⟨h1, h2⟩ t, h => by
    have h1' : g = g' := h1
    subst h1'
    rw [List.lookup_cons] at h ⊢
    cases hc : f == g with
    | true => rw [hc] at h; cases h; exact ⟨v, rfl, h2⟩
    | false => rw [hc] at h; exact FsOk.look t h
theorem evs_fld {C : Addr} {fs : List (Str × PyData)} {f : Str} {d : PyData} (ha : EvS B ta δ (· = .ins C fs)) (c : Cls B.K C) (n : NoAttr B.K C f) (h : fs.lookup f = some d) : EvS B (tFld B.K ta f) δ (Is d) := fun σ H st Q k => ha σ H st _ fun v H1 s r1 h1 o1 p1 => by
  subst p1
  obtain ⟨a, dx, gs, rfl, q, t⟩ := o1
  obtain ⟨x, hx, ox⟩ := t.look h
  exact ⟨a, C, dx, gs, x, rfl, q, c, n, hx, k.dat r1 h1 ox rfl⟩
/-! ### arguments, displays, calls -/
theorem eva_nil : EvA B tNil δ (· = []) := fun σ H st Q k => k [] H [] .refl st.hh .nil rfl
theorem eva_cons {tr : TA} {R : List Sv → Prop} (ha : EvS B ta δ P) (hr : EvA B tr δ R) : EvA B (tCons ta tr) δ (fun ss => ∃ s r, ss = s :: r ∧ P s ∧ R r) := fun σ H st Q k =>
  ha σ H st _ fun v H1 s r1 h1 o1 p1 => hr σ H1 (st.mono r1 h1) _ fun vs H2 ss r2 h2 o2 p2 => k (v :: vs) H2 (s :: ss) (r1.trans r2) h2 (.cons (o1.mono h1 r2) o2) ⟨s, ss, rfl, p1, p2⟩
theorem eva_c {tr : TA} {s : Sv} {r : List Sv} (ha : EvS B ta δ (· = s)) (hr : EvA B tr δ (· = r)) : EvA B (tCons ta tr) δ (· = s :: r) := fun σ H st Q k => eva_cons ha hr σ H st Q fun vs H' ss r h o ⟨_, _, e, e1, e2⟩ => k vs H' ss r h o (by rw [e, e1, e2])
theorem paired_dat {K : PySem.W.Frag} {hd : Hand} : ∀ {ds : List PyData} {vs : List V}, Paired (SvOk K hd H) vs (ds.map Sv.dat) → DTs K H vs ds
  | [], _, .nil => .nil
  | d :: ds, _, .cons h t => .cons h (paired_dat t)
theorem evs_tup {t : TA} {ds : List PyData} (h : EvA B t δ (· = ds.map Sv.dat)) (hz : ds.length ≤ 1000 := by simp) : EvS B (tTup t) δ (Is (.tuple ds)) := fun σ H st Q k => h σ H st _ fun vs H1 ss r1 h1 o1 p1 => by
  subst p1
  have t1 := paired_dat o1
  refine ⟨by rw [t1.length]; exact Nat.le_trans hz (by decide), fun p hp => ?_⟩
  have r2 : Rel B.hd H1 (upd H1 p (.tup vs)) := Rel.new hp
  exact k.dat (r1.trans r2) (h1.new hp) (.tup (SqT.of upd_same) (DTs.mono (fun _ _ => sqT_rel h1 r2) _ _ t1)) rfl
/-- a tuple of what is told by a property -/
theorem evs_tupP {t : TA} {P : List PyData → Prop} (h : EvA B t δ (fun ss => ∃ ds, ss = ds.map Sv.dat ∧ ds.length ≤ 1000 ∧ P ds)) : EvS B (tTup t) δ (fun s => ∃ ds, s = .dat (.tuple ds) ∧ P ds) := fun σ H st Q k => h σ H st _ fun vs H1 ss r1 h1 o1 ⟨ds, p1, hz, p2⟩ => by
  subst p1
  have t1 := paired_dat o1
  refine ⟨by rw [t1.length]; exact Nat.le_trans hz (by decide), fun p hp => ?_⟩
  have r2 : Rel B.hd H1 (upd H1 p (.tup vs)) := Rel.new hp
  exact k.dat (r1.trans r2) (h1.new hp) (.tup (SqT.of upd_same) (DTs.mono (fun _ _ => sqT_rel h1 r2) _ _ t1)) ⟨ds, rfl, p2⟩
theorem evl_lst {t : TA} {ds : List PyData} (h : EvA B t δ (· = ds.map Sv.dat)) (hz : ds.length ≤ 1000 := by simp) : EvL B (tLst t) δ (· = ds) := fun σ H st Q k => h σ H st _ fun vs H1 ss r1 h1 o1 p1 => by
  subst p1
  have t1 := paired_dat o1
  refine ⟨by rw [t1.length]; exact Nat.le_trans hz (by decide), fun p hp => ?_⟩
  have r2 : Rel B.hd H1 (upd H1 p (.lst vs)) := Rel.new hp
  exact k _ _ ds _ (r1.trans r2) (h1.new hp) (free_back h1 r1 hp) upd_same (DTs.mono (fun _ _ => sqT_rel h1 r2) _ _ t1) rfl
theorem evs_cb {r : List V → Hp → VK → Prop} {t : TA} {ss : List Sv} (h : EvA B t δ (· = ss)) (hr : RC B r ss S) : EvS B (tCB r t) δ S := fun σ H st Q k => h σ H st _ fun vs H1 ss' r1 h1 o1 p1 => by
  subst p1
  exact hr H1 vs h1 o1 Q (k.back r1)
theorem evl_cb {r : List V → Hp → VK → Prop} {t : TA} {ss : List Sv} {S : List PyData → Prop} (h : EvA B t δ (· = ss)) (hr : RCL B r ss S) : EvL B (tCB r t) δ S := fun σ H st Q k => h σ H st _ fun vs H1 ss' r1 h1 o1 p1 => by
  subst p1
  exact hr H1 vs h1 o1 Q (k.back h1 r1)
theorem paired1 {α β : Type} {F : α → β → Prop} {vs : List α} {s : β} (h : Paired F vs [s]) : ∃ v, vs = [v] ∧ F v s := by
  cases h with
  | cons h t => cases t; exact ⟨_, rfl, h⟩
theorem paired2 {α β : Type} {F : α → β → Prop} {vs : List α} {s u : β} (h : Paired F vs [s, u]) : ∃ v w, vs = [v, w] ∧ F v s ∧ F w u := by
  cases h with
  | cons h t =>
    obtain ⟨w, rfl, h2⟩ := paired1 t
    exact ⟨_, _, rfl, h, h2⟩
/-- the promise of a def that changes nothing but makes -/
def Fresh (H : Hp) (v : V) (s : Sv) : Prop := s.isL = true → ∀ a, v = .ref a → H a = none
def spS (K : PySem.W.Frag) {α : Type} (arg : α → List Sv) (pre : α → Prop) (res : α → Sv → Prop) : Sp := fun vs H Q _ => ∃ a, Paired (SvOk K none H) vs (arg a) ∧ pre a ∧ ∀ v H' s, Same H H' → SvOk K none H' v s → Fresh H v s → res a s → Q v H'
/-- of one that draws by the law's hand, its first argument -/
def spH (K : PySem.W.Frag) {α : Type} (arg : α → List Sv) (pre : α → Prop) (res : α → Sv → Prop) : Sp := fun vs H Q _ => ∃ a p q ws, vs = .ref p :: ws ∧ HandAt H p q ∧ Paired (SvOk K (some (p, q)) H) ws (arg a) ∧ pre a ∧
  ∀ v H' s, Rel (some (p, q)) H H' → HandAt H' p q → SvOk K (some (p, q)) H' v s → Fresh H v s → res a s → Q v H'
theorem SvOk.of_bare {K : PySem.W.Frag} {hd : Hand} {v : V} {s : Sv} (o : SvOk K none H' v s) (n : s.isL = true → ∀ a, v = .ref a → ∀ p q, hd = some (p, q) → a ≠ p) : SvOk K hd H' v s := by
  cases s with
  | dat d => exact o
  | lst ds => obtain ⟨a, xs, e, _, q, t⟩ := o; exact ⟨a, xs, e, n rfl a e, q, t⟩
  | own ds => obtain ⟨a, xs, e, _, q, t⟩ := o; exact ⟨a, xs, e, n rfl a e, q, t⟩
  | val u => exact o
  | ins C fs => exact o
  | obj p u => exact o
theorem paired_imp {α β : Type} {F G : α → β → Prop} : ∀ {l : List α} {m : List β}, Paired F l m → (∀ a b, F a b → G a b) → Paired G l m
  | _, _, .nil, _ => .nil
  | _, _, .cons r t, f => .cons (f _ _ r) (paired_imp t f)
theorem evs_call {t : TA} {P : List Sv → Prop} {α : Type} {arg : α → List Sv} {pre : α → Prop} {res : α → Sv → Prop} {E : XK} (h : EvA B t δ P) (hp : ∀ ss, P ss → ∃ a, ss = arg a ∧ pre a ∧ ∀ s, res a s → S s) : EvS B (tCall (spS B.K arg pre res) [] E t) δ S := fun σ H st Q k => h σ H st _ fun vs H1 ss r1 h1 o1 p1 => by
  obtain ⟨a, e, p, q⟩ := hp ss p1
  subst e
  refine ⟨a, by rw [List.append_nil]; exact paired_imp o1 fun _ _ => SvOk.bare, p, fun v H' s sm o f rs => ?_⟩
  exact k v H' s (r1.trans (.same sm)) (h1.same sm) (o.of_bare fun hl a e => h1.ne_free (f hl a e)) (q s rs)
/-- the arguments known, the result known -/
theorem evs_call1 {t : TA} {α : Type} {arg : α → List Sv} {pre : α → Prop} {res : α → Sv → Prop} {E : XK} (a : α) (h : EvA B t δ (· = arg a)) (p : pre a) : EvS B (tCall (spS B.K arg pre res) [] E t) δ (res a) := evs_call h fun _ e => ⟨a, e, p, fun _ q => q⟩
theorem evl_call {t : TA} {P : List Sv → Prop} {α : Type} {arg : α → List Sv} {pre : α → Prop} {res : α → Sv → Prop} {E : XK} {S : List PyData → Prop} (h : EvA B t δ P) (hp : ∀ ss, P ss → ∃ a, ss = arg a ∧ pre a ∧ ∀ s, res a s → ∃ ds, s = .lst ds ∧ S ds) : EvL B (tCall (spS B.K arg pre res) [] E t) δ S := fun σ H st Q k => h σ H st _ fun vs H1 ss r1 h1 o1 p1 => by
  obtain ⟨a, e, p, q⟩ := hp ss p1
  subst e
  refine ⟨a, by rw [List.append_nil]; exact paired_imp o1 fun _ _ => SvOk.bare, p, fun v H' s sm o f rs => ?_⟩
  obtain ⟨ds, e, qs⟩ := q s rs
  subst e
  obtain ⟨b, xs, rfl, _, hl, t⟩ := o
  exact k b xs ds H' (r1.trans (.same sm)) (h1.same sm) (free_back h1 r1 (f rfl b rfl)) hl t qs
theorem evs_callH {p q i : Nat} {tr : TA} {P : List Sv → Prop} {α : Type} {arg : α → List Sv} {pre : α → Prop} {res : α → Sv → Prop} {E : XK} (hb : B.hd = some (p, q)) (hi : δ[i]? = some (some (.val (.ref p)))) (h : EvA B tr δ P)
    (hp : ∀ ss, P ss → ∃ a, ss = arg a ∧ pre a ∧ ∀ s, res a s → S s) : EvS B (tCall (spH B.K arg pre res) [] E (tCons (tVar i) tr)) δ S := fun σ H st Q k => by
  obtain ⟨v, e1, e2⟩ := st.ok i _ hi
  refine ⟨v, e1, h σ H st _ fun vs H1 ss r1 h1 o1 p1 => ?_⟩
  obtain ⟨a, e, pa, qa⟩ := hp ss p1
  subst e
  have e2' : v = .ref p := e2
  subst e2'
  refine ⟨a, p, q, vs, by rw [List.append_nil], h1 p q hb, by rw [← hb]; exact o1, pa, fun w H' s rl hh o f rs => ?_⟩
  rw [← hb] at rl o
  exact k w H' s (r1.trans rl) (fun p' q' e => by rw [hb] at e; cases e; exact hh) o (qa s rs)
theorem evl_callH {p q i : Nat} {tr : TA} {P : List Sv → Prop} {α : Type} {arg : α → List Sv} {pre : α → Prop} {res : α → Sv → Prop} {E : XK} {S : List PyData → Prop} (hb : B.hd = some (p, q)) (hi : δ[i]? = some (some (.val (.ref p)))) (h : EvA B tr δ P)
    (hp : ∀ ss, P ss → ∃ a, ss = arg a ∧ pre a ∧ ∀ s, res a s → ∃ ds, s = .lst ds ∧ S ds) : EvL B (tCall (spH B.K arg pre res) [] E (tCons (tVar i) tr)) δ S := fun σ H st Q k => by
  obtain ⟨v, e1, e2⟩ := st.ok i _ hi
  refine ⟨v, e1, h σ H st _ fun vs H1 ss r1 h1 o1 p1 => ?_⟩
  obtain ⟨a, e, pa, qa⟩ := hp ss p1
  subst e
  have e2' : v = .ref p := e2
  subst e2'
  refine ⟨a, p, q, vs, by rw [List.append_nil], h1 p q hb, by rw [← hb]; exact o1, pa, fun w H' s rl hh o f rs => ?_⟩
  obtain ⟨ds, e, qs⟩ := qa s rs
  subst e
  rw [← hb] at rl o
  obtain ⟨b, xs, rfl, _, hl, t⟩ := o
  have hh' : Hands B.hd H' := fun p' q' e => by rw [hb] at e; cases e; exact hh
  exact k b xs ds H' (r1.trans rl) hh' (free_back h1 r1 (f rfl b rfl)) hl t qs
/-! ### tests -/
theorem evt_test {b : Bool} (h : EvS B te δ (Is (.bool b))) : EvT B (tTest te) δ (· = b) := fun σ H st Q k => h σ H st _ fun v H1 s r1 h1 o1 p1 => by
  subst p1
  exact ⟨b, DT.bl_inv o1, k b H1 r1 h1 rfl⟩
theorem evt_B {b : Bool} (h : EvS B te δ (Is (.bool b))) : EvT B (tB te) δ (· = b) := fun σ H st Q k => h σ H st _ fun v H1 s r1 h1 o1 p1 => by
  subst p1
  exact ⟨b, DT.bl_inv o1, k b H1 r1 h1 rfl⟩
theorem evt_testP {P : Bool → Prop} (h : EvS B te δ (fun s => ∃ b, s = .dat (.bool b) ∧ P b)) : EvT B (tTest te) δ P := fun σ H st Q k => h σ H st _ fun v H1 s r1 h1 o1 ⟨b, p1, p2⟩ => by
  subst p1
  exact ⟨b, DT.bl_inv o1, k b H1 r1 h1 p2⟩
theorem evt_and {P R S : Bool → Prop} (h1 : EvT B tt δ P) (h2 : P true → EvT B tu δ R) (hf : P false → S false) (ht : ∀ b, P true → R b → S b) : EvT B (tAnd tt tu) δ S := fun σ H st Q k => h1 σ H st _ fun b H1 r1 hh1 p1 => by
  cases b with
  | false => exact iteF (k _ H1 r1 hh1 (hf p1))
  | true => exact iteT (h2 p1 σ H1 (st.mono r1 hh1) _ fun c H2 r2 hh2 p2 => k c H2 (r1.trans r2) hh2 (ht c p1 p2))
theorem evt_or {P R S : Bool → Prop} (h1 : EvT B tt δ P) (h2 : P false → EvT B tu δ R) (hf : P true → S true) (ht : ∀ b, P false → R b → S b) : EvT B (tOr tt tu) δ S := fun σ H st Q k => h1 σ H st _ fun b H1 r1 hh1 p1 => by
  cases b with
  | true => exact iteT (k _ H1 r1 hh1 (hf p1))
  | false => exact iteF (h2 p1 σ H1 (st.mono r1 hh1) _ fun c H2 r2 hh2 p2 => k c H2 (r1.trans r2) hh2 (ht c p1 p2))
theorem evt_and1 {a b : Bool} (h1 : EvT B tt δ (· = a)) (h2 : a = true → EvT B tu δ (· = b)) : EvT B (tAnd tt tu) δ (· = (a && b)) := evt_and h1 (fun e => h2 e.symm) (fun e => by rw [← e]; rfl) fun c e e2 => by rw [← e, e2]; rfl
theorem evt_or1 {a b : Bool} (h1 : EvT B tt δ (· = a)) (h2 : a = false → EvT B tu δ (· = b)) : EvT B (tOr tt tu) δ (· = (a || b)) := evt_or h1 (fun e => h2 e.symm) (fun e => by rw [← e]; rfl) fun c e e2 => by rw [← e, e2]; rfl
theorem evt_not {a : Bool} (h1 : EvT B tt δ (· = a)) : EvT B (tNot tt) δ (· = !a) := fun σ H st Q k => h1 σ H st _ fun b H1 r1 hh1 p1 => k _ H1 r1 hh1 (by rw [p1])
theorem evt_notP {P S : Bool → Prop} (h1 : EvT B tt δ P) (hp : ∀ b, P b → S (!b)) : EvT B (tNot tt) δ S := fun σ H st Q k => h1 σ H st _ fun b H1 r1 hh1 p1 => k _ H1 r1 hh1 (hp b p1)
theorem evs_andV {a b : Bool} (h1 : EvS B ta δ (Is (.bool a))) (h2 : a = true → EvS B tb δ (Is (.bool b))) : EvS B (tAndV ta tb) δ (Is (.bool (a && b))) := fun σ H st Q k => h1 σ H st _ fun v H1 s r1 hh1 o1 p1 => by
  subst p1
  refine ⟨a, DT.bl_inv o1, ?_⟩
  cases a with
  | false => exact iteF (k.dat r1 hh1 (DT.bl false) rfl)
  | true => exact iteT (h2 rfl σ H1 (st.mono r1 hh1) _ fun w H2 s r2 hh2 o2 p2 => k w H2 s (r1.trans r2) hh2 o2 p2)
theorem evs_orV {a b : Bool} (h1 : EvS B ta δ (Is (.bool a))) (h2 : a = false → EvS B tb δ (Is (.bool b))) : EvS B (tOrV ta tb) δ (Is (.bool (a || b))) := fun σ H st Q k => h1 σ H st _ fun v H1 s r1 hh1 o1 p1 => by
  subst p1
  refine ⟨a, DT.bl_inv o1, ?_⟩
  cases a with
  | true => exact iteT (k.dat r1 hh1 (DT.bl true) rfl)
  | false => exact iteF (h2 rfl σ H1 (st.mono r1 hh1) _ fun w H2 s r2 hh2 o2 p2 => k w H2 s (r1.trans r2) hh2 o2 p2)
theorem evs_notV {a : Bool} (h1 : EvS B ta δ (Is (.bool a))) : EvS B (tNotV ta) δ (Is (.bool !a)) := fun σ H st Q k => h1 σ H st _ fun v H1 s r1 hh1 o1 p1 => by
  subst p1
  exact ⟨a, DT.bl_inv o1, k.dat r1 hh1 (DT.bl _) rfl⟩
theorem evs_if {P : Bool → Prop} (h : EvT B tt δ P) (h1 : P true → EvS B ta δ S) (h2 : P false → EvS B tb δ S) : EvS B (tIf tt ta tb) δ S := fun σ H st Q k => h σ H st _ fun b H1 r1 hh1 p1 => by
  cases b with
  | true => exact iteT (h1 p1 σ H1 (st.mono r1 hh1) _ (k.back r1))
  | false => exact iteF (h2 p1 σ H1 (st.mono r1 hh1) _ (k.back r1))
theorem evs_ifT (h : EvT B tt δ (· = true)) (h1 : EvS B ta δ S) : EvS B (tIf tt ta tb) δ S := evs_if h (fun _ => h1) fun e => Bool.noConfusion (show false = true from e)
theorem evs_ifF (h : EvT B tt δ (· = false)) (h1 : EvS B tb δ S) : EvS B (tIf tt ta tb) δ S := evs_if h (fun e => Bool.noConfusion (show true = false from e)) fun _ => h1
theorem evl_if {P : Bool → Prop} {S : List PyData → Prop} (h : EvT B tt δ P) (h1 : P true → EvL B ta δ S) (h2 : P false → EvL B tb δ S) : EvL B (tIf tt ta tb) δ S := fun σ H st Q k => h σ H st _ fun b H1 r1 hh1 p1 => by
  cases b with
  | true => exact iteT (h1 p1 σ H1 (st.mono r1 hh1) _ (k.back hh1 r1))
  | false => exact iteF (h2 p1 σ H1 (st.mono r1 hh1) _ (k.back hh1 r1))
end
end K32
/-! Layer D, part 2: built-ins on data, statements, loops, comprehensions, defs. -/
namespace K32
open PySem PySem.Spec PyProof.Rows L2
section
variable {B : Bx} {δ : Dn} {ta tb : TE}
theorem evs_eqT {d : PyData} (ha : EvS B ta δ (Is d)) (hb : EvS B tb δ (Is d)) (fd : flatD d = true) (h : scal (vOf d) (vOf d) = true) : EvS B (tOp rEq ta tb) δ (Is (.bool true)) := by
  have e : decide (vOf d = vOf d) = true := decide_eq_true rfl
  have := evs_eq ha hb fd fd h
  rwa [e] at this
theorem evs_eqF {d e : PyData} (ha : EvS B ta δ (Is d)) (hb : EvS B tb δ (Is e)) (fd : flatD d = true) (fe : flatD e = true) (h : scal (vOf d) (vOf e) = true) (n : vOf d ≠ vOf e) : EvS B (tOp rEq ta tb) δ (Is (.bool false)) := by
  have := evs_eq ha hb fd fe h
  rwa [decide_eq_false n] at this
theorem evs_neF {d : PyData} (ha : EvS B ta δ (Is d)) (hb : EvS B tb δ (Is d)) (fd : flatD d = true) (h : scal (vOf d) (vOf d) = true) : EvS B (tOp rNe ta tb) δ (Is (.bool false)) := by
  have := evs_ne ha hb fd fd h
  rwa [decide_eq_true rfl] at this
theorem evs_neT {d e : PyData} (ha : EvS B ta δ (Is d)) (hb : EvS B tb δ (Is e)) (fd : flatD d = true) (fe : flatD e = true) (h : scal (vOf d) (vOf e) = true) (n : vOf d ≠ vOf e) : EvS B (tOp rNe ta tb) δ (Is (.bool true)) := by
  have := evs_ne ha hb fd fe h
  rwa [decide_eq_false n] at this
end
/-! ### built-ins -/
section
variable {B : Bx} {H H' H1 : Hp} {σ : L2.St} {δ : Dn} {te ta tb tc : TE} {S P R : Sv → Prop} {r : R2} {tt tu : TT}
/-- how many -/
def lenD : Sv → Option Nat
  | .dat (.tuple ds) => some ds.length
  | .dat (.str x) => some x.length
  | .lst ds => some ds.length
  | .own ds => some ds.length
  | _ => none
theorem evs_len {s : Sv} {n : Nat} (ha : EvS B ta δ (· = s)) (h : lenD s = some n) (hz : n ≤ 16000000) : EvS B (tCB (rLen B.K) (tCons ta tNil)) δ (Is (.int n)) := evs_cb (eva_c ha eva_nil) fun H vs hh ps Q k => by
  obtain ⟨v, rfl, o⟩ := paired1 ps
  refine ⟨v, n, rfl, ?_, k.dat .refl hh (DT.int _) rfl⟩
  cases s with
  | dat d =>
    cases d with
    | tuple ds => cases h; obtain ⟨a, xs, rfl, sq, t⟩ := DT.tup_inv o; exact .inr ⟨xs, sq, t.length.symm⟩
    | str x => cases h; cases DT.str_inv o; exact ⟨Nat.le_trans hz (by decide), rfl⟩
    | _ => cases h
  | lst ds => cases h; obtain ⟨a, xs, rfl, n, sq, t⟩ := o; exact .inl ⟨xs, SqL.of sq, t.length.symm⟩
  | own ds => cases h; obtain ⟨a, xs, rfl, n, sq, t⟩ := o; exact .inl ⟨xs, SqL.of sq, t.length.symm⟩
  | _ => cases h
/-- isinstance(x, T), T a built-in type -/
def tyD : Sv → Option String
  | .dat .none => some "NoneType"
  | .dat (.bool _) => some "bool"
  | .dat (.int _) => some "int"
  | .dat (.str _) => some "str"
  | .dat (.tuple _) => some "tuple"
  | .lst _ => some "list"
  | .own _ => some "list"
  | _ => none
theorem tyD_ok {K : PySem.W.Frag} {hd : Hand} {v : V} {s : Sv} {T : String} (o : SvOk K hd H v s) (h : tyD s = some T) : TyX K H v (.type T) := by
  cases s with
  | dat d =>
    cases d with
    | none => cases h; cases DT.non_inv o; exact .base .non
    | bool b => cases h; cases DT.bl_inv o; exact .base (.bl b)
    | int i => cases h; cases DT.int_inv o; exact .base (.int i)
    | str x => cases h; cases DT.str_inv o; exact .base (.str x)
    | tuple ds =>
      cases h
      obtain ⟨a, xs, rfl, sq, t⟩ := DT.tup_inv o
      rcases sq with (q | ⟨ob, q⟩) | ⟨ob, its, n, q, c, _⟩
      · exact .base (.tup q)
      · exact .fTuple q
      · exact .kTuple q c
    | _ => cases h
  | lst ds => cases h; obtain ⟨a, xs, rfl, n, sq, t⟩ := o; exact .base (.lst sq)
  | own ds => cases h; obtain ⟨a, xs, rfl, n, sq, t⟩ := o; exact .base (.lst sq)
  | _ => cases h
theorem evs_isi {s : Sv} {T U : String} {b : Bool} (ha : EvS B ta δ (· = s)) (h : tyD s = some T) (hk : kitB T U = some b) : EvS B (tCB (rIsi B.K) (tCons ta (tCons (tC (.ty U)) tNil))) δ (Is (.bool b)) := evs_cb (eva_c ha (eva_c evs_val eva_nil)) fun H vs hh ps Q k => by
  obtain ⟨v, w, rfl, o, o2⟩ := paired2 ps
  cases o2
  exact ⟨v, _, _, _, b, rfl, .ty U, tyD_ok o h, kit_ty hk, k.dat .refl hh (DT.bl _) rfl⟩
/-- isinstance(x, (T, U)) -/
theorem evs_isi2 {s : Sv} {T U W : String} {b c : Bool} (ha : EvS B ta δ (· = s)) (h : tyD s = some T) (hk : kitB T U = some b) (hk2 : kitB T W = some c) : EvS B (tCB (rIsiT B.K) (tCons ta (tCons (tTup (tCons (tC (.ty U)) (tCons (tC (.ty W)) tNil))) tNil))) δ (Is (.bool (b || c))) := fun σ H st Q k => ha σ H st _ fun v H1 s1 r1 h1 o1 p1 => by
  subst p1
  refine ⟨by show 2 ≤ sizeLine; decide, fun p hp => ?_⟩
  have r2 : Rel B.hd H1 (upd H1 p (.tup [.ty U, .ty W])) := Rel.new hp
  have o2 := o1.mono h1 r2
  refine ⟨v, p, _, _, _, (b || c), rfl, upd_same, .cons (.ty U) (.cons (.ty W) .nil), tyD_ok o2 h, ?_, k.dat (r1.trans r2) (h1.new hp) (DT.bl _) rfl⟩
  refine kitAny_cons (kit_ty hk) (fun e => kitAny_cons (kit_ty hk2) (fun e2 => by rw [e, e2]; exact kitAny_nil) fun e2 => by rw [e, e2]; rfl) fun e => by rw [e]; rfl
/-- int(i) -/
def rInt1 : List V → Hp → VK → Prop := fun xs H Q => (∃ i, xs = [.int i] ∧ Q (.int i) H) ∨ ∃ k, xs = [.bl k] ∧ Q (.int (if k then 1 else 0)) H
theorem evs_int1 {i : Int} (ha : EvS B ta δ (Is (.int i))) : EvS B (tCB rInt1 (tCons ta tNil)) δ (Is (.int i)) := evs_cb (eva_c ha eva_nil) fun H vs hh ps Q k => by
  obtain ⟨v, rfl, o⟩ := paired1 ps
  cases DT.int_inv o
  exact .inl ⟨i, rfl, k.dat .refl hh (DT.int _) rfl⟩
/-- int(text) -/
def rIntS : List V → Hp → VK → Prop := fun xs H Q => ∃ a n, xs = [.str a] ∧ PySem.intText? a = some n ∧ a.length ≤ 640 ∧ Q (.int n) H
theorem evs_intS {x : Str} {n : Int} (ha : EvS B ta δ (Is (.str x))) (h : PySem.intText? x = some n) (hz : x.length ≤ 640) : EvS B (tCB rIntS (tCons ta tNil)) δ (Is (.int n)) := evs_cb (eva_c ha eva_nil) fun H vs hh ps Q k => by
  obtain ⟨v, rfl, o⟩ := paired1 ps
  cases DT.str_inv o
  exact ⟨x, n, rfl, h, hz, k.dat .refl hh (DT.int _) rfl⟩
/-- str(i) -/
def rStrI : List V → Hp → VK → Prop := fun xs H Q => ∃ i, xs = [.int i] ∧ i.natAbs.log2 < 1920 ∧ Q (.str (toString i)) H
theorem evs_strI {i : Int} (ha : EvS B ta δ (Is (.int i))) (hz : i.natAbs.log2 < 1920) : EvS B (tCB rStrI (tCons ta tNil)) δ (Is (.str (toString i))) := evs_cb (eva_c ha eva_nil) fun H vs hh ps Q k => by
  obtain ⟨v, rfl, o⟩ := paired1 ps
  cases DT.int_inv o
  exact ⟨i, rfl, hz, k.dat .refl hh (DT.str _) rfl⟩
/-- tuple(a list | a tuple), list(..) -/
def rTupO (K : PySem.W.Frag) : List V → Hp → VK → Prop := fun xs H Q => ∃ p ys, xs = [.ref p] ∧ ((SqL K H p ys ∧ ∀ l, H l = none → Q (.ref l) (upd H l (.tup ys))) ∨ (SqT K H p ys ∧ Q (.ref p) H))
theorem evs_tupleL {P : List PyData → Prop} (ha : EvS B ta δ (fun s => ∃ ds, s = .lst ds ∧ P ds)) : EvS B (tCB (rTupO B.K) (tCons ta tNil)) δ (fun s => ∃ ds, s = .dat (.tuple ds) ∧ P ds) := fun σ H st Q k => ha σ H st _ fun v H1 s1 r1 h1 o1 ⟨ds, p1, p2⟩ => by
  subst p1
  obtain ⟨a, xs, rfl, n, sq, t⟩ := o1
  refine ⟨a, xs, rfl, .inl ⟨SqL.of sq, fun p hp => ?_⟩⟩
  have r2 : Rel B.hd H1 (upd H1 p (.tup xs)) := Rel.new hp
  exact k.dat (r1.trans r2) (h1.new hp) (.tup (SqT.of upd_same) (DTs.mono (fun _ _ => sqT_rel h1 r2) _ _ t)) ⟨ds, rfl, p2⟩
theorem evs_tupleL1 {ds : List PyData} (ha : EvS B ta δ (· = .lst ds)) : EvS B (tCB (rTupO B.K) (tCons ta tNil)) δ (Is (.tuple ds)) := (evs_tupleL (P := (· = ds)) (ha.imp fun s e => ⟨ds, e, rfl⟩)).imp fun s ⟨es, e, q⟩ => by rw [e, q]
def rListO (K : PySem.W.Frag) : List V → Hp → VK → Prop := fun xs H Q => ∃ p ys, xs = [.ref p] ∧ (SqL K H p ys ∨ SqT K H p ys) ∧ ∀ l, H l = none → Q (.ref l) (upd H l (.lst ys))
theorem evl_list {s : Sv} {ds : List PyData} (ha : EvS B ta δ (· = s)) (hs : s = .lst ds ∨ s = .dat (.tuple ds)) : EvL B (tCB (rListO B.K) (tCons ta tNil)) δ (· = ds) := fun σ H st Q k => ha σ H st _ fun v H1 s1 r1 h1 o1 p1 => by
  subst p1
  have : ∃ a xs, v = .ref a ∧ (SqL B.K H1 a xs ∨ SqT B.K H1 a xs) ∧ DTs B.K H1 xs ds := by
    rcases hs with rfl | rfl
    · obtain ⟨a, xs, rfl, n, sq, t⟩ := o1; exact ⟨a, xs, rfl, .inl (SqL.of sq), t⟩
    · obtain ⟨a, xs, rfl, sq, t⟩ := DT.tup_inv o1; exact ⟨a, xs, rfl, .inr sq, t⟩
  obtain ⟨a, xs, rfl, sq, t⟩ := this
  refine ⟨a, xs, rfl, sq, fun p hp => ?_⟩
  have r2 : Rel B.hd H1 (upd H1 p (.lst xs)) := Rel.new hp
  exact k p xs ds _ (r1.trans r2) (h1.new hp) (free_back h1 r1 hp) upd_same (DTs.mono (fun _ _ => sqT_rel h1 r2) _ _ t) rfl
/-- all, any -/
theorem evs_all {bs : List Bool} (ha : EvS B ta δ (· = .lst (bs.map PyData.bool))) : EvS B (tCB (rAll B.K) (tCons ta tNil)) δ (Is (.bool (bs.all id))) := evs_cb (eva_c ha eva_nil) fun H vs hh ps Q k => by
  obtain ⟨v, rfl, a, xs, rfl, n, sq, t⟩ := paired1 ps
  exact ⟨a, bs, rfl, by rw [← t.bls]; exact SqL.of sq, k.dat .refl hh (DT.bl _) rfl⟩
theorem evs_any {bs : List Bool} (ha : EvS B ta δ (· = .lst (bs.map PyData.bool))) : EvS B (tCB (rAny B.K) (tCons ta tNil)) δ (Is (.bool (bs.any id))) := evs_cb (eva_c ha eva_nil) fun H vs hh ps Q k => by
  obtain ⟨v, rfl, a, xs, rfl, n, sq, t⟩ := paired1 ps
  exact ⟨a, bs, rfl, by rw [← t.bls]; exact SqL.of sq, k.dat .refl hh (DT.bl _) rfl⟩
/-- all of a list that is all True, whatever its length -/
theorem evs_allT (ha : EvS B ta δ (fun s => ∃ ds, s = .lst ds ∧ ∀ d ∈ ds, d = PyData.bool true)) : EvS B (tCB (rAll B.K) (tCons ta tNil)) δ (Is (.bool true)) := fun σ H st Q k => ha σ H st _ fun v H1 s1 r1 h1 o1 ⟨ds, p1, p2⟩ => by
  subst p1
  obtain ⟨a, xs, rfl, n, sq, t⟩ := o1
  have e : ds = (List.replicate ds.length true).map PyData.bool := by
    rw [List.map_replicate]
    exact List.eq_replicate_of_mem p2
  rw [e] at t
  have e2 := t.bls
  rw [e2] at sq
  refine ⟨a, _, rfl, SqL.of sq, ?_⟩
  have e3 : (List.replicate ds.length true).all id = true := by
    rw [List.all_eq_true]
    intro x hx
    exact (List.mem_replicate.mp hx).2
  rw [e3]
  exact k.dat r1 h1 (DT.bl _) rfl
/-- max, min -/
theorem evs_max2P {P R S : Int → Prop} (ha : EvS B ta δ (IntP P)) (hb : EvS B tb δ (IntP R)) (hs : ∀ i j, P i → R j → S (if j > i then j else i)) : EvS B (tCB Evl.rMax2 (tCons ta (tCons tb tNil))) δ (IntP S) := fun σ H st Q k =>
  ha σ H st _ fun v H1 s r1 h1 o1 ⟨i, e1, p1⟩ => hb σ H1 (st.mono r1 h1) _ fun w H2 u r2 h2 o2 ⟨j, e2, p2⟩ => by
    subst e1 e2
    cases DT.int_inv o1
    cases DT.int_inv o2
    exact ⟨i, j, rfl, k.dat (r1.trans r2) h2 (DT.int _) ⟨_, rfl, hs i j p1 p2⟩⟩
theorem evs_maxL {P : Int → Prop} (ha : EvS B ta δ (fun s => ∃ ns : List Int, s = .lst (ns.map PyData.int) ∧ 0 < ns.length)) : EvS B (tCB (rMax B.K) (tCons ta tNil)) δ (IntP fun _ => True) := fun σ H st Q k => ha σ H st _ fun v H1 s1 r1 h1 o1 ⟨ns, p1, p2⟩ => by
  subst p1
  obtain ⟨a, xs, rfl, n, sq, t⟩ := o1
  exact ⟨a, ns, rfl, by rw [← t.ints]; exact SqL.of sq, p2, fun m _ _ => k.dat r1 h1 (DT.int _) ⟨m, rfl, trivial⟩⟩
theorem evs_minL {P : Int → Prop} (ha : EvS B ta δ (fun s => ∃ ns : List Int, s = .lst (ns.map PyData.int) ∧ 0 < ns.length)) : EvS B (tCB (rMin B.K) (tCons ta tNil)) δ (IntP fun _ => True) := fun σ H st Q k => ha σ H st _ fun v H1 s1 r1 h1 o1 ⟨ns, p1, p2⟩ => by
  subst p1
  obtain ⟨a, xs, rfl, n, sq, t⟩ := o1
  exact ⟨a, ns, rfl, by rw [← t.ints]; exact SqL.of sq, p2, fun m _ _ => k.dat r1 h1 (DT.int _) ⟨m, rfl, trivial⟩⟩
/-- sorted(ints) -/
theorem evl_sortedI {ns : List Int} (ha : EvS B ta δ (· = .lst (ns.map PyData.int))) : EvL B (tCB (rSortedI B.K) (tCons ta tNil)) δ (fun ds => ∃ ms : List Int, ds = ms.map PyData.int ∧ ms.Perm ns ∧ ms.Pairwise (· ≤ ·)) := fun σ H st Q k => ha σ H st _ fun v H1 s1 r1 h1 o1 p1 => by
  subst p1
  obtain ⟨a, xs, rfl, n, sq, t⟩ := o1
  refine ⟨a, ns, rfl, by rw [← t.ints]; exact SqL.of sq, fun ms p pm pw hp => ?_⟩
  exact k p _ _ _ (r1.trans (Rel.new hp)) (h1.new hp) (free_back h1 r1 hp) upd_same (DTs.of_ints ms) ⟨ms, rfl, pm, pw⟩
/-- x in (not in) a list or tuple of flat things -/
def inD (d : PyData) (ds : List PyData) : Bool := inV (vOf d) (ds.map vOf)
def Sv.items : Sv → Option (List PyData)
  | .dat (.tuple ds) => some ds
  | .lst ds => some ds
  | .own ds => some ds
  | _ => none
theorem SvOk.items {K : PySem.W.Frag} {hd : Hand} {v : V} {s : Sv} {ds : List PyData} (o : SvOk K hd H v s) (h : s.items = some ds) : ∃ a xs, v = .ref a ∧ (SqL K H a xs ∨ SqT K H a xs) ∧ DTs K H xs ds := by
  cases s with
  | dat d =>
    cases d with
    | tuple es => cases h; obtain ⟨a, xs, rfl, sq, t⟩ := DT.tup_inv o; exact ⟨a, xs, rfl, .inr sq, t⟩
    | _ => cases h
  | lst ds => cases h; obtain ⟨a, xs, rfl, n, sq, t⟩ := o; exact ⟨a, xs, rfl, .inl (SqL.of sq), t⟩
  | own ds => cases h; obtain ⟨a, xs, rfl, n, sq, t⟩ := o; exact ⟨a, xs, rfl, .inl (SqL.of sq), t⟩
  | _ => cases h
theorem evs_in {neg : Bool} {d : PyData} {s : Sv} {ds : List PyData} (ha : EvS B ta δ (Is d)) (hb : EvS B tb δ (· = s)) (hs : s.items = some ds) (fd : flatD d = true) (fs : ds.all flatD = true) : EvS B (tOp (rIn B.K neg) ta tb) δ (Is (.bool (if neg then !inD d ds else inD d ds))) := evs_op1 ha hb fun H v w hh o1 o2 Q k => by
  obtain ⟨a, xs, rfl, sq, t⟩ := o2.items hs
  have e1 := DT.flat o1 fd
  have e2 := t.flat fs
  subst e1 e2
  exact ⟨a, _, rfl, sq, flatV_vOf fd, all_flatV fs, k.dat .refl hh (DT.bl _) rfl⟩
/-- one sign in a text -/
def rInSg : R2 := fun x y H Q => ∃ (c : Nat) (z : Str), x = .str ⟨#[c]⟩ ∧ y = .str z ∧ Q (.bl (decide (c ∈ z.cps.toList))) H
theorem evs_inSg {c : Nat} {z : Str} (ha : EvS B ta δ (Is (.str ⟨#[c]⟩))) (hb : EvS B tb δ (Is (.str z))) : EvS B (tOp rInSg ta tb) δ (Is (.bool (decide (c ∈ z.cps.toList)))) := evs_op1 ha hb fun H v w hh o1 o2 Q k =>
  ⟨c, z, DT.str_inv o1, DT.str_inv o2, k.dat .refl hh (DT.bl _) rfl⟩
/-- a op b op c -/
theorem evs_chain {g g' : Int → Int → Bool} {i j l : Int} (ha : EvS B ta δ (Is (.int i))) (hb : EvS B tb δ (Is (.int j))) (hc : g i j = true → EvS B tc δ (Is (.int l))) : EvS B (tChain (rI0 fun i j => .bl (g i j)) (rI0 fun i j => .bl (g' i j)) ta tb tc) δ (Is (.bool (g i j && g' j l))) := fun σ H st Q k =>
  ha σ H st _ fun v H1 s r1 h1 o1 e1 => hb σ H1 (st.mono r1 h1) _ fun w H2 u r2 h2 o2 e2 => by
    subst e1 e2
    cases DT.int_inv o1
    cases DT.int_inv o2
    refine ⟨i, j, rfl, rfl, g i j, rfl, ?_⟩
    cases hg : g i j with
    | false => exact iteF (k.dat (r1.trans r2) h2 (DT.bl _) (by rw [hg]; rfl))
    | true => exact iteT (hc hg σ H2 ((st.mono r1 h1).mono r2 h2) _ fun x H3 u3 r3 h3 o3 e3 => by
        subst e3
        cases DT.int_inv o3
        exact ⟨j, l, rfl, rfl, k.dat ((r1.trans r2).trans r3) h3 (DT.bl _) (by rw [hg]; rfl)⟩)
/-! ### tuples and lists put together, cut -/
theorem evs_catA {ds es : List PyData} (ha : EvS B ta δ (Is (.tuple ds))) (hb : EvS B tb δ (Is (.tuple es))) (hz : ds.length + es.length ≤ 16000000) : EvS B (tOp (rCatA B.K) ta tb) δ (Is (.tuple (ds ++ es))) := evs_op1 ha hb fun H v w hh o1 o2 Q k => by
  obtain ⟨a, xs, rfl, sa, t1⟩ := DT.tup_inv o1
  obtain ⟨b, ys, rfl, sb, t2⟩ := DT.tup_inv o2
  refine ⟨a, b, xs, ys, rfl, rfl, sa, sb, by rw [t1.length, t2.length]; exact Nat.le_trans hz (by decide), fun e => ?_, fun n e => ?_, fun n m p hp => ?_⟩
  · subst e
    have : ds = [] := List.length_eq_zero_iff.mp t1.length.symm
    subst this
    exact k.dat .refl hh o2 rfl
  · subst e
    have : es = [] := List.length_eq_zero_iff.mp t2.length.symm
    subst this
    rw [List.append_nil] at k
    exact k.dat .refl hh o1 rfl
  · have r2 : Rel B.hd H (upd H p (.tup (xs ++ ys))) := Rel.new hp
    exact k.dat r2 (hh.new hp) (.tup (SqT.of upd_same) (DTs.mono (fun _ _ => sqT_rel hh r2) _ _ (t1.append t2))) rfl
theorem evl_cat {ds es : List PyData} (ha : EvS B ta δ (· = .lst ds)) (hb : EvS B tb δ (· = .lst es)) (hz : ds.length + es.length ≤ 16000000) : EvL B (tOp rCat ta tb) δ (· = ds ++ es) := evl_op1 ha hb fun H v w hh o1 o2 Q k => by
  obtain ⟨a, xs, rfl, _, sa, t1⟩ := o1
  obtain ⟨b, ys, rfl, _, sb, t2⟩ := o2
  refine ⟨a, b, xs, ys, rfl, rfl, sa, sb, by rw [t1.length, t2.length]; exact Nat.le_trans hz (by decide), fun p hp => ?_⟩
  have r2 : Rel B.hd H (upd H p (.lst (xs ++ ys))) := Rel.new hp
  exact k p _ _ _ r2 (hh.new hp) hp upd_same (DTs.mono (fun _ _ => sqT_rel hh r2) _ _ (t1.append t2)) rfl
theorem evl_catP {P R S : List PyData → Prop} (ha : EvS B ta δ (fun s => ∃ ds, s = .lst ds ∧ P ds)) (hb : EvS B tb δ (fun s => ∃ ds, s = .lst ds ∧ R ds)) (hs : ∀ ds es, P ds → R es → ds.length + es.length ≤ 16000000 ∧ S (ds ++ es)) : EvL B (tOp rCat ta tb) δ S := evl_op ha hb fun s u ⟨ds, e1, p1⟩ ⟨es, e2, p2⟩ => by
  subst e1 e2
  intro H v w hh o1 o2 Q k
  obtain ⟨a, xs, rfl, _, sa, t1⟩ := o1
  obtain ⟨b, ys, rfl, _, sb, t2⟩ := o2
  refine ⟨a, b, xs, ys, rfl, rfl, sa, sb, by rw [t1.length, t2.length]; exact Nat.le_trans (hs ds es p1 p2).1 (by decide), fun p hp => ?_⟩
  have r2 : Rel B.hd H (upd H p (.lst (xs ++ ys))) := Rel.new hp
  exact k p _ _ _ r2 (hh.new hp) hp upd_same (DTs.mono (fun _ _ => sqT_rel hh r2) _ _ (t1.append t2)) (hs ds es p1 p2).2
/-- a slice's part -/
def EvO (B : Bx) (to : TO) (δ : Dn) (o : Option Int) : Prop := ∀ σ H, StB B H σ δ → ∀ Q : Option Int → Hp → Prop, (∀ H', Rel B.hd H H' → Hands B.hd H' → Q o H') → to σ H Q
theorem evo_none : EvO B tNoPart δ none := fun σ H st Q k => k H .refl st.hh
theorem evo_some {i : Int} (h : EvS B te δ (Is (.int i))) : EvO B (tPart te) δ (some i) := fun σ H st Q k => h σ H st _ fun v H1 s r1 h1 o1 e1 => by
  subst e1
  exact ⟨i, DT.int_inv o1, k H1 r1 h1⟩
def cutD (ds : List PyData) (lo hi : Option Int) : List PyData := (ds.drop (HT.sIx ds.length 0 lo)).take (HT.sIx ds.length ds.length hi - HT.sIx ds.length 0 lo)
theorem DTs.cut {K : PySem.W.Frag} {xs : List V} {ds : List PyData} (t : DTs K H xs ds) (lo hi : Option Int) : DTs K H (cutV xs lo hi) (cutD ds lo hi) := by
  unfold cutV cutD
  rw [t.length]
  exact (t.drop _).take _
theorem cut_all {ds : List PyData} {lo hi : Option Int} (h : HT.sIx ds.length 0 lo = 0 ∧ HT.sIx ds.length ds.length hi = ds.length) : cutD ds lo hi = ds := by
  unfold cutD
  rw [h.1, h.2]
  simp
theorem evs_slT {tl th : TO} {ds : List PyData} {lo hi : Option Int} (ha : EvS B ta δ (Is (.tuple ds))) (h1 : EvO B tl δ lo) (h2 : EvO B th δ hi) : EvS B (tSl (rSlA B.K) ta tl th) δ (Is (.tuple (cutD ds lo hi))) := fun σ H st Q k => ha σ H st _ fun v H1 s1 r1 hh1 o1 p1 =>
  h1 σ H1 (st.mono r1 hh1) _ fun H2 r2 hh2 => h2 σ H2 ((st.mono r1 hh1).mono r2 hh2) _ fun H3 r3 hh3 => by
    subst p1
    have o3 := (o1.mono hh1 r2).mono hh2 r3
    obtain ⟨a, xs, rfl, sq, t⟩ := DT.tup_inv o3
    refine ⟨a, xs, rfl, sq, fun e => ?_, fun _ p hp => ?_⟩
    · rw [t.length] at e
      rw [cut_all e] at k
      exact k.dat ((r1.trans r2).trans r3) hh3 o3 rfl
    · have r4 : Rel B.hd H3 (upd H3 p (.tup (cutV xs lo hi))) := Rel.new hp
      exact k.dat (((r1.trans r2).trans r3).trans r4) (hh3.new hp) (.tup (SqT.of upd_same) (DTs.mono (fun _ _ => sqT_rel hh3 r4) _ _ (t.cut lo hi))) rfl
theorem evl_slL {tl th : TO} {ds : List PyData} {lo hi : Option Int} (ha : EvS B ta δ (· = .lst ds)) (h1 : EvO B tl δ lo) (h2 : EvO B th δ hi) : EvL B (tSl (rSlL B.K) ta tl th) δ (· = cutD ds lo hi) := fun σ H st Q k => ha σ H st _ fun v H1 s1 r1 hh1 o1 p1 =>
  h1 σ H1 (st.mono r1 hh1) _ fun H2 r2 hh2 => h2 σ H2 ((st.mono r1 hh1).mono r2 hh2) _ fun H3 r3 hh3 => by
    subst p1
    have o3 := (o1.mono hh1 r2).mono hh2 r3
    obtain ⟨a, xs, rfl, n, sq, t⟩ := o3
    refine ⟨a, xs, rfl, SqL.of sq, fun p hp => ?_⟩
    have r4 : Rel B.hd H3 (upd H3 p (.lst (cutV xs lo hi))) := Rel.new hp
    exact k p _ _ _ (((r1.trans r2).trans r3).trans r4) (hh3.new hp) (free_back hh3 ((r1.trans r2).trans r3) hp) upd_same (DTs.mono (fun _ _ => sqT_rel hh3 r4) _ _ (t.cut lo hi)) rfl
theorem evs_slS {tl th : TO} {x : Str} {lo hi : Option Int} (ha : EvS B ta δ (Is (.str x))) (h1 : EvO B tl δ lo) (h2 : EvO B th δ hi) (hz : x.length ≤ 16000000) : EvS B (tSl rSlS ta tl th) δ (Is (.str (cutS x lo hi))) := fun σ H st Q k => ha σ H st _ fun v H1 s1 r1 hh1 o1 p1 =>
  h1 σ H1 (st.mono r1 hh1) _ fun H2 r2 hh2 => h2 σ H2 ((st.mono r1 hh1).mono r2 hh2) _ fun H3 r3 hh3 => by
    subst p1
    exact ⟨x, DT.str_inv o1, Nat.le_trans hz (by decide), k.dat ((r1.trans r2).trans r3) hh3 (DT.str _) rfl⟩
theorem evl_rev {ds : List PyData} (ha : EvS B ta δ (· = .lst ds)) : EvL B (tRevL B.K ta) δ (· = ds.reverse) := fun σ H st Q k => ha σ H st _ fun v H1 s1 r1 hh1 o1 p1 => by
  subst p1
  obtain ⟨a, xs, rfl, n, sq, t⟩ := o1
  refine ⟨a, xs, rfl, SqL.of sq, fun p hp => ?_⟩
  have r4 : Rel B.hd H1 (upd H1 p (.lst xs.reverse)) := Rel.new hp
  exact k p _ _ _ (r1.trans r4) (hh1.new hp) (free_back hh1 r1 hp) upd_same (DTs.mono (fun _ _ => sqT_rel hh1 r4) _ _ t.reverse) rfl
/-! ### texts -/
def rSplit : V → List V → Hp → VK → Prop := fun x xs H Q => ∃ a b, x = .str a ∧ xs = [.str b] ∧ (b.length == 0) = false ∧ a.length + 2 ≤ sizeLine ∧ rNewStrs (Txt.split a b) H Q
theorem evl_split {x y : Str} (ha : EvS B ta δ (Is (.str x))) (hb : EvS B tb δ (Is (.str y))) (hy : (y.length == 0) = false) (hz : x.length ≤ 16000000) : EvL B (tM1 rSplit ta tb) δ (· = (Txt.split x y).map PyData.str) := fun σ H st Q k =>
  ha σ H st _ fun v H1 s r1 h1 o1 e1 => by
    subst e1
    cases DT.str_inv o1
    refine ⟨⟨x, rfl⟩, hb σ H1 (st.mono r1 h1) _ fun w H2 u r2 h2 o2 e2 => ?_⟩
    subst e2
    cases DT.str_inv o2
    refine ⟨x, y, rfl, rfl, hy, Nat.le_trans (Nat.add_le_add_right hz 2) (by decide), fun p hp => ?_⟩
    exact k p _ _ _ ((r1.trans r2).trans (Rel.new hp)) (h2.new hp) (free_back h2 (r1.trans r2) hp) upd_same (DTs.of_strs _) rfl
def rJoin (K : PySem.W.Frag) : V → List V → Hp → VK → Prop := fun x xs H Q => ∃ a p, ∃ ys : List Str, x = .str a ∧ xs = [.ref p] ∧ (SqL K H p (ys.map V.str) ∨ SqT K H p (ys.map V.str)) ∧ (ys.map (·.length)).sum + ys.length * a.length ≤ 16777216 ∧ Q (.str (Txt.join a ys)) H
theorem evs_join {x : Str} {ys : List Str} (ha : EvS B ta δ (Is (.str x))) (hb : EvS B tb δ (· = .lst (ys.map PyData.str))) (hz : (ys.map (·.length)).sum + ys.length * x.length ≤ 16777216) : EvS B (tM1 (rJoin B.K) ta tb) δ (Is (.str (Txt.join x ys))) := fun σ H st Q k =>
  ha σ H st _ fun v H1 s r1 h1 o1 e1 => by
    subst e1
    cases DT.str_inv o1
    refine ⟨⟨x, rfl⟩, hb σ H1 (st.mono r1 h1) _ fun w H2 u r2 h2 o2 e2 => ?_⟩
    subst e2
    obtain ⟨a, xs, rfl, n, sq, t⟩ := o2
    exact ⟨x, a, ys, rfl, rfl, .inl (by rw [← t.strs]; exact SqL.of sq), hz, k.dat (r1.trans r2) h2 (DT.str _) rfl⟩
end
end K32
/-! Layer D, part 3: statements, loops, comprehensions, defs. -/
namespace K32
open PySem PySem.Spec PyProof.Rows L2
/-! ### statements -/
structure PD where
  nx : Dn → Prop := fun _ => False
  rt : Sv → Prop := fun _ => False
  bk : Dn → Prop := fun _ => False
  ct : Dn → Prop := fun _ => False
structure Good (B : Bx) (D : Ends) (N : PD) : Prop where
  nx : ∀ σ H δ, StB B H σ δ → N.nx δ → D.nx σ H
  rt : ∀ v H s, Rel B.hd B.H0 H → Hands B.hd H → SvOk B.K B.hd H v s → Fresh B.H0 v s → N.rt s → D.rt v H
  bk : ∀ σ H δ, StB B H σ δ → N.bk δ → D.bk σ H
  ct : ∀ σ H δ, StB B H σ δ → N.ct δ → D.ct σ H
def SX (B : Bx) (t : TS) (δ : Dn) (N : PD) : Prop := ∀ σ H, StB B H σ δ → ∀ D : Ends, Good B D N → t D σ H
section
variable {B : Bx} {H H' H1 : Hp} {σ : L2.St} {δ : Dn} {te ta tb : TE} {S P R : Sv → Prop} {tt : TT} {t u w : TS} {N M : PD}
theorem SX.imp (h : SX B t δ M) (h1 : ∀ δ, M.nx δ → N.nx δ) (h2 : ∀ s, M.rt s → N.rt s) (h3 : ∀ δ, M.bk δ → N.bk δ := by intro _ q; exact q.elim) (h4 : ∀ δ, M.ct δ → N.ct δ := by intro _ q; exact q.elim) : SX B t δ N := fun σ H st D g =>
  h σ H st D ⟨fun σ H δ s q => g.nx σ H δ s (h1 δ q), fun v H s a b c d e => g.rt v H s a b c d (h2 s e), fun σ H δ s q => g.bk σ H δ s (h3 δ q), fun σ H δ s q => g.ct σ H δ s (h4 δ q)⟩
theorem sx_seq {G : Dn → Prop} (h : SX B t δ { N with nx := G }) (k : ∀ δ', G δ' → SX B u δ' N) : SX B (tSeq t u) δ N := fun σ H st D g =>
  h σ H st _ ⟨fun σ' H' δ' s q => k δ' q σ' H' s D g, g.rt, g.bk, g.ct⟩
theorem sx_next (h : N.nx δ) : SX B tNext δ N := fun σ H st D g => g.nx σ H δ st h
theorem sx_break (h : N.bk δ) : SX B tBreak δ N := fun σ H st D g => g.bk σ H δ st h
theorem sx_cont (h : N.ct δ) : SX B tCont δ N := fun σ H st D g => g.ct σ H δ st h
/-- what falls off: a slot is stored, then on -/
theorem sx_asg {i : Nat} (h : EvS B te δ P) (hs : ∀ s, P s → s.isL = false) (k : ∀ s, P s → N.nx (δ.set i (some s))) : SX B (tAsg te (gName i)) δ N := fun σ H st D g => h σ H st _ fun v H1 s r1 h1 o1 p1 =>
  g.nx _ H1 _ ((st.mono r1 h1).set i o1 (hs s p1)) (k s p1)
theorem sx_asg1 {i : Nat} {s : Sv} (h : EvS B te δ (· = s)) (hs : s.isL = false) (k : N.nx (δ.set i (some s))) : SX B (tAsg te (gName i)) δ N := sx_asg h (fun _ e => by rw [e]; exact hs) fun _ e => by rw [e]; exact k
theorem sx_asgL {i : Nat} {P : List PyData → Prop} (h : EvL B te δ P) (k : ∀ ds, P ds → N.nx (δ.set i (some (.own ds)))) : SX B (tAsg te (gName i)) δ N := fun σ H st D g => h σ H st _ fun a xs ds H1 r1 h1 ha hl t p1 =>
  g.nx _ H1 _ (st.set_new i ha r1 h1 hl t) (k ds p1)
/-- one assignment, then the rest -/
theorem q_asg {i : Nat} (h : EvS B te δ P) (hs : ∀ s, P s → s.isL = false) (k : ∀ s, P s → SX B u (δ.set i (some s)) N) : SX B (tSeq (tAsg te (gName i)) u) δ N := sx_seq (G := fun δ' => ∃ s, P s ∧ δ' = δ.set i (some s)) (sx_asg h hs fun s p => ⟨s, p, rfl⟩) fun δ' ⟨s, p, e⟩ => by rw [e]; exact k s p
theorem q_asg1 {i : Nat} {s : Sv} (h : EvS B te δ (· = s)) (hs : s.isL = false) (k : SX B u (δ.set i (some s)) N) : SX B (tSeq (tAsg te (gName i)) u) δ N := q_asg h (fun _ e => by rw [e]; exact hs) fun _ e => by rw [e]; exact k
theorem q_asgL {i : Nat} {P : List PyData → Prop} (h : EvL B te δ P) (k : ∀ ds, P ds → SX B u (δ.set i (some (.own ds))) N) : SX B (tSeq (tAsg te (gName i)) u) δ N := sx_seq (G := fun δ' => ∃ ds, P ds ∧ δ' = δ.set i (some (.own ds))) (sx_asgL h fun ds p => ⟨ds, p, rfl⟩) fun δ' ⟨s, p, e⟩ => by rw [e]; exact k s p
theorem q_asgL1 {i : Nat} {ds : List PyData} (h : EvL B te δ (· = ds)) (k : SX B u (δ.set i (some (.own ds))) N) : SX B (tSeq (tAsg te (gName i)) u) δ N := q_asgL h fun _ e => by rw [e]; exact k
theorem sx_if {P : Bool → Prop} (h : EvT B tt δ P) (h1 : P true → SX B u δ N) (h2 : P false → SX B w δ N) : SX B (tIfS tt u w) δ N := fun σ H st D g => h σ H st _ fun b H1 r1 hh1 p1 => by
  cases b with
  | true => exact iteT (h1 p1 σ H1 (st.mono r1 hh1) D g)
  | false => exact iteF (h2 p1 σ H1 (st.mono r1 hh1) D g)
/-- an if without else, the rest behind both -/
theorem q_if {P : Bool → Prop} (h : EvT B tt δ P) (h1 : P true → SX B (tSeq u t) δ N) (h2 : P false → SX B (tSeq w t) δ N) : SX B (tSeq (tIfS tt u w) t) δ N := fun σ H st D g => h σ H st _ fun b H1 r1 hh1 p1 => by
  cases b with
  | true => exact iteT (h1 p1 σ H1 (st.mono r1 hh1) D g)
  | false => exact iteF (h2 p1 σ H1 (st.mono r1 hh1) D g)
theorem q_next (h : SX B t δ N) : SX B (tSeq tNext t) δ N := h
/-- the test is known -/
theorem q_no (h : EvT B tt δ (· = false)) (h2 : SX B t δ N) : SX B (tSeq (tIfS tt u tNext) t) δ N := q_if h (fun e => Bool.noConfusion (show true = false from e)) fun _ => h2
theorem sx_no (h : EvT B tt δ (· = false)) (h2 : SX B w δ N) : SX B (tIfS tt u w) δ N := sx_if h (fun e => Bool.noConfusion (show true = false from e)) fun _ => h2
theorem sx_yes (h : EvT B tt δ (· = true)) (h2 : SX B u δ N) : SX B (tIfS tt u w) δ N := sx_if h (fun _ => h2) (fun e => Bool.noConfusion (show false = true from e))
theorem q_ret (h : SX B t δ N) : SX B t δ N := h
theorem sx_retP (h : EvS B te δ P) (hs : ∀ s, P s → s.isL = false) (k : ∀ s, P s → N.rt s) : SX B (tRet te) δ N := fun σ H st D g => h σ H st _ fun v H1 s r1 h1 o1 p1 =>
  g.rt v H1 s (st.rel.trans r1) h1 o1 (fun q => by rw [hs s p1] at q; cases q) (k s p1)
theorem sx_ret {d : PyData} (h : EvS B te δ (Is d)) (k : N.rt (.dat d)) : SX B (tRet te) δ N := sx_retP h (fun _ e => by rw [e]; rfl) fun _ e => by rw [e]; exact k
theorem sx_retL {P : List PyData → Prop} (h : EvL B te δ P) (k : ∀ ds, P ds → N.rt (.lst ds)) : SX B (tRet te) δ N := fun σ H st D g => h σ H st _ fun a xs ds H1 r1 h1 ha hl t p1 =>
  g.rt _ H1 (.lst ds) (st.rel.trans r1) h1 ⟨a, xs, rfl, st.hh.ne_free ha, hl, t⟩ (fun _ b e => by cases e; exact st.h0_free ha) (k ds p1)
/-- return of an own list -/
theorem sx_retO {i : Nat} {ds : List PyData} (h : δ[i]? = some (some (.own ds))) (k : N.rt (.lst ds)) : SX B (tRet (tVar i)) δ N := fun σ H st D g => by
  obtain ⟨v, e, a, xs, rfl, n, q, t⟩ := st.ok i _ h
  exact ⟨_, e, g.rt _ H (.lst ds) st.rel st.hh ⟨a, xs, rfl, n, q, t⟩ (fun _ b e' => by cases e'; exact (st.own i ds a h e).1) k⟩
theorem sx_drop (h : EvS B te δ P) (k : N.nx δ) : SX B (tDrop te) δ N := fun σ H st D g => h σ H st _ fun v H1 s r1 h1 o1 p1 => g.nx _ H1 δ (st.mono r1 h1) k
/-- xs.append(e), xs of the def's own at slot i -/
theorem sx_app {i : Nat} {ds : List PyData} {P : PyData → Prop} (hi : δ[i]? = some (some (.own ds))) (h : EvS B te δ (fun s => ∃ d, s = .dat d ∧ P d)) (hz : ds.length ≤ 1000000) (k : ∀ d, P d → N.nx (δ.set i (some (.own (ds ++ [d]))))) :
    SX B (tDrop (tBM B.K "list" rAppend (tVar i) (tCons te tNil))) δ N := fun σ H st D g => by
  obtain ⟨v, e, a, xs, rfl, n, q, t⟩ := st.ok i _ hi
  refine ⟨_, e, .inl ⟨rfl, xs, SqL.of q⟩, h σ H st _ fun w H1 s r1 h1 o1 ⟨d, p1, p2⟩ => ?_⟩
  subst p1
  have st1 := st.mono r1 h1
  have q1 : H1 a = some (.lst xs) := r1 a _ n q
  have t1 := DTs.mono (fun _ _ => sqT_rel st.hh r1) _ _ t
  refine ⟨a, xs, w, rfl, rfl, q1, by rw [t.length]; exact Nat.lt_of_le_of_lt hz (by decide), ?_⟩
  exact g.nx _ _ _ (st1.upd_own hi e (t1.append (.cons o1 .nil))) (k d p2)
theorem sx_app1 {i : Nat} {ds : List PyData} {d : PyData} (hi : δ[i]? = some (some (.own ds))) (h : EvS B te δ (Is d)) (hz : ds.length ≤ 1000000) (k : N.nx (δ.set i (some (.own (ds ++ [d]))))) :
    SX B (tDrop (tBM B.K "list" rAppend (tVar i) (tCons te tNil))) δ N := sx_app (P := (· = d)) hi (h.imp fun s e => ⟨d, e, rfl⟩) hz fun _ e => by rw [e]; exact k
/-- xs.extend(a new list) -/
theorem sx_ext {i : Nat} {ds : List PyData} {P : List PyData → Prop} (hi : δ[i]? = some (some (.own ds))) (h : EvL B te δ P) (hz : ∀ es, P es → ds.length + es.length ≤ 1000000) (k : ∀ es, P es → N.nx (δ.set i (some (.own (ds ++ es))))) :
    SX B (tDrop (tBM B.K "list" rExtend (tVar i) (tCons te tNil))) δ N := fun σ H st D g => by
  obtain ⟨v, e, a, xs, rfl, n, q, t⟩ := st.ok i _ hi
  refine ⟨_, e, .inl ⟨rfl, xs, SqL.of q⟩, h σ H st _ fun b ys es H1 r1 h1 hb hl t2 p2 => ?_⟩
  have st1 := st.mono r1 h1
  have q1 : H1 a = some (.lst xs) := r1 a _ n q
  have t1 := DTs.mono (fun _ _ => sqT_rel st.hh r1) _ _ t
  refine ⟨a, b, xs, ys, rfl, rfl, q1, hl, by rw [t.length, t2.length]; exact Nat.le_trans (hz es p2) (by decide), ?_⟩
  exact g.nx _ _ _ (st1.upd_own hi e (t1.append t2)) (k es p2)
/-- (a, b, ..) = a tuple -/
def putL : List Nat → List PyData → Dn → Dn
  | i :: is, d :: ds, δ => putL is ds (δ.set i (some (.dat d)))
  | _, _, δ => δ
def gNames : List Nat → TGs
  | [] => gNil
  | i :: is => gCons (gName i) (gNames is)
theorem gNames_ok : ∀ (is : List Nat) (xs : List V) (ds : List PyData) (δ : Dn) (σ : L2.St) (H : Hp), StB B H σ δ → DTs B.K H xs ds → is.length = ds.length → ∀ Q : L2.St → Hp → Prop, (∀ σ', StB B H σ' (putL is ds δ) → (∀ j, j ∉ is → σ'[j]? = σ[j]?) → σ'.length = σ.length → Q σ' H) → gNames is xs σ H Q
  | [], _, _, δ, σ, H, st, .nil, _, Q, k => ⟨rfl, k σ st (fun _ _ => rfl) rfl⟩
  | [], _, _, _, _, _, _, .cons _ _, h, _, _ => nomatch h
  | _ :: _, _, _, _, _, _, _, .nil, h, _, _ => nomatch h
  | i :: is, _, _, δ, σ, H, st, .cons (v := v) (vs := vs) (d := d) (ds := ds) o t, h, Q, k => ⟨v, vs, rfl, gNames_ok is vs ds _ _ H (st.set i (s := .dat d) o rfl) t (Nat.succ.inj h) Q fun σ' s e l => k σ' s (fun j hj => by
      rw [e j (fun z => hj (List.mem_cons_of_mem _ z)), List.getElem?_set_ne (fun z => hj (by rw [z]; exact List.mem_cons_self))]) (by rw [l, List.length_set])⟩
theorem sx_unp {is : List Nat} {n : Nat} {ds : List PyData} (h : EvS B te δ (Is (.tuple ds))) (hl : is.length = ds.length) (hn : n = ds.length) (k : N.nx (putL is ds δ)) : SX B (tAsg te (gTup B.K n (gNames is))) δ N := fun σ H st D g => h σ H st _ fun v H1 s r1 h1 o1 p1 => by
  subst p1
  obtain ⟨a, xs, rfl, sq, t⟩ := DT.tup_inv o1
  exact ⟨a, xs, rfl, sq, by rw [t.length, hn], gNames_ok is xs ds δ σ H1 (st.mono r1 h1) t hl _ fun σ' s _ _ => g.nx _ _ _ s k⟩
theorem q_unp {is : List Nat} {n : Nat} {ds : List PyData} (h : EvS B te δ (Is (.tuple ds))) (hl : is.length = ds.length) (hn : n = ds.length) (k : SX B u (putL is ds δ) N) : SX B (tSeq (tAsg te (gTup B.K n (gNames is))) u) δ N :=
  sx_seq (G := fun δ' => δ' = putL is ds δ) (sx_unp h hl hn rfl) fun δ' e => by rw [e]; exact k
/-- a tuple told by a property -/
theorem q_unpP {is : List Nat} {n : Nat} {P : List PyData → Prop} (h : EvS B te δ (fun s => ∃ ds, s = .dat (.tuple ds) ∧ P ds)) (hl : ∀ ds, P ds → is.length = ds.length ∧ n = ds.length) (k : ∀ ds, P ds → SX B u (putL is ds δ) N) : SX B (tSeq (tAsg te (gTup B.K n (gNames is))) u) δ N := fun σ H st D g => h σ H st _ fun v H1 s r1 h1 o1 ⟨ds, p1, p2⟩ => by
  subst p1
  obtain ⟨a, xs, rfl, sq, t⟩ := DT.tup_inv o1
  exact ⟨a, xs, rfl, sq, by rw [t.length, (hl ds p2).2], gNames_ok is xs ds δ σ H1 (st.mono r1 h1) t (hl ds p2).1 _ fun σ' s _ _ => k ds p2 σ' H1 s D g⟩
/-! ### what is walked -/
structure Src (B : Bx) (J : It) (g : TG) (n : Nat) (put : Nat → Dn → Dn) (vs : List Nat) : Prop where
  go : ∀ i H σ δ, StB B H σ δ → i < n → J.go i H
  stop : ∀ i H σ δ, StB B H σ δ → n ≤ i → J.stop i H
  yld : ∀ i H σ δ x H', StB B H σ δ → i < n → J.yld i H x H' → ∀ k : L2.St → Hp → Prop, (∀ σ2 H2, Rel B.hd H H2 → Hands B.hd H2 → StB B H2 σ2 (put i δ) → (∀ j, j ∉ vs → σ2[j]? = σ[j]?) → σ2.length = σ.length → k σ2 H2) → g x σ H' k
/-- an iterable: B with what must stay put -/
def EvI (B : Bx) (wi : TI) (δ : Dn) (g : TG) (vs : List Nat) (S : Nat → (Nat → Dn → Dn) → Prop) : Prop := ∀ σ H, StB B H σ δ → ∀ R : It → Hp → Prop, (∀ J H' γ n put, Rel B.hd H H' → Hands B.hd H' → StB (B.add γ) H' σ δ → Src (B.add γ) J g n put vs → S n put → R J H') → wi σ H R
def putN (j : Nat) (ds : List PyData) : Nat → Dn → Dn := fun i δ => δ.set j (some (.dat (ds.getD i .none)))
theorem set_off {α : Type} {l : List α} {j : Nat} {x : α} : ∀ k, k ∉ [j] → (l.set j x)[k]? = l[k]? := fun k h => List.getElem?_set_ne fun e => h (by rw [e]; exact List.mem_singleton.mpr rfl)
theorem StB.ghost (st : StB B H σ δ) {v : V} {s : Sv} (o : SvOk B.K B.hd H v s) (hs : s.isL = false) : StB (B.add [(v, s)]) H σ δ :=
  ⟨st.rel, st.h0, st.hh, st.len, st.ok, fun w u m c => by
    rcases List.mem_append.mp m with m | m
    · rw [List.mem_singleton] at m; cases m; exact o
    · exact st.gh w u m c, fun i ds a e1 e2 => by
    obtain ⟨a1, a2, a3⟩ := st.own i ds a e1 e2
    refine ⟨a1, a2, fun u m => ?_⟩
    rcases List.mem_append.mp m with m | m
    · rw [List.mem_singleton] at m; cases m; exact hs
    · exact a3 u m⟩
/-- a list kept beside: one that is no own slot's -/
theorem StB.ghostL (st : StB B H σ δ) {a : Addr} {s : Sv} (o : SvOk B.K B.hd H (.ref a) s) (hn : ∀ (i : Nat) (ds : List PyData), δ[i]? = some (some (Sv.own ds)) → σ[i]? ≠ some (some (V.ref a))) : StB (B.add [(.ref a, s)]) H σ δ :=
  ⟨st.rel, st.h0, st.hh, st.len, st.ok, fun w u m c => by
    rcases List.mem_append.mp m with m | m
    · rw [List.mem_singleton] at m; cases m; exact o
    · exact st.gh w u m c, fun i ds b e1 e2 => by
    obtain ⟨a1, a2, a3⟩ := st.own i ds b e1 e2
    refine ⟨a1, a2, fun u m => ?_⟩
    rcases List.mem_append.mp m with m | m
    · rw [List.mem_singleton] at m; cases m; exact absurd e2 (hn i ds e1)
    · exact a3 u m⟩
theorem gh_head {γ : V × Sv} (st : StB (B.add [γ]) H σ δ) (c : γ.2.calm = true := by rfl) : SvOk B.K B.hd H γ.1 γ.2 := st.gh γ.1 γ.2 (List.mem_append_left _ (List.mem_singleton.mpr rfl)) c
theorem src_tup {a : Addr} {ds : List PyData} {j : Nat} : Src (B.add [(.ref a, .dat (.tuple ds))]) (Itt B.K a) (gName j) ds.length (putN j ds) [j] where
  go i H σ δ st hi := by
    obtain ⟨b, xs, e, sq, t⟩ := DT.tup_inv (gh_head st); cases e
    obtain ⟨x, hx, _⟩ := t.get (List.getElem?_eq_getElem hi)
    exact ⟨xs, x, sq, hx⟩
  stop i H σ δ st hi := by
    obtain ⟨b, xs, e, sq, t⟩ := DT.tup_inv (gh_head st); cases e
    exact ⟨xs, sq, by rw [t.length]; exact hi⟩
  yld i H σ δ x H' st hi h k kk := by
    obtain ⟨rfl, h2⟩ := h
    obtain ⟨b, xs, e, sq, t⟩ := DT.tup_inv (gh_head st); cases e
    obtain ⟨d, hd, o⟩ := t.getV (h2 xs sq)
    exact kk _ _ .refl st.hh (by unfold putN; rw [List.getD_eq_getElem?_getD, hd]; exact st.set j (s := .dat d) o rfl) set_off (by rw [List.length_set])
theorem src_lst {a : Addr} {s : Sv} {ds : List PyData} {j : Nat} (hs : s = .lst ds) : Src (B.add [(.ref a, s)]) (Itl B.K a) (gName j) ds.length (putN j ds) [j] where
  go i H σ δ st hi := by
    subst hs
    obtain ⟨b, xs, e, n, sq, t⟩ := gh_head st; cases e
    obtain ⟨x, hx, _⟩ := t.get (List.getElem?_eq_getElem hi)
    exact ⟨xs, x, SqL.of sq, hx⟩
  stop i H σ δ st hi := by
    subst hs
    obtain ⟨b, xs, e, n, sq, t⟩ := gh_head st; cases e
    exact ⟨xs, SqL.of sq, by rw [t.length]; exact hi⟩
  yld i H σ δ x H' st hi h k kk := by
    subst hs
    obtain ⟨rfl, h2⟩ := h
    obtain ⟨b, xs, e, n, sq, t⟩ := gh_head st; cases e
    obtain ⟨d, hd, o⟩ := t.getV (h2 xs (SqL.of sq))
    exact kk _ _ .refl st.hh (by unfold putN; rw [List.getD_eq_getElem?_getD, hd]; exact st.set j (s := .dat d) o rfl) set_off (by rw [List.length_set])
/-- for x in a tuple -/
theorem evi_tup {P : List PyData → Prop} {j : Nat} (h : EvS B te δ (fun s => ∃ ds, s = .dat (.tuple ds) ∧ P ds)) : EvI B (iTup B.K te) δ (gName j) [j] (fun n put => ∃ ds, P ds ∧ n = ds.length ∧ put = putN j ds) := fun σ H st R k => h σ H st _ fun v H1 s r1 h1 o1 ⟨ds, p1, p2⟩ => by
  subst p1
  obtain ⟨a, xs, rfl, sq, t⟩ := DT.tup_inv o1
  exact ⟨a, rfl, ⟨xs, sq⟩, k _ H1 [(.ref a, .dat (.tuple ds))] _ _ r1 h1 ((st.mono r1 h1).ghost o1 rfl) src_tup ⟨ds, p2, rfl, rfl⟩⟩
theorem evi_tup1 {ds : List PyData} {j : Nat} (h : EvS B te δ (Is (.tuple ds))) : EvI B (iTup B.K te) δ (gName j) [j] (fun n put => n = ds.length ∧ put = putN j ds) := fun σ H st R k => evi_tup (P := (· = ds)) (j := j) (h.imp fun _ e => ⟨ds, e, rfl⟩) σ H st R fun J H' γ n put r hh s sr ⟨es, e, e1, e2⟩ => by
  subst e
  exact k J H' γ n put r hh s sr ⟨e1, e2⟩
/-- for x in a new list -/
theorem evi_new {P : List PyData → Prop} {j : Nat} (h : EvL B te δ P) : EvI B (iList B.K te) δ (gName j) [j] (fun n put => ∃ ds, P ds ∧ n = ds.length ∧ put = putN j ds) := fun σ H st R k => h σ H st _ fun a xs ds H1 r1 h1 ha hl t p2 =>
  ⟨a, rfl, ⟨xs, SqL.of hl⟩, k _ H1 [(.ref a, .lst ds)] _ _ r1 h1 ((st.mono r1 h1).ghostL ⟨a, xs, rfl, st.hh.ne_free ha, hl, t⟩ fun i es e1 e2 => Bool.noConfusion (show true = false from st.ne_free ha e1 e2)) (src_lst rfl) ⟨ds, p2, rfl, rfl⟩⟩
/-- for x in a list at a slot (not the def's own) -/
theorem evi_lst {i j : Nat} {ds : List PyData} (h : δ[i]? = some (some (.lst ds))) : EvI B (iList B.K (tVar i)) δ (gName j) [j] (fun n put => n = ds.length ∧ put = putN j ds) := fun σ H st R k => by
  obtain ⟨v, e, a, xs, rfl, n, q, t⟩ := st.ok i _ h
  refine ⟨_, e, a, rfl, ⟨xs, SqL.of q⟩, k _ H [(.ref a, .lst ds)] _ _ .refl st.hh (st.ghostL ⟨a, xs, rfl, n, q, t⟩ fun l es e1 e2 => ?_) (src_lst rfl) ⟨rfl, rfl⟩⟩
  by_cases hil : i = l
  · subst hil; rw [h] at e1; cases e1
  · exact Bool.noConfusion (show true = false from (st.own l es a e1 e2).2.1 i _ hil h e)
theorem src_rng {lo : Int} {n j : Nat} : Src B (Itr lo n) (gName j) n (fun i δ => δ.set j (some (.dat (.int (lo + i))))) [j] where
  go i H σ δ st hi := hi
  stop i H σ δ st hi := hi
  yld i H σ δ x H' st hi h k kk := by
    obtain ⟨rfl, rfl⟩ := h
    exact kk _ _ .refl st.hh (st.set j (s := .dat (.int (lo + i))) (.int _) rfl) set_off (by rw [List.length_set])
theorem StB.add0 (st : StB B H σ δ) : StB (B.add []) H σ δ := st
theorem evi_rng1 {ta : TA} {P : Int → Prop} {j : Nat} (h : EvA B ta δ (fun ss => ∃ i : Int, ss = [.dat (.int i)] ∧ P i ∧ -1000000 ≤ i ∧ i ≤ 1000000)) : EvI B (iRng1 ta) δ (gName j) [j] (fun n put => ∃ i : Int, P i ∧ n = i.toNat ∧ put = fun k δ => δ.set j (some (.dat (.int ((0 : Int) + (k : Nat)))))) := fun σ H st R k => h σ H st _ fun vs H1 ss r1 h1 o1 ⟨i, e, p, l1, l2⟩ => by
  subst e
  obtain ⟨v, rfl, o⟩ := paired1 o1
  cases DT.int_inv o
  exact ⟨i, rfl, by omega, by omega, k _ H1 [] _ _ r1 h1 (st.mono r1 h1).add0 src_rng ⟨i, p, rfl, rfl⟩⟩
theorem evi_rng2 {ta : TA} {lo hi : Int} {j : Nat} (h : EvA B ta δ (· = [.dat (.int lo), .dat (.int hi)])) (hl : -1000000 ≤ lo ∧ lo ≤ 1000000 ∧ -1000000 ≤ hi ∧ hi ≤ 1000000) : EvI B (iRng2 ta) δ (gName j) [j] (fun n put => n = (hi - lo).toNat ∧ put = fun k δ => δ.set j (some (.dat (.int (lo + (k : Nat)))))) := fun σ H st R k => h σ H st _ fun vs H1 ss r1 h1 o1 e => by
  subst e
  obtain ⟨v, w, rfl, o, o2⟩ := paired2 o1
  cases DT.int_inv o
  cases DT.int_inv o2
  exact ⟨lo, hi, rfl, ⟨by omega, by omega, by omega, by omega⟩, k _ H1 [] _ _ r1 h1 (st.mono r1 h1).add0 src_rng ⟨rfl, rfl⟩⟩
/-- for c in a text -/
theorem src_str {x : Str} {j : Nat} : Src B (Its x) (gName j) x.length (fun i δ => δ.set j (some (.dat (.str ⟨#[x.cps.toList.getD i 0]⟩)))) [j] where
  go i H σ δ st hi := hi
  stop i H σ δ st hi := hi
  yld i H σ δ v H' st hi h k kk := by
    obtain ⟨rfl, c, hc, rfl⟩ := h
    have e : x.cps.toList.getD i 0 = c := by
      rw [List.getD_eq_getElem?_getD, Array.getElem?_toList, hc]; rfl
    rw [e] at kk
    exact kk _ _ .refl st.hh (st.set j (s := .dat (.str ⟨#[c]⟩)) (.str _) rfl) set_off (by rw [List.length_set])
theorem evi_str {x : Str} {j : Nat} (h : EvS B te δ (Is (.str x))) : EvI B (iStr te) δ (gName j) [j] (fun n put => n = x.length ∧ put = fun i δ => δ.set j (some (.dat (.str ⟨#[x.cps.toList.getD i 0]⟩)))) := fun σ H st R k => h σ H st _ fun v H1 s r1 h1 o1 e => by
  subst e
  exact ⟨x, DT.str_inv o1, k _ H1 [] _ _ r1 h1 (st.mono r1 h1).add0 src_str ⟨rfl, rfl⟩⟩
/-- a pair of slots -/
def putZ (i j : Nat) (ds es : List PyData) : Nat → Dn → Dn := fun k δ => putL [i, j] [ds.getD k .none, es.getD k .none] δ
theorem getD_of {α : Type} {l : List α} {i : Nat} {x d : α} (h : l[i]? = some x) : l.getD i d = x := by
  rw [List.getD_eq_getElem?_getD, h]; rfl
theorem pair_yld {i j : Nat} {T : Addr} {x y : V} {d e : PyData} (st : StB B H σ δ) (hT : H T = none) (ox : DT B.K H x d) (oy : DT B.K H y e) (k : L2.St → Hp → Prop)
    (kk : ∀ σ2 H2, Rel B.hd H H2 → Hands B.hd H2 → StB B H2 σ2 (putL [i, j] [d, e] δ) → (∀ l, l ∉ [i, j] → σ2[l]? = σ[l]?) → σ2.length = σ.length → k σ2 H2) :
    gTup B.K 2 (gNames [i, j]) (.ref T) σ (upd H T (.tup [x, y])) k := by
  have r2 : Rel B.hd H (upd H T (.tup [x, y])) := Rel.new hT
  have hT' : ∀ a xs, SqT B.K H a xs → SqT B.K (upd H T (.tup [x, y])) a xs := fun _ _ => sqT_rel st.hh r2
  exact ⟨T, [x, y], rfl, SqT.of upd_same, rfl, gNames_ok [i, j] _ [d, e] δ σ _ (st.mono r2 (st.hh.new hT)) (.cons (DT.mono hT' _ _ ox) (.cons (DT.mono hT' _ _ oy) .nil)) rfl _ fun σ' s h1 h2 => kk σ' _ r2 (st.hh.new hT) s h1 h2⟩
theorem src_zipT {a b : Addr} {ds es : List PyData} {i j : Nat} : Src (B.add [(.ref a, .dat (.tuple ds)), (.ref b, .dat (.tuple es))]) (RZ.ItzT B.K a b) (gTup B.K 2 (gNames [i, j])) (min ds.length es.length) (putZ i j ds es) [i, j] where
  go k H σ δ st hi := by
    obtain ⟨_, xs, e, sq, t⟩ := DT.tup_inv (st.gh _ _ (List.mem_append_left _ List.mem_cons_self) rfl); cases e
    obtain ⟨_, ys, e, sq2, t2⟩ := DT.tup_inv (st.gh _ _ (List.mem_append_left _ (List.mem_cons_of_mem _ List.mem_cons_self)) rfl); cases e
    obtain ⟨x, hx, _⟩ := t.get (List.getElem?_eq_getElem (show k < ds.length by omega))
    obtain ⟨y, hy, _⟩ := t2.get (List.getElem?_eq_getElem (show k < es.length by omega))
    exact ⟨xs, ys, x, y, sq, sq2, hx, hy⟩
  stop k H σ δ st hi := by
    obtain ⟨_, xs, e, sq, t⟩ := DT.tup_inv (st.gh _ _ (List.mem_append_left _ List.mem_cons_self) rfl); cases e
    obtain ⟨_, ys, e, sq2, t2⟩ := DT.tup_inv (st.gh _ _ (List.mem_append_left _ (List.mem_cons_of_mem _ List.mem_cons_self)) rfl); cases e
    exact ⟨xs, ys, sq, sq2, by rw [t.length, t2.length]; omega⟩
  yld k H σ δ v H' st hi h kk kkk := by
    obtain ⟨T, x, y, rfl, hT, rfl, hx, hy⟩ := h
    obtain ⟨_, xs, e, sq, t⟩ := DT.tup_inv (st.gh _ _ (List.mem_append_left _ List.mem_cons_self) rfl); cases e
    obtain ⟨_, ys, e, sq2, t2⟩ := DT.tup_inv (st.gh _ _ (List.mem_append_left _ (List.mem_cons_of_mem _ List.mem_cons_self)) rfl); cases e
    obtain ⟨d, hd, ox⟩ := t.getV (hx xs sq)
    obtain ⟨f, hf, oy⟩ := t2.getV (hy ys sq2)
    unfold putZ at kkk
    rw [getD_of hd, getD_of hf] at kkk
    exact pair_yld st hT ox oy kk kkk
theorem src_zipL {a b : Addr} {ds es : List PyData} {i j : Nat} : Src (B.add [(.ref a, .lst ds), (.ref b, .lst es)]) (Itz B.K a b) (gTup B.K 2 (gNames [i, j])) (min ds.length es.length) (putZ i j ds es) [i, j] where
  go k H σ δ st hi := by
    obtain ⟨_, xs, e, _, sq, t⟩ := st.gh _ _ (List.mem_append_left _ List.mem_cons_self) rfl; cases e
    obtain ⟨_, ys, e, _, sq2, t2⟩ := st.gh _ _ (List.mem_append_left _ (List.mem_cons_of_mem _ List.mem_cons_self)) rfl; cases e
    obtain ⟨x, hx, _⟩ := t.get (List.getElem?_eq_getElem (show k < ds.length by omega))
    obtain ⟨y, hy, _⟩ := t2.get (List.getElem?_eq_getElem (show k < es.length by omega))
    exact ⟨xs, ys, x, y, SqL.of sq, SqL.of sq2, hx, hy⟩
  stop k H σ δ st hi := by
    obtain ⟨_, xs, e, _, sq, t⟩ := st.gh _ _ (List.mem_append_left _ List.mem_cons_self) rfl; cases e
    obtain ⟨_, ys, e, _, sq2, t2⟩ := st.gh _ _ (List.mem_append_left _ (List.mem_cons_of_mem _ List.mem_cons_self)) rfl; cases e
    exact ⟨xs, ys, SqL.of sq, SqL.of sq2, by rw [t.length, t2.length]; omega⟩
  yld k H σ δ v H' st hi h kk kkk := by
    obtain ⟨T, x, y, rfl, hT, rfl, hx, hy⟩ := h
    obtain ⟨_, xs, e, _, sq, t⟩ := st.gh _ _ (List.mem_append_left _ List.mem_cons_self) rfl; cases e
    obtain ⟨_, ys, e, _, sq2, t2⟩ := st.gh _ _ (List.mem_append_left _ (List.mem_cons_of_mem _ List.mem_cons_self)) rfl; cases e
    obtain ⟨d, hd, ox⟩ := t.getV (hx xs (SqL.of sq))
    obtain ⟨f, hf, oy⟩ := t2.getV (hy ys (SqL.of sq2))
    unfold putZ at kkk
    rw [getD_of hd, getD_of hf] at kkk
    exact pair_yld st hT ox oy kk kkk
/-- for a, b in zip(two tuples) -/
theorem evi_zipT {ta : TE} {tb : TE} {ds es : List PyData} {i j : Nat} (h : EvS B ta δ (Is (.tuple ds))) (h2 : EvS B tb δ (Is (.tuple es))) : EvI B (RZ.iZipA B.K (tCons ta (tCons tb tNil))) δ (gTup B.K 2 (gNames [i, j])) [i, j] (fun n put => n = min ds.length es.length ∧ put = putZ i j ds es) := fun σ H st R k =>
  eva_c h (eva_c h2 eva_nil) σ H st _ fun vs H1 ss r1 hh1 o1 p1 => by
    subst p1
    obtain ⟨v, w, rfl, o, o2⟩ := paired2 o1
    obtain ⟨a, xs, rfl, sq, t⟩ := DT.tup_inv o
    obtain ⟨b, ys, rfl, sq2, t2⟩ := DT.tup_inv o2
    refine ⟨a, b, xs, ys, rfl, .inr ⟨sq, sq2, k _ H1 [(.ref a, .dat (.tuple ds)), (.ref b, .dat (.tuple es))] _ _ r1 hh1 ?_ src_zipT ⟨rfl, rfl⟩⟩⟩
    exact StB.ghost (B := B.add [(.ref b, .dat (.tuple es))]) ((st.mono r1 hh1).ghost o2 rfl) o rfl
/-- for a, b in zip(x, y), lists: x at a slot, y a new list -/
theorem evi_zipN {tb : TE} {l i j : Nat} {ds : List PyData} {s : Sv} {P : List PyData → Prop} (h : δ[l]? = some (some (.lst ds))) (h2 : EvL B tb δ P) : EvI B (RZ.iZipA B.K (tCons (tVar l) (tCons tb tNil))) δ (gTup B.K 2 (gNames [i, j])) [i, j] (fun n put => ∃ es, P es ∧ n = min ds.length es.length ∧ put = putZ i j ds es) := fun σ H st R k => by
  obtain ⟨v, e, a, xs, rfl, n, q, t⟩ := st.ok l _ h
  refine ⟨_, e, h2 σ H st _ fun b ys es H1 r1 h1 hb hl t2 p2 => ?_⟩
  have q1 := r1 a _ n q
  have t1 := DTs.mono (fun _ _ => sqT_rel st.hh r1) _ _ t
  refine ⟨a, b, xs, ys, rfl, .inl ⟨SqL.of q1, SqL.of hl, k _ H1 [(.ref a, .lst ds), (.ref b, .lst es)] _ _ r1 h1 ?_ src_zipL ⟨es, p2, rfl, rfl⟩⟩⟩
  refine StB.ghostL (B := B.add [(.ref b, .lst es)]) ((st.mono r1 h1).ghostL ⟨b, ys, rfl, st.hh.ne_free hb, hl, t2⟩ fun m fs e1 e2 => Bool.noConfusion (show true = false from st.ne_free hb e1 e2)) ⟨a, xs, rfl, n, q1, t1⟩ fun m fs e1 e2 => ?_
  by_cases hm : l = m
  · subst hm; rw [h] at e1; cases e1
  · exact Bool.noConfusion (show true = false from (st.own m fs a e1 e2).2.1 l _ hm h e)
/-! ### loops -/
theorem Good.add {γ : List (V × Sv)} {D : Ends} (g : Good B D N) : Good (B.add γ) D N := ⟨fun σ H δ s q => g.nx σ H δ s.drop q, g.rt, fun σ H δ s q => g.bk σ H δ s.drop q, fun σ H δ s q => g.ct σ H δ s.drop q⟩
theorem sx_for {wi : TI} {g : TG} {vs : List Nat} {S : Nat → (Nat → Dn → Dn) → Prop} {tb : TS} (h : EvI B wi δ g vs S)
    (hn : ∀ n put, S n put → ∃ G : Nat → Dn → Prop, G 0 δ ∧ (∀ γ i δ', i < n → G i δ' → SX (B.add γ) tb (put i δ') { nx := G (i + 1), ct := G (i + 1), bk := N.nx, rt := N.rt }) ∧ ∀ δ', G n δ' → N.nx δ') : SX B (tFor wi g tb) δ N := fun σ H st D gd => by
  refine h σ H st _ fun J H' γ n put r1 h1 s1 src sn => ?_
  obtain ⟨G, g0, gs, ge⟩ := hn n put sn
  refine ⟨fun i m σ H => m = n - i ∧ i ≤ n ∧ ∃ δ', StB (B.add γ) H σ δ' ∧ G i δ', ⟨n - 0, rfl, Nat.zero_le _, δ, s1, g0⟩, ?_⟩
  rintro i m σ' H2 ⟨rfl, hi, δ', s2, g2⟩
  by_cases hlt : i < n
  · refine .inr ⟨src.go i H2 σ' δ' s2 hlt, fun σ3 H3 => ∃ δ3, StB (B.add γ) H3 σ3 δ3 ∧ G (i + 1) δ3, fun σ3 H3 ⟨δ3, s3, g3⟩ => ⟨n - (i + 1), by omega, rfl, hlt, δ3, s3, g3⟩, fun x H3 hy => ?_⟩
    refine src.yld i H2 σ' δ' x H3 s2 hlt hy _ fun σ4 H4 r4 h4 s4 _ _ => ?_
    exact gs γ i δ' hlt g2 σ4 H4 s4 _ ⟨fun σ5 H5 δ5 s5 g5 => ⟨δ5, s5, g5⟩, gd.rt, fun σ5 H5 δ5 s5 g5 => gd.nx σ5 H5 δ5 s5.drop g5, fun σ5 H5 δ5 s5 g5 => ⟨δ5, s5, g5⟩⟩
  · have : i = n := by omega
    subst this
    exact .inl ⟨src.stop i H2 σ' δ' s2 (Nat.le_refl _), gd.nx σ' H2 δ' s2.drop (ge δ' g2)⟩
/-- a loop, then the rest -/
theorem q_for {wi : TI} {g : TG} {vs : List Nat} {S : Nat → (Nat → Dn → Dn) → Prop} {tb : TS} (h : EvI B wi δ g vs S)
    (hn : ∀ n put, S n put → ∃ G : Nat → Dn → Prop, G 0 δ ∧ (∀ γ i δ', i < n → G i δ' → SX (B.add γ) tb (put i δ') { nx := G (i + 1), ct := G (i + 1), bk := fun δ'' => SX B u δ'' N, rt := N.rt }) ∧ ∀ δ', G n δ' → SX B u δ' N) : SX B (tSeq (tFor wi g tb) u) δ N :=
  sx_seq (G := fun δ' => SX B u δ' N) (sx_for h hn) fun _ s => s
/-- while -/
theorem sx_while {tb : TS} (G : Nat → Dn → Prop) (m0 : Nat) (g0 : G m0 δ) (hs : ∀ m δ', G m δ' → ∃ P : Bool → Prop, EvT B tt δ' P ∧ (P true → SX B tb δ' { nx := fun δ'' => ∃ m', m' < m ∧ G m' δ'', ct := fun δ'' => ∃ m', m' < m ∧ G m' δ'', bk := N.nx, rt := N.rt }) ∧ (P false → N.nx δ')) : SX B (tWhile tt tb) δ N := fun σ H st D gd => by
  refine ⟨fun m σ H => ∃ δ', StB B H σ δ' ∧ G m δ', ⟨m0, δ, st, g0⟩, ?_⟩
  rintro m σ' H2 ⟨δ', s2, g2⟩
  obtain ⟨P, h1, h2, h3⟩ := hs m δ' g2
  refine h1 σ' H2 s2 _ fun b H3 r3 hh3 p3 => ?_
  have s3 := s2.mono r3 hh3
  cases b with
  | true =>
    refine iteT ⟨fun σ4 H4 => ∃ m', m' < m ∧ ∃ δ4, StB B H4 σ4 δ4 ∧ G m' δ4, fun σ4 H4 ⟨m', lt, δ4, s4, g4⟩ => ⟨m', lt, δ4, s4, g4⟩, ?_⟩
    exact h2 p3 σ' H3 s3 _ ⟨fun σ5 H5 δ5 s5 ⟨m', lt, g5⟩ => ⟨m', lt, δ5, s5, g5⟩, gd.rt, fun σ5 H5 δ5 s5 g5 => gd.nx σ5 H5 δ5 s5 g5, fun σ5 H5 δ5 s5 ⟨m', lt, g5⟩ => ⟨m', lt, δ5, s5, g5⟩⟩
  | false => exact iteF (gd.nx σ' H3 δ' s3 (h3 p3))
/-! ### comprehensions -/
def wipeD (δ : Dn) : List Nat → Dn
  | [] => δ
  | v :: vs => (wipeD δ vs).set v none
theorem wipeD_some {i : Nat} {s : Sv} : ∀ {vs : List Nat}, (wipeD δ vs)[i]? = some (some s) → δ[i]? = some (some s) ∧ i ∉ vs
  | [], h => ⟨h, by simp⟩
  | v :: vs, h => by
    rcases getSet h with ⟨_, e⟩ | ⟨n, e⟩
    · cases e
    · obtain ⟨h1, h2⟩ := wipeD_some e
      exact ⟨h1, fun m => by
        rcases List.mem_cons.mp m with m | m
        · exact n m
        · exact h2 m⟩
theorem wipeD_length : ∀ vs : List Nat, (wipeD δ vs).length = δ.length
  | [] => rfl
  | v :: vs => by
    show ((wipeD δ vs).set v none).length = _
    rw [List.length_set, wipeD_length]
theorem wipe_off {i : Nat} : ∀ {vs : List Nat}, i ∉ vs → (wipe σ vs)[i]? = σ[i]?
  | [], _ => rfl
  | v :: vs, h => by
    show ((wipe σ vs).set v none)[i]? = _
    rw [List.getElem?_set_ne (fun e => h (by rw [e]; exact List.mem_cons_self)), wipe_off fun m => h (List.mem_cons_of_mem _ m)]
theorem wipe_in {i : Nat} : ∀ {vs : List Nat}, i ∈ vs → (wipe σ vs)[i]? = if i < σ.length then some none else none
  | v :: vs, h => by
    show ((wipe σ vs).set v none)[i]? = _
    by_cases e : v = i
    · subst e
      rw [List.getElem?_set, if_pos rfl, wipe_length]
    · rw [List.getElem?_set_ne e]
      rcases List.mem_cons.mp h with m | m
      · exact absurd m.symm e
      · exact wipe_in m
theorem StB.wipe (st : StB B H σ δ) (vs : List Nat) : StB B H (wipe σ vs) (wipeD δ vs) := st.weak (by rw [wipe_length, wipeD_length]; exact st.len) fun i s e => by
  obtain ⟨h1, h2⟩ := wipeD_some e
  exact ⟨h1, wipe_off h2⟩
/-- [elt for target in iter if test] -/
theorem evl_lc {wi : TI} {g : TG} {tt : TT} {te : TE} {vs : List Nat} {S : List PyData → Prop} {S' : Nat → (Nat → Dn → Dn) → Prop} (h : EvI B wi δ g vs S')
    (hn : ∀ n put, S' n put → n ≤ 1000000 ∧ ∃ G : Nat → List PyData → Prop, G 0 [] ∧ (∀ γ i acc, i < n → G i acc → ∃ P : Bool → Prop, EvT (B.add γ) tt (put i (wipeD δ vs)) P ∧ (P true → EvS (B.add γ) te (put i (wipeD δ vs)) (fun s => ∃ d, s = .dat d ∧ G (i + 1) (acc ++ [d]))) ∧ (P false → G (i + 1) acc)) ∧ ∀ acc, G n acc → S acc) :
    EvL B (tLc wi g tt te vs) δ S := fun σ H st Q k => by
  refine h σ H st _ fun J H1 γ n put r1 h1 s1 src sn => ?_
  obtain ⟨hz, G, g0, gs, ge⟩ := hn n put sn
  intro Dl hD
  have hDH : H Dl = none := free_back h1 r1 hD
  have new1 : Rel B.hd H1 (upd H1 Dl (.lst [])) := Rel.new hD
  refine ⟨fun i m H2 => m = n - i ∧ i ≤ n ∧ Rel B.hd H1 H2 ∧ Hands B.hd H2 ∧ ∃ xs acc, H2 Dl = some (.lst xs) ∧ DTs B.K H2 xs acc ∧ acc.length ≤ i ∧ G i acc, ⟨n - 0, rfl, Nat.zero_le _, new1, h1.new hD, [], [], upd_same, .nil, Nat.le_refl _, g0⟩, ?_⟩
  rintro i m H2 ⟨rfl, hi, r2, h2, xs, acc, hl, t, hal, g2⟩
  have s2 : StB (B.add γ) H2 σ δ := s1.mono r2 h2
  by_cases hlt : i < n
  · have sw : StB (B.add γ) H2 (L2.wipe σ vs) (wipeD δ vs) := s2.wipe vs
    refine .inr ⟨src.go i H2 _ _ sw hlt, fun H3 => Rel B.hd H1 H3 ∧ Hands B.hd H3 ∧ ∃ xs acc, H3 Dl = some (.lst xs) ∧ DTs B.K H3 xs acc ∧ acc.length ≤ i + 1 ∧ G (i + 1) acc, fun H3 ⟨a, b, c⟩ => ⟨n - (i + 1), by omega, rfl, hlt, a, b, c⟩, fun x H3 hy => ?_⟩
    refine src.yld i H2 _ _ x H3 sw hlt hy _ fun σ4 H4 r4 h4 s4 e4 l4 => ⟨?_, ?_⟩
    · apply List.ext_getElem?
      intro j
      by_cases hj : j ∈ vs
      · rw [wipe_in hj, wipe_in hj, l4, wipe_length]
      · rw [wipe_off hj, e4 j hj]
    · obtain ⟨P, t1, t2, t3⟩ := gs γ i acc hlt g2
      have nD : ∀ p q, B.hd = some (p, q) → Dl ≠ p := st.hh.ne_free hDH
      refine t1 σ4 H4 s4 _ fun b H5 r5 h5 p5 => ?_
      have hl5 : H5 Dl = some (.lst xs) := r5 _ _ nD (r4 _ _ nD hl)
      have t5 := DTs.mono (fun _ _ => sqT_rel h4 r5) _ _ (DTs.mono (fun _ _ => sqT_rel h2 r4) _ _ t)
      cases b with
      | true =>
        refine iteT (t2 p5 σ4 H5 (s4.mono r5 h5) _ fun v H6 s r6 h6 o6 ⟨d, e6, g6⟩ => ?_)
        subst e6
        have hl6 : H6 Dl = some (.lst xs) := r6 _ _ nD hl5
        have t6 := DTs.mono (fun _ _ => sqT_rel h5 r6) _ _ t5
        have r7 : Rel B.hd H1 (upd H6 Dl (.lst (xs ++ [v]))) := fun c o hc e => by
          rw [upd_ne (ne_of_none e hD)]
          exact r6 c o hc (r5 c o hc (r4 c o hc (r2 c o hc e)))
        have hT : ∀ a ys, SqT B.K H6 a ys → SqT B.K (upd H6 Dl (.lst (xs ++ [v]))) a ys := fun _ _ => sqT_updL hl6
        have h7 : Hands B.hd (upd H6 Dl (.lst (xs ++ [v]))) := fun p q e => by
          obtain ⟨⟨a, b, c, f, k1, k2⟩, ns, k3, k4⟩ := h6 p q e
          obtain ⟨⟨_, _, _, _, m1, _⟩, _, m3, _⟩ := h1 p q e
          exact ⟨⟨a, b, c, f, by rw [upd_ne (ne_of_none m1 hD)]; exact k1, k2⟩, ns, by rw [upd_ne (ne_of_none m3 hD)]; exact k3, k4⟩
        refine ⟨xs, hl6, by rw [t.length]; exact Nat.lt_of_le_of_lt (Nat.le_trans hal (Nat.le_trans hi hz)) (by decide), r7, h7, xs ++ [v], acc ++ [d], upd_same, (DTs.mono hT _ _ t6).append (.cons (DT.mono hT _ _ o6) .nil), ?_, g6⟩
        rw [List.length_append, List.length_singleton]; omega
      | false =>
        refine iteF ⟨((r2.trans r4).trans r5), h5, xs, acc, hl5, t5, by omega, t3 p5⟩
  · have : i = n := by omega
    subst this
    have sw : StB (B.add γ) H2 (L2.wipe σ vs) (wipeD δ vs) := s2.wipe vs
    exact .inl ⟨src.stop i H2 _ _ sw (Nat.le_refl _), k Dl xs acc H2 (r1.trans r2) h2 hDH hl t (ge acc g2)⟩
theorem evt_yes : EvT B tYes δ (· = true) := fun σ H st Q k => k true H .refl st.hh rfl
/-- a comprehension without test, its items reckoned -/
theorem evl_map {wi : TI} {g : TG} {te : TE} {vs : List Nat} {n : Nat} {put : Nat → Dn → Dn} {f : Nat → PyData} (h : EvI B wi δ g vs (fun m p => m = n ∧ p = put)) (hz : n ≤ 1000000) (he : ∀ γ i, i < n → EvS (B.add γ) te (put i (wipeD δ vs)) (Is (f i))) : EvL B (tLc wi g tYes te vs) δ (· = (List.range n).map f) := evl_lc h fun m p ⟨e1, e2⟩ => by
  subst e1 e2
  refine ⟨hz, fun i acc => acc = (List.range i).map f, rfl, fun γ i acc hi e => ⟨(· = true), evt_yes, fun _ => (he γ i hi).imp fun s e2 => ⟨f i, e2, by
    show acc ++ [f i] = (List.range (i + 1)).map f
    rw [show acc = (List.range i).map f from e, List.range_succ, List.map_append]; rfl⟩, fun q => Bool.noConfusion (show false = true from q)⟩, fun acc e => e⟩
/-- all([..]) where each is True; any([..]) where none is -/
theorem evs_allLc {wi : TI} {g : TG} {te : TE} {vs : List Nat} {S' : Nat → (Nat → Dn → Dn) → Prop} (h : EvI B wi δ g vs S') (hn : ∀ n put, S' n put → n ≤ 1000000 ∧ ∀ γ i, i < n → EvS (B.add γ) te (put i (wipeD δ vs)) (Is (.bool true))) :
    EvS B (tCB (rAll B.K) (tCons (tLc wi g tYes te vs) tNil)) δ (Is (.bool true)) := evs_allT (EvL.evs (evl_lc h fun n put sn => by
  obtain ⟨hz, he⟩ := hn n put sn
  refine ⟨hz, fun i acc => ∀ d ∈ acc, d = PyData.bool true, (fun d hd => (nomatch hd)), fun γ i acc hi g => ⟨_, evt_yes, fun _ => (he γ i hi).imp fun s e => ⟨_, e, fun d hd => ?_⟩, fun e => Bool.noConfusion (show false = true from e)⟩, fun acc g => g⟩
  rcases List.mem_append.mp hd with hd | hd
  · exact g d hd
  · exact List.mem_singleton.mp hd))
theorem evs_anyF {ta : TE} (ha : EvS B ta δ (fun s => ∃ ds, s = .lst ds ∧ ∀ d ∈ ds, d = PyData.bool false)) : EvS B (tCB (rAny B.K) (tCons ta tNil)) δ (Is (.bool false)) := fun σ H st Q k => ha σ H st _ fun v H1 s1 r1 h1 o1 ⟨ds, p1, p2⟩ => by
  subst p1
  obtain ⟨a, xs, rfl, n, sq, t⟩ := o1
  have e : ds = (List.replicate ds.length false).map PyData.bool := by
    rw [List.map_replicate]
    exact List.eq_replicate_of_mem p2
  rw [e] at t
  have e2 := t.bls
  rw [e2] at sq
  refine ⟨a, _, rfl, SqL.of sq, ?_⟩
  have e3 : (List.replicate ds.length false).any id = false := by
    rw [List.any_eq_false]
    intro x hx
    rw [(List.mem_replicate.mp hx).2]
    exact Bool.false_ne_true
  rw [e3]
  exact k.dat r1 h1 (DT.bl _) rfl
theorem evs_anyLc {wi : TI} {g : TG} {te : TE} {vs : List Nat} {S' : Nat → (Nat → Dn → Dn) → Prop} (h : EvI B wi δ g vs S') (hn : ∀ n put, S' n put → n ≤ 1000000 ∧ ∀ γ i, i < n → EvS (B.add γ) te (put i (wipeD δ vs)) (Is (.bool false))) :
    EvS B (tCB (rAny B.K) (tCons (tLc wi g tYes te vs) tNil)) δ (Is (.bool false)) := evs_anyF (EvL.evs (evl_lc h fun n put sn => by
  obtain ⟨hz, he⟩ := hn n put sn
  refine ⟨hz, fun i acc => ∀ d ∈ acc, d = PyData.bool false, (fun d hd => (nomatch hd)), fun γ i acc hi g => ⟨_, evt_yes, fun _ => (he γ i hi).imp fun s e => ⟨_, e, fun d hd => ?_⟩, fun e => Bool.noConfusion (show false = true from e)⟩, fun acc g => g⟩
  rcases List.mem_append.mp hd with hd | hd
  · exact g d hd
  · exact List.mem_singleton.mp hd))
theorem map_range_getD {α β : Type} (l : List α) (d : α) (f : α → β) : (List.range l.length).map (fun i => f (l.getD i d)) = l.map f := by
  apply List.ext_getElem?
  intro i
  rw [List.getElem?_map, List.getElem?_map]
  by_cases h : i < l.length
  · rw [List.getElem?_range h, List.getElem?_eq_getElem h]
    simp [List.getD_eq_getElem?_getD, List.getElem?_eq_getElem h]
  · rw [List.getElem?_eq_none (by simpa using h), List.getElem?_eq_none (by simpa using h)]
    rfl
end
/-! ### defs -/
section
variable {P : Program} {w : World} {K : PySem.W.Frag} {mg : Str → Option Value} {base : Heap}
def slots (N : List Str) (ss : List Sv) : Dn := ss.map some ++ List.replicate (N.length - ss.length) none
theorem paired_len {α β : Type} {F : α → β → Prop} : ∀ {l : List α} {m : List β}, Paired F l m → l.length = m.length
  | _, _, .nil => rfl
  | _, _, .cons _ t => congrArg (· + 1) (paired_len t)
theorem paired_get {α β : Type} {F : α → β → Prop} : ∀ {l : List α} {m : List β} {i : Nat} {b : β}, Paired F l m → m[i]? = some b → ∃ a, l[i]? = some a ∧ F a b
  | _, _, _, _, .nil, e => by simp at e
  | _, _, 0, _, .cons h _, e => by simp at e; subst e; exact ⟨_, rfl, h⟩
  | _, _, i + 1, d, .cons _ t, e => by
    obtain ⟨v, h1, h2⟩ := paired_get (i := i) (b := d) t (by simpa using e)
    exact ⟨v, by simpa using h1, h2⟩
theorem getApp {α : Type} {l : List α} {n i : Nat} {x : α} (h : (l.map some ++ List.replicate n none)[i]? = some (some x)) : l[i]? = some x := by
  rw [List.getElem?_append] at h
  split at h
  · rw [List.getElem?_map] at h
    cases e : l[i]? with
    | none => rw [e] at h; cases h
    | some y => rw [e] at h; cases h; rfl
  · rw [List.getElem?_replicate] at h
    split at h <;> cases h
theorem stb_start {hd : Hand} {N : List Str} {H : Hp} {vs : List V} {ss : List Sv} (hh : Hands hd H) (o : Paired (SvOk K hd H) vs ss) (hno : ∀ s ∈ ss, ∀ ds, s ≠ .own ds) : StB ⟨K, hd, H, []⟩ H (start N vs) (slots N ss) := by
  refine ⟨.refl, hh, hh, ?_, fun i s e => ?_, fun v s m => (nomatch m), fun i ds a e1 _ => ?_⟩
  · show (vs.map some ++ List.replicate (N.length - vs.length) none).length = (ss.map some ++ List.replicate (N.length - ss.length) none).length
    rw [paired_len o]; simp [paired_len o]
  · obtain ⟨v, e1, o1⟩ := paired_get o (getApp e)
    refine ⟨v, ?_, o1⟩
    show (vs.map some ++ List.replicate (N.length - vs.length) none)[i]? = some (some v)
    rw [List.getElem?_append_left (by rw [List.length_map]; exact (List.getElem?_eq_some_iff.mp e1).1), List.getElem?_map, e1]; rfl
  · exact absurd rfl (hno _ (List.mem_of_getElem? (getApp e1)) ds)
theorem good_sp {H : Hp} {Q : VK} {res : Sv → Prop} (h : ∀ v H' s, Same H H' → SvOk K none H' v s → Fresh H v s → res s → Q v H') : Good ⟨K, none, H, []⟩ { nx := fun _ H' => Q .non H', rt := Q } { nx := fun _ => res (.dat .none), rt := res } :=
  ⟨fun σ H' δ st q => h .non H' (.dat .none) st.rel.none_same DT.non (fun q => nomatch q) q, fun v H' s r hh o f q => h v H' s r.none_same o f q, fun _ _ _ _ q => q.elim, fun _ _ _ _ q => q.elim⟩
/-- THE RULE for a def on data -/
theorem fnS {x qual : Str} {st : Stmt} {f : Addr} {fd : FuncData} {N ps : List Str} {k : Nat} {α : Type} {arg : α → List Sv} {pre : α → Prop} {res : α → Sv → Prop} (F : FunD K x qual (defArgs st) (defBody st) (defScope st) [] [] f fd) (S : FnScope N ps (defScope st))
    (hl : ∀ a, (arg a).length = ps.length) (hno : ∀ a, ∀ s ∈ arg a, ∀ ds, s ≠ .own ds)
    (hbody : ∀ (cdv : Value) (A : Around) (outer : List Env) (s : Shared) (H : Hp) (E : XK) (a : α), Room k (A.deeper (envOfC qual (defScope st) s.heap.objs.size f cdv)) → pre a →
      ∃ t, PSs (cxOf CX0 P w K mg base N qual (defScope st) f cdv A outer s H E).nox (defBody st) t ∧ SX ⟨K, none, H, []⟩ t (slots N (arg a)) { nx := fun _ => res a (.dat .none), rt := res a }) :
    FnOk P w K mg base CX0 (k + 1) f fd ps (spS K arg pre res) := by
  refine F.ok S (fun vs H Q E h => ?_) (fun cdv A outer s H vs Q E hr h => ?_)
  · obtain ⟨a, o, _⟩ := h
    rw [paired_len o, hl]
  · obtain ⟨a, o, p, hq⟩ := h
    obtain ⟨t, h1, h2⟩ := hbody cdv A outer s H E a hr p
    exact ⟨t, PSs.nox h1, h2 _ _ (stb_start .of_none o (hno a)) _ (good_sp hq)⟩
theorem good_spH {H : Hp} {Q : VK} {res : Sv → Prop} {p q : Addr} (h : ∀ v H' s, Rel (some (p, q)) H H' → HandAt H' p q → SvOk K (some (p, q)) H' v s → Fresh H v s → res s → Q v H') : Good ⟨K, some (p, q), H, []⟩ { nx := fun _ H' => Q .non H', rt := Q } { nx := fun _ => res (.dat .none), rt := res } :=
  ⟨fun σ H' δ st q => h .non H' (.dat .none) st.rel (st.hh _ _ rfl) DT.non (fun q => nomatch q) q, fun v H' s r hh o f q => h v H' s r (hh _ _ rfl) o f q, fun _ _ _ _ q => q.elim, fun _ _ _ _ q => q.elim⟩
/-- .. that draws by the hand, its first parameter -/
theorem fnH {x qual : Str} {st : Stmt} {f : Addr} {fd : FuncData} {N ps : List Str} {k : Nat} {α : Type} {arg : α → List Sv} {pre : α → Prop} {res : α → Sv → Prop} (F : FunD K x qual (defArgs st) (defBody st) (defScope st) [] [] f fd) (S : FnScope N ps (defScope st))
    (hl : ∀ a, (arg a).length + 1 = ps.length) (hno : ∀ a, ∀ s ∈ arg a, ∀ ds, s ≠ .own ds)
    (hbody : ∀ (cdv : Value) (A : Around) (outer : List Env) (s : Shared) (H : Hp) (E : XK) (a : α) (p q : Addr), Room k (A.deeper (envOfC qual (defScope st) s.heap.objs.size f cdv)) → pre a →
      ∃ t, PSs (cxOf CX0 P w K mg base N qual (defScope st) f cdv A outer s H E).nox (defBody st) t ∧ SX ⟨K, some (p, q), H, []⟩ t (slots N (.val (.ref p) :: arg a)) { nx := fun _ => res a (.dat .none), rt := res a }) :
    FnOk P w K mg base CX0 (k + 1) f fd ps (spH K arg pre res) := by
  refine F.ok S (fun vs H Q E h => ?_) (fun cdv A outer s H vs Q E hr h => ?_)
  · obtain ⟨a, p, q, ws, rfl, _, o, _⟩ := h
    rw [List.length_cons, paired_len o, hl]
  · obtain ⟨a, p, q, ws, rfl, hh, o, pa, hq⟩ := h
    obtain ⟨t, h1, h2⟩ := hbody cdv A outer s H E a p q hr pa
    refine ⟨t, PSs.nox h1, h2 _ _ (stb_start (fun p' q' e => by cases e; exact hh) (.cons rfl o) fun s m ds => ?_) _ (good_spH hq)⟩
    rcases List.mem_cons.mp m with rfl | m
    · intro z; cases z
    · exact hno a s m ds
end
end K32
/-! The rules of HandS under names whose readings are Layer D's; names of the built-ins. -/
namespace K32
open PySem PySem.Spec PyProof.Rows L2
theorem bt_len : bootBuiltins "len" = some (.builtin "len") := PySem.boot_len
theorem bt_isinstance : bootBuiltins "isinstance" = some (.builtin "isinstance") := PyProof.Rows.boot_isinstance
theorem bt_int : bootBuiltins "int" = some (.type "int") := PyProof.Rows.boot_int
theorem bt_str : bootBuiltins "str" = some (.type "str") := PyProof.Rows.boot_str
theorem bt_bool : bootBuiltins "bool" = some (.type "bool") := PyProof.Rows.boot_bool
theorem bt_tuple : bootBuiltins "tuple" = some (.type "tuple") := PyProof.Rows.boot_tuple
theorem bt_list : bootBuiltins "list" = some (.type "list") := PyProof.Rows.boot_list
theorem bt_all : bootBuiltins "all" = some (.builtin "all") := PyProof.Rows.boot_all
theorem bt_any : bootBuiltins "any" = some (.builtin "any") := PyProof.Rows.boot_any
theorem bt_sorted : bootBuiltins "sorted" = some (.builtin "sorted") := PyProof.Rows.boot_sorted
theorem bt_max : bootBuiltins "max" = some (.builtin "max") := PyProof.Rows.boot_max
theorem bt_min : bootBuiltins "min" = some (.builtin "min") := PyProof.Rows.boot_min
theorem bt_set : bootBuiltins "set" = some (.type "set") := PyProof.Rows.boot_set
theorem kit_int_int : kitB "int" "int" = some true := by decide +kernel
theorem kit_int_bool : kitB "int" "bool" = some false := by decide +kernel
theorem kit_int_str : kitB "int" "str" = some false := by decide +kernel
theorem kit_int_tuple : kitB "int" "tuple" = some false := by decide +kernel
theorem kit_int_list : kitB "int" "list" = some false := by decide +kernel
theorem kit_bool_int : kitB "bool" "int" = some true := by decide +kernel
theorem kit_bool_bool : kitB "bool" "bool" = some true := by decide +kernel
theorem kit_bool_str : kitB "bool" "str" = some false := by decide +kernel
theorem kit_bool_tuple : kitB "bool" "tuple" = some false := by decide +kernel
theorem kit_bool_list : kitB "bool" "list" = some false := by decide +kernel
theorem kit_str_int : kitB "str" "int" = some false := by decide +kernel
theorem kit_str_bool : kitB "str" "bool" = some false := by decide +kernel
theorem kit_str_str : kitB "str" "str" = some true := by decide +kernel
theorem kit_str_tuple : kitB "str" "tuple" = some false := by decide +kernel
theorem kit_str_list : kitB "str" "list" = some false := by decide +kernel
theorem kit_tuple_int : kitB "tuple" "int" = some false := by decide +kernel
theorem kit_tuple_bool : kitB "tuple" "bool" = some false := by decide +kernel
theorem kit_tuple_str : kitB "tuple" "str" = some false := by decide +kernel
theorem kit_tuple_tuple : kitB "tuple" "tuple" = some true := by decide +kernel
theorem kit_tuple_list : kitB "tuple" "list" = some false := by decide +kernel
theorem kit_NoneType_int : kitB "NoneType" "int" = some false := by decide +kernel
theorem kit_NoneType_bool : kitB "NoneType" "bool" = some false := by decide +kernel
theorem kit_NoneType_str : kitB "NoneType" "str" = some false := by decide +kernel
theorem kit_NoneType_tuple : kitB "NoneType" "tuple" = some false := by decide +kernel
theorem kit_NoneType_list : kitB "NoneType" "list" = some false := by decide +kernel
theorem kit_list_int : kitB "list" "int" = some false := by decide +kernel
theorem kit_list_bool : kitB "list" "bool" = some false := by decide +kernel
theorem kit_list_str : kitB "list" "str" = some false := by decide +kernel
theorem kit_list_tuple : kitB "list" "tuple" = some false := by decide +kernel
theorem kit_list_list : kitB "list" "list" = some true := by decide +kernel
/-- what is never reached -/
def tNeverE : TE := fun _ _ _ => False
def tNeverT : TT := fun _ _ _ => False
section
variable {X : Cx} {a b e : Expr} {ta tb te : TE} {pos : Pos}
theorem pe_never : PE X e tNeverE := ⟨fun _ _ _ _ _ _ h => h.elim⟩
theorem pt_never : PT X e tNeverT := ⟨fun _ _ _ _ _ _ h => h.elim⟩
theorem b_len : CallR X (.builtin "len") (rLen X.K) := call_len
theorem b_isi : CallR X (.builtin "isinstance") (rIsi X.K) := call_isi
theorem b_isiT : CallR X (.builtin "isinstance") (rIsiT X.K) := call_isiT
theorem b_int1 : CallR X (.type "int") rInt1 := call_int1
theorem b_intS : CallR X (.type "int") rIntS := call_int_str
theorem b_strI : CallR X (.type "str") rStrI := call_str_int
theorem b_tupO : CallR X (.type "tuple") (rTupO X.K) := call_tuple_of
theorem b_listO : CallR X (.type "list") (rListO X.K) := call_list_of
theorem b_max2 (hc : X.calm = true) : CallR X (.builtin "max") Evl.rMax2 := call_max2 hc
theorem o_isN : OpR X (compareOp .Is) rIsNo := op_isN
theorem o_notN : OpR X (compareOp .IsNot) rNotNo := op_notN
theorem o_addS : OpR X (binaryOp .Add) rAddS := op_add_str
theorem o_inSg : OpR X (compareOp .In) rInSg := op_in_sign
theorem pe_spl {o : Expr} {to : TE} {apos : Pos} (ho : PE X o to) (he : PE X e te) (hs : starEach [e] X.env = [(false, eval e X.env)] := by rfl) (hbase : attributeBase o "split" X.env (eval o X.env) = eval o X.env := by rfl) (hline : (apos.endLine == pos.line) = true := by rfl) :
    PE X (.Call (.Attribute o "split" apos) [e] [] pos) (tM1 rSplit to te) := pe_split ho he hs hbase hline
theorem pe_jn {o : Expr} {to : TE} {apos : Pos} (ho : PE X o to) (he : PE X e te) (hs : starEach [e] X.env = [(false, eval e X.env)] := by rfl) (hbase : attributeBase o "join" X.env (eval o X.env) = eval o X.env := by rfl) (hline : (apos.endLine == pos.line) = true := by rfl) :
    PE X (.Call (.Attribute o "join" apos) [e] [] pos) (tM1 (rJoin X.K) to te) := pe_join ho he hs hbase hline
theorem pe_app {o : Expr} {to : TE} {apos : Pos} (ho : PE X o to) (he : PE X e te)
    (hbase : attributeBase o "append" X.env (eval o X.env) = eval o X.env := by rfl)
    (hfew : ((backTo pos (starEach (e :: []) X.env)).all (fun x => !x.1) && (backToKw pos (keywordEach [] X.env)).all (fun x => x.1.isSome)
      && decide ((e :: []).length + ([] : List Keyword).length + (if ([] : List Keyword).isEmpty then 0 else 1) < 30)) = true := by rfl)
    (hline : (apos.endLine == pos.line) = true := by rfl) (hs : starEach (e :: []) X.env = (false, eval e X.env) :: starEach [] X.env := by rfl) (hplain : (backTo pos (starEach [] X.env)).any (·.1) = false := by rfl) :
    PE X (.Call (.Attribute o "append" apos) [e] [] pos) (tBM X.K "list" rAppend to (tCons te tNil)) := pe_bm PySem.F.plainAttrs_list PySem.F.slot_list_append PySem.F.type_list_append mt_append ho (pa_cons he pa_nil hs) hbase hfew hline hs hplain
theorem pe_ext {o : Expr} {to : TE} {apos : Pos} (ho : PE X o to) (he : PE X e te)
    (hbase : attributeBase o "extend" X.env (eval o X.env) = eval o X.env := by rfl)
    (hfew : ((backTo pos (starEach (e :: []) X.env)).all (fun x => !x.1) && (backToKw pos (keywordEach [] X.env)).all (fun x => x.1.isSome)
      && decide ((e :: []).length + ([] : List Keyword).length + (if ([] : List Keyword).isEmpty then 0 else 1) < 30)) = true := by rfl)
    (hline : (apos.endLine == pos.line) = true := by rfl) (hs : starEach (e :: []) X.env = (false, eval e X.env) :: starEach [] X.env := by rfl) (hplain : (backTo pos (starEach [] X.env)).any (·.1) = false := by rfl) :
    PE X (.Call (.Attribute o "extend" apos) [e] [] pos) (tBM X.K "list" rExtend to (tCons te tNil)) := pe_bm PySem.F.plainAttrs_list PySem.F.slot_list_extend PySem.F.type_list_extend mt_extend ho (pa_cons he pa_nil hs) hbase hfew hline hs hplain
theorem pe_popAt {o : Expr} {to : TE} {apos : Pos} (ho : PE X o to) (he : PE X e te)
    (hbase : attributeBase o "pop" X.env (eval o X.env) = eval o X.env := by rfl)
    (hfew : ((backTo pos (starEach (e :: []) X.env)).all (fun x => !x.1) && (backToKw pos (keywordEach [] X.env)).all (fun x => x.1.isSome)
      && decide ((e :: []).length + ([] : List Keyword).length + (if ([] : List Keyword).isEmpty then 0 else 1) < 30)) = true := by rfl)
    (hline : (apos.endLine == pos.line) = true := by rfl) (hs : starEach (e :: []) X.env = (false, eval e X.env) :: starEach [] X.env := by rfl) (hplain : (backTo pos (starEach [] X.env)).any (·.1) = false := by rfl) :
    PE X (.Call (.Attribute o "pop" apos) [e] [] pos) (tBM X.K "list" rPopAt to (tCons te tNil)) := pe_bm PySem.F.plainAttrs_list PySem.F.slot_list_pop PySem.F.type_list_pop mt_popAt ho (pa_cons he pa_nil hs) hbase hfew hline hs hplain
theorem pg_is {n : Nat} {is : List Nat} (h : PG X e (gTup X.K n (gNames is))) : PG X e (gTup X.K n (gNames is)) := h
end
section
variable {P : Program} {w : World} {K : PySem.W.Frag} {mg : Str → Option Value} {base : Heap}
end
/-! the same, the frag by name (inside comprehensions) -/
section
variable {X : Cx} {K : PySem.W.Frag}
theorem ix_listK (hK : X.K = K) : IxR X (rIxL K) := by subst hK; exact ix_list
theorem ix_tupK (hK : X.K = K) : IxR X (rIxT K) := by subst hK; exact ix_tup
theorem sl_listK (hK : X.K = K) : SlR X (rSlL K) := by subst hK; exact sl_list
theorem op_in_seqK (hK : X.K = K) : OpR X (compareOp .In) (rIn K false) := by subst hK; exact op_in_seq
theorem op_notIn_seqK (hK : X.K = K) : OpR X (compareOp .NotIn) (rIn K true) := by subst hK; exact op_notIn_seq
theorem op_catAK (hK : X.K = K) : OpR X (binaryOp .Add) (rCatA K) := by subst hK; exact op_catA
theorem sl_tupAK (hK : X.K = K) : SlR X (rSlA K) := by subst hK; exact sl_tupA
theorem b_lenK (hK : X.K = K) : CallR X (.builtin "len") (rLen K) := by subst hK; exact b_len
theorem b_isiK (hK : X.K = K) : CallR X (.builtin "isinstance") (rIsi K) := by subst hK; exact b_isi
theorem b_tupOK (hK : X.K = K) : CallR X (.type "tuple") (rTupO K) := by subst hK; exact b_tupO
theorem b_listOK (hK : X.K = K) : CallR X (.type "list") (rListO K) := by subst hK; exact b_listO
theorem cr_allK (hc : X.calm = true) (hK : X.K = K) : CallR X (.builtin "all") (rAll K) := by subst hK; exact cr_all hc
theorem cr_anyK (hc : X.calm = true) (hK : X.K = K) : CallR X (.builtin "any") (rAny K) := by subst hK; exact cr_any hc
theorem cr_maxK (hc : X.calm = true) (hK : X.K = K) : CallR X (.builtin "max") (rMax K) := by subst hK; exact cr_max hc
theorem cr_minK (hc : X.calm = true) (hK : X.K = K) : CallR X (.builtin "min") (rMin K) := by subst hK; exact cr_min hc
theorem pe_fldK {e : Expr} {ta : TE} {f : Str} {pos : Pos} (hK : X.K = K) (he : PE X e ta) (hb : attributeBase e f X.env (eval e X.env) = eval e X.env) : PE X (.Attribute e f pos) (tFld K ta f) := by subst hK; exact pe_fld he hb
theorem pe_revLK {e : Expr} {te : TE} {k : Nat} {p1 p2 p3 pos : Pos} (hK : X.K = K) (he : PE X e te) : PE X (.Subscript e (.Slice none none (some (.UnaryOp .USub (.Constant (.int 1) k p1) p2)) p3) pos) (tRevL K te) := by subst hK; exact pe_revL he
theorem pe_jnK {e o : Expr} {te to : TE} {pos apos : Pos} (hK : X.K = K) (ho : PE X o to) (he : PE X e te) (hs : starEach [e] X.env = [(false, eval e X.env)] := by rfl) (hbase : attributeBase o "join" X.env (eval o X.env) = eval o X.env := by rfl) (hline : (apos.endLine == pos.line) = true := by rfl) :
    PE X (.Call (.Attribute o "join" apos) [e] [] pos) (tM1 (rJoin K) to te) := by subst hK; exact pe_jn ho he hs hbase hline
theorem op_eqDk {X : Cx} {K : PySem.W.Frag} (hK : X.K = K) (hu : X.A.units + 64 < cLine) : OpR X (compareOp .Eq) (rEqD K) := by subst hK; exact op_eqD hu
theorem op_neDk {X : Cx} {K : PySem.W.Frag} (hK : X.K = K) (hu : X.A.units + 64 < cLine) : OpR X (compareOp .NotEq) (rNeD K) := by subst hK; exact op_neD hu
end
end K32
/-! Walks: checks. -/
namespace K32
open PySem PySem.Spec PyProof.Rows L2
local macro_rules | `(tactic| walk_at "ev") => `(tactic| first
  | exact evs_var rfl | exact evs_own rfl | exact evs_int | exact evs_str | exact evs_bl | exact evs_non
  | exact eva_nil | (apply eva_c <;> walk_at "ev")
  | exact evs_isi (evs_var rfl) rfl kit_int_int | exact evs_isi (evs_var rfl) rfl kit_int_bool | exact evs_isi (evs_var rfl) rfl kit_tuple_tuple | exact evs_isi (evs_var rfl) rfl kit_str_str
  | exact evs_ixT (evs_var rfl) evs_int rfl
  | (apply evs_I0 <;> walk_at "ev") | (apply evs_B0 <;> walk_at "ev")
  | (apply evs_andV <;> walk_at "ev") | (apply evs_orV <;> walk_at "ev") | (apply evs_notV; walk_at "ev")
  | (apply evs_chain <;> walk_at "ev")
  | (apply evs_neg; walk_at "ev")
  | (apply evt_test; walk_at "ev") | (apply evt_B; walk_at "ev") | (apply evt_not; walk_at "ev")
  | (apply evt_and1 <;> walk_at "ev") | (apply evt_or1 <;> walk_at "ev")
  | (intro _; walk_at "ev"))
local macro_rules | `(tactic| walk_at "ret") => `(tactic| (apply sx_ret; walk_at "ev"))
section
variable {P : Program} {w : World} {K : PySem.W.Frag} {mg : Str → Option Value} {base : Heap}
theorem cal_of {x : Str} {st : Stmt} {ps : List Str} {sp : Sp} {k : Nat} (D : DefAt K mg x st) (b : ∀ {f : Addr} {fd : FuncData}, FunD K x x (defArgs st) (defBody st) (defScope st) [] [] f fd → Binds K fd ps [])
    (ok : ∀ {f : Addr} {fd : FuncData}, FunD K x x (defArgs st) (defBody st) (defScope st) [] [] f fd → FnOk P w K mg base CX0 k f fd ps sp) : C8.Cal P w K mg base k x sp [] := by
  obtain ⟨⟨fd, F⟩, m⟩ := D
  exact ⟨_, fd, ps, [], ok F, m, F.kp, b F, .nil⟩
/-! ### checks -/
abbrev N_is_integer : List Str := ["thing"]
theorem sc_is_integer : FnScope N_is_integer ["thing"] (defScope (top 10)) := ⟨rfl, rfl, rfl, by decide +kernel, rfl, by decide +kernel, by decide +kernel⟩
theorem c_is_integer (T : TX K mg) : C8.Cal P w K mg base 1 "is_integer" (spS K (fun i : Int => [.dat (.int i)]) (fun _ => True) (fun _ => Is (.bool true))) [] := by
  refine cal_of T.d_is_integer (fun F => F.bindsN (ps := ["thing"]) fun _ _ _ _ _ _ us hl => match us, hl with | [_], _ => rfl) fun F => fnS F sc_is_integer (fun _ => rfl) (by intro a s hs ds z; subst z; simp at hs) fun cdv A outer s H E a hr ha => ?_
  refine ⟨_, (pss_one (ps_ret (pe_and (pe_callB b_isi (by rfl) T.n_isinstance bt_isinstance (pa_cons (pv 0) (pa_cons (pe_bltn (v := .ty "int") (by rfl) T.n_int bt_int rfl) pa_nil))) (pe_one (pe_not (pe_callB b_isi (by rfl) T.n_isinstance bt_isinstance (pa_cons (pv 0) (pa_cons (pe_bltn (v := .ty "bool") (by rfl) T.n_bool bt_bool rfl) pa_nil)))))))), ?_⟩
  walk_at "ret"
  rfl
abbrev N_is_within : List Str := ["thing", "least", "most"]
theorem sc_is_within : FnScope N_is_within ["thing", "least", "most"] (defScope (top 11)) := ⟨rfl, rfl, rfl, by decide +kernel, rfl, by decide +kernel, by decide +kernel⟩
theorem c_is_within (T : TX K mg) : C8.Cal P w K mg base 2 "is_within" (spS K (fun i : Int × Int × Int => [.dat (.int i.1), .dat (.int i.2.1), .dat (.int i.2.2)]) (fun _ => True) (fun i => Is (.bool (decide (i.2.1 ≤ i.1) && decide (i.1 ≤ i.2.2))))) [] := by
  refine cal_of T.d_is_within (fun F => F.bindsN (ps := ["thing", "least", "most"]) fun _ _ _ _ _ _ us hl => match us, hl with | [_, _, _], _ => rfl) fun F => fnS F sc_is_within (fun _ => rfl) (by intro a s hs ds z; subst z; simp at hs) fun cdv A outer s H E a hr ha => ?_
  refine ⟨_, (pss_one (ps_ret (pe_and (C8.pe_c (c_is_integer T) hr (by decide) rfl (pa_cons (pv 0) pa_nil)) (pe_one (pe_chain op_le op_le (pv 1) (pv 0) (pv 2)))))), ?_⟩
  refine sx_ret (evs_andV (evs_call1 a.1 (by walk_at "ev") trivial) fun _ => by walk_at "ev") ?_
  rfl
abbrev N_is_below : List Str := ["thing", "many"]
theorem sc_is_below : FnScope N_is_below ["thing", "many"] (defScope (top 12)) := ⟨rfl, rfl, rfl, by decide +kernel, rfl, by decide +kernel, by decide +kernel⟩
theorem c_is_below (T : TX K mg) : C8.Cal P w K mg base 3 "is_below" (spS K (fun i : Int × Int => [.dat (.int i.1), .dat (.int i.2)]) (fun i => 0 ≤ i.1 ∧ i.1 < i.2) (fun _ => Is (.bool true))) [] := by
  refine cal_of T.d_is_below (fun F => F.bindsN (ps := ["thing", "many"]) fun _ _ _ _ _ _ us hl => match us, hl with | [_, _], _ => rfl) fun F => fnS F sc_is_below (fun _ => rfl) (by intro a s hs ds z; subst z; simp at hs) fun cdv A outer s H E a hr ha => ?_
  refine ⟨_, (pss_one (ps_ret (C8.pe_c (c_is_within T) hr (by decide) rfl (pa_cons (pv 0) (pa_cons pe_int (pa_cons (pe_op op_sub (pv 1) pe_int) pa_nil)))))), ?_⟩
  refine sx_ret (evs_call1 (a.1, 0, a.2 - 1) (by walk_at "ev") trivial) ?_
  show _ = _
  rw [decide_eq_true ha.1, decide_eq_true (show a.1 ≤ a.2 - 1 by omega)]
  rfl
abbrev N_is_sized : List Str := ["thing", "least", "most"]
theorem sc_is_sized : FnScope N_is_sized ["thing", "least", "most"] (defScope (top 13)) := ⟨rfl, rfl, rfl, by decide +kernel, rfl, by decide +kernel, by decide +kernel⟩
theorem c_is_sized (T : TX K mg) : C8.Cal P w K mg base 1 "is_sized" (spS K (fun i : List PyData × Int × Int => [.dat (.tuple i.1), .dat (.int i.2.1), .dat (.int i.2.2)]) (fun i => i.1.length ≤ 16000000) (fun i => Is (.bool (decide (i.2.1 ≤ (i.1.length : Int)) && decide ((i.1.length : Int) ≤ i.2.2))))) [] := by
  refine cal_of T.d_is_sized (fun F => F.bindsN (ps := ["thing", "least", "most"]) fun _ _ _ _ _ _ us hl => match us, hl with | [_, _, _], _ => rfl) fun F => fnS F sc_is_sized (fun _ => rfl) (by intro a s hs ds z; subst z; simp at hs) fun cdv A outer s H E a hr ha => ?_
  refine ⟨_, (pss_one (ps_ret (pe_and (pe_callB b_isi (by rfl) T.n_isinstance bt_isinstance (pa_cons (pv 0) (pa_cons (pe_bltn (v := .ty "tuple") (by rfl) T.n_tuple bt_tuple rfl) pa_nil))) (pe_one (pe_chain op_le op_le (pv 1) (pe_callB b_len (by rfl) T.n_len bt_len (pa_cons (pv 0) pa_nil)) (pv 2)))))), ?_⟩
  refine sx_ret (evs_andV (evs_isi (evs_var rfl) rfl kit_tuple_tuple) fun _ => evs_chain (evs_var rfl) (evs_len (evs_var rfl) rfl ha) fun _ => evs_var rfl) ?_
  rfl
abbrev N_is_pair : List Str := ["thing"]
theorem sc_is_pair : FnScope N_is_pair ["thing"] (defScope (top 14)) := ⟨rfl, rfl, rfl, by decide +kernel, rfl, by decide +kernel, by decide +kernel⟩
theorem c_is_pair (T : TX K mg) : C8.Cal P w K mg base 2 "is_pair" (spS K (fun i : PyData × PyData => [.dat (.tuple [i.1, i.2])]) (fun _ => True) (fun _ => Is (.bool true))) [] := by
  refine cal_of T.d_is_pair (fun F => F.bindsN (ps := ["thing"]) fun _ _ _ _ _ _ us hl => match us, hl with | [_], _ => rfl) fun F => fnS F sc_is_pair (fun _ => rfl) (by intro a s hs ds z; subst z; simp at hs) fun cdv A outer s H E a hr ha => ?_
  refine ⟨_, (pss_one (ps_ret (C8.pe_c (c_is_sized T) hr (by decide) rfl (pa_cons (pv 0) (pa_cons pe_int (pa_cons pe_int pa_nil)))))), ?_⟩
  exact sx_ret (evs_call1 ([a.1, a.2], 2, 2) (by walk_at "ev") (by show 2 ≤ 16000000; decide)) rfl
abbrev N_check_within : List Str := ["thing", "least", "most"]
theorem sc_check_within : FnScope N_check_within ["thing", "least", "most"] (defScope (top 15)) := ⟨rfl, rfl, rfl, by decide +kernel, rfl, by decide +kernel, by decide +kernel⟩
theorem c_check_within (T : TX K mg) : C8.Cal P w K mg base 3 "check_within" (spS K (fun i : Int × Int × Int => [.dat (.int i.1), .dat (.int i.2.1), .dat (.int i.2.2)]) (fun i => i.2.1 ≤ i.1 ∧ i.1 ≤ i.2.2) (fun _ => Is .none)) [] := by
  refine cal_of T.d_check_within (fun F => F.bindsN (ps := ["thing", "least", "most"]) fun _ _ _ _ _ _ us hl => match us, hl with | [_, _, _], _ => rfl) fun F => fnS F sc_check_within (fun _ => rfl) (by intro a s hs ds z; subst z; simp at hs) fun cdv A outer s H E a hr ha => ?_
  refine ⟨_, (pss_one (ps_if (pt_not (pt_val (C8.pe_c (c_is_within T) hr (by decide) rfl (pa_cons (pv 0) (pa_cons (pv 1) (pa_cons (pv 2) pa_nil)))))) (pss_one ps_never) pss_nil)), ?_⟩
  refine sx_no ((evt_not (evt_B (evs_call1 a (by walk_at "ev") trivial))).imp fun b e => ?_) (sx_next rfl)
  rw [e, decide_eq_true ha.1, decide_eq_true ha.2]
  rfl
abbrev N_replaced : List Str := ["items", "number", "item"]
theorem sc_replaced : FnScope N_replaced ["items", "number", "item"] (defScope (top 16)) := ⟨rfl, rfl, rfl, by decide +kernel, rfl, by decide +kernel, by decide +kernel⟩
theorem c_replaced (T : TX K mg) : C8.Cal P w K mg base 1 "replaced" (spS K (fun i : List PyData × Nat × PyData => [.dat (.tuple i.1), .dat (.int (i.2.1 : Nat)), .dat i.2.2]) (fun i => i.2.1 < i.1.length ∧ i.1.length ≤ 1000) (fun i => Is (.tuple (i.1.set i.2.1 i.2.2)))) [] := by
  refine cal_of T.d_replaced (fun F => F.bindsN (ps := ["items", "number", "item"]) fun _ _ _ _ _ _ us hl => match us, hl with | [_, _, _], _ => rfl) fun F => fnS F sc_replaced (fun _ => rfl) (by intro a s hs ds z; subst z; simp at hs) fun cdv A outer s H E a hr ha => ?_
  refine ⟨_, (pss_one (ps_ret (pe_op op_catA (pe_op op_catA (pe_slice sl_tupA (pv 0) po_none (po_some (pv 1))) (pe_tup (pa_cons (pv 2) pa_nil))) (pe_slice sl_tupA (pv 0) (po_some (pe_op op_add (pv 1) pe_int)) po_none)))), ?_⟩
  have e1 : cutD a.1 none (some (a.2.1 : Nat)) = a.1.take a.2.1 := by
    unfold cutD
    rw [HT.sIx_none, HT.sIx_nat, List.drop_zero]
    congr 1
    omega
  have e2 : cutD a.1 (some ((a.2.1 : Int) + 1)) none = a.1.drop (a.2.1 + 1) := by
    unfold cutD
    have : ((a.2.1 : Int) + 1) = ((a.2.1 + 1 : Nat) : Int) := by omega
    rw [this, HT.sIx_none, HT.sIx_nat, List.take_of_length_le]
    · congr 1
      omega
    · rw [List.length_drop]; omega
  refine sx_ret (evs_catA (evs_catA (evs_slT (evs_var rfl) evo_none (evo_some (evs_var rfl))) (evs_tup (ds := [a.2.2]) (by walk_at "ev")) ?_) (evs_slT (evs_var rfl) (evo_some (by walk_at "ev")) evo_none) ?_) ?_
  · rw [e1, List.length_take]; show _ + 1 ≤ _; omega
  · rw [e1, e2]; simp only [List.length_append, List.length_take, List.length_drop, List.length_singleton]; omega
  · show _ = _
    rw [e1, e2, List.set_eq_take_append_cons_drop, if_pos ha.1, List.append_assoc]
    rfl
end
end K32
/-! The data of the law. -/
namespace K32
open PySem PySem.Spec PyProof.Rows L2
inductive Deed where
  | see | put (v : Nat)
def Deed.l : Deed → List PyData
  | .see => [.str "see"]
  | .put v => [.str "put", .int v]
def Deed.d (x : Deed) : PyData := .tuple x.l
def Deed.ok : Deed → Prop
  | .see => True
  | .put v => v < 1000
def scrD (l : List Deed) : PyData := .tuple (l.map Deed.d)
def scrOk (l : List Deed) : Prop := l.length ≤ 6 ∧ ∀ x ∈ l, x.ok
def natD (n : Nat) : PyData := .int (n : Nat)
def lotD (l : List Nat) : PyData := .tuple (l.map natD)
def lotOk (l : List Nat) : Prop := l.Pairwise (· < ·) ∧ ∀ x ∈ l, x < 20
inductive Mn where
  | sweep | twice | borrow
def Mn.s : Mn → Str
  | .sweep => "sweep"
  | .twice => "twice"
  | .borrow => "borrow"
inductive Inp where
  | man (k : Mn) (ss : List (List Deed))
  | lev (vs : List Nat)
  | nam (vs : List Nat)
  | near (r : Nat) (vs : List Int)
  | cha (ls : List (List Nat))
def Inp.kind : Inp → Str
  | .man k _ => k.s
  | .lev _ => "levels"
  | .nam _ => "names"
  | .near _ _ => "near"
  | .cha _ => "chain"
def Inp.rows : Inp → List PyData
  | .man _ ss => ss.map scrD
  | .lev vs => vs.map natD
  | .nam vs => vs.map natD
  | .near _ vs => vs.map PyData.int
  | .cha ls => ls.map lotD
def Inp.inputs : Inp → PyData
  | .near r vs => .tuple [.int (r : Nat), .tuple (vs.map PyData.int)]
  | i => .tuple i.rows
def Inp.ok (i : Inp) : Prop := (1 ≤ i.rows.length ∧ i.rows.length ≤ 5) ∧ match i with
  | .man _ ss => ∀ l ∈ ss, scrOk l
  | .lev vs => ∀ v ∈ vs, v < 1000
  | .nam vs => (∀ v ∈ vs, v < 1000) ∧ vs.Nodup
  | .near r vs => (1 ≤ r ∧ r ≤ 6) ∧ ∀ v ∈ vs, -1000 ≤ v ∧ v ≤ 1000
  | .cha ls => ∀ l ∈ ls, lotOk l
/-- the def that looks at a row -/
def Inp.chk : Inp → Str
  | .man _ _ => "is_script"
  | .lev _ => "is_value"
  | .nam _ => "is_value"
  | .near _ _ => "is_near_value"
  | .cha _ => "is_lot"
/-- what its rows are, said of the data -/
def isScr (d : PyData) : Prop := ∃ l, d = scrD l ∧ scrOk l
def isVal (d : PyData) : Prop := ∃ n : Nat, d = natD n ∧ n < 1000
def isNear (d : PyData) : Prop := ∃ i : Int, d = .int i ∧ -1000 ≤ i ∧ i ≤ 1000
def isLot (d : PyData) : Prop := ∃ l, d = lotD l ∧ lotOk l
def Inp.rowP : Inp → PyData → Prop
  | .man _ _ => isScr
  | .lev _ => isVal
  | .nam _ => isVal
  | .near _ _ => isNear
  | .cha _ => isLot
theorem Inp.ok_rows {i : Inp} (h : i.ok) : ∀ d ∈ i.rows, i.rowP d := by
  obtain ⟨_, h⟩ := h
  cases i with
  | man k ss =>
    intro d hd
    obtain ⟨l, hl, rfl⟩ := List.mem_map.mp hd
    exact ⟨l, rfl, h l hl⟩
  | lev vs =>
    intro d hd
    obtain ⟨l, hl, rfl⟩ := List.mem_map.mp hd
    exact ⟨l, rfl, h l hl⟩
  | nam vs =>
    intro d hd
    obtain ⟨l, hl, rfl⟩ := List.mem_map.mp hd
    exact ⟨l, rfl, h.1 l hl⟩
  | near r vs =>
    intro d hd
    obtain ⟨l, hl, rfl⟩ := List.mem_map.mp hd
    exact ⟨l, rfl, h.2 l hl⟩
  | cha ls =>
    intro d hd
    obtain ⟨l, hl, rfl⟩ := List.mem_map.mp hd
    exact ⟨l, rfl, h l hl⟩
/-- True, as often as there are items -/
theorem allT_of {l : List PyData} {n : Nat} : (List.range n).map (fun _ => PyData.bool true) = (List.replicate n true).map PyData.bool := by
  apply List.ext_getElem?
  intro i
  by_cases h : i < n
  · rw [List.getElem?_map, List.getElem?_range h, List.getElem?_map, List.getElem?_replicate_of_lt h]; rfl
  · rw [List.getElem?_eq_none (by simpa using h), List.getElem?_eq_none (by simpa using h)]
/-- shapes of data: how deep, and that its texts can be laid -/
def Lay (n : Nat) (d : PyData) : Prop := d.canLay0 = true ∧ d.depth ≤ n
theorem Lay.shaped {n : Nat} {d : PyData} (h : Lay n d) (hn : n ≤ 64 := by decide) : SeqAt.shaped d = true := by
  unfold SeqAt.shaped
  rw [h.1, decide_eq_true (Nat.le_trans h.2 hn)]
  rfl
theorem Lay.int {n : Nat} {i : Int} : Lay n (.int i) := ⟨rfl, Nat.zero_le _⟩
theorem Lay.none {n : Nat} : Lay n .none := ⟨rfl, Nat.zero_le _⟩
theorem Lay.str {n : Nat} {x : Str} (h : PyData.strOk x = true) : Lay n (.str x) := ⟨h, Nat.zero_le _⟩
theorem Lay.all {n : Nat} : ∀ {ds : List PyData}, (∀ d ∈ ds, Lay n d) → PyData.canLayAll0 ds = true ∧ PyData.depthAll ds ≤ n
  | [], _ => ⟨rfl, Nat.zero_le _⟩
  | d :: ds, h => by
    obtain ⟨h1, h2⟩ := Lay.all fun e he => h e (List.mem_cons_of_mem _ he)
    obtain ⟨h3, h4⟩ := h d List.mem_cons_self
    exact ⟨by rw [PyData.canLayAll0, h3, h1]; rfl, by rw [PyData.depthAll]; exact Nat.max_le.mpr ⟨h4, h2⟩⟩
theorem Lay.tup {n : Nat} {ds : List PyData} (h : ∀ d ∈ ds, Lay n d) : Lay (n + 1) (.tuple ds) := by
  obtain ⟨h1, h2⟩ := Lay.all h
  exact ⟨by rw [PyData.canLay0]; exact h1, by rw [PyData.depth]; omega⟩
theorem Lay.lst {n : Nat} {ds : List PyData} (h : ∀ d ∈ ds, Lay n d) : Lay (n + 1) (.list ds) := by
  obtain ⟨h1, h2⟩ := Lay.all h
  exact ⟨by rw [PyData.canLay0]; exact h1, by rw [PyData.depth]; omega⟩
theorem Lay.nil {n : Nat} {d : PyData} (h : d ∈ ([] : List PyData)) : Lay n d := nomatch h
theorem Lay.cons {n : Nat} {e : PyData} {l : List PyData} (h : Lay n e) (t : ∀ d ∈ l, Lay n d) : ∀ d ∈ e :: l, Lay n d := fun d hd => by
  rcases List.mem_cons.mp hd with rfl | hd
  · exact h
  · exact t d hd
theorem Lay.self {n : Nat} {d : PyData} (h : Lay n d) : PyData.eqv d d = true := PySem.SeqAt.eqv_refl d h.1
theorem ok_put : PyData.strOk ("put" : Str) = true := by decide +kernel
theorem ok_see : PyData.strOk ("see" : Str) = true := by decide +kernel
theorem ok_look : PyData.strOk ("look" : Str) = true := by decide +kernel
theorem lay_deed (x : Deed) : Lay 1 x.d := by
  cases x with
  | see => exact .tup (.cons (.str ok_see) fun _ => .nil)
  | put v => exact .tup (.cons (.str ok_put) (.cons .int fun _ => .nil))
/-- cuts at one end -/
theorem cutD_from {ds : List PyData} {k : Nat} : cutD ds (some (k : Int)) none = ds.drop k := by
  unfold cutD
  rw [HT.sIx_none, HT.sIx_nat]
  by_cases h : k ≤ ds.length
  · rw [Nat.min_eq_left h, List.take_of_length_le (by rw [List.length_drop]; omega)]
  · rw [Nat.min_eq_right (by omega), List.drop_of_length_le (by omega), List.drop_of_length_le (show ds.length ≤ k by omega)]
    simp
theorem cutD_to {ds : List PyData} {k : Nat} : cutD ds none (some (k : Int)) = ds.take k := by
  unfold cutD
  rw [HT.sIx_none, HT.sIx_nat, List.drop_zero, Nat.sub_zero]
  by_cases h : k ≤ ds.length
  · rw [Nat.min_eq_left h]
  · rw [Nat.min_eq_right (by omega), List.take_of_length_le (Nat.le_refl _), List.take_of_length_le (by omega)]
theorem atI_nat {α : Type} (xs : List α) (i : Nat) : atI xs (i : Int) = xs[i]? := by
  unfold atI ixN
  rw [if_pos (Int.natCast_nonneg i)]
  by_cases h : (i : Int) < (xs.length : Int)
  · rw [if_pos h]; rfl
  · rw [if_neg h, List.getElem?_eq_none (by omega)]; rfl
theorem lot_len : ∀ (l : List Nat) (a : Nat), l.Pairwise (· < ·) → (∀ x ∈ l, a ≤ x ∧ x < 20) → a ≤ 20 → l.length ≤ 20 - a
  | [], _, _, _, _ => Nat.zero_le _
  | x :: l, a, h, hb, ha => by
    obtain ⟨h1, h2⟩ := List.pairwise_cons.mp h
    obtain ⟨b1, b2⟩ := hb x List.mem_cons_self
    have := lot_len l (x + 1) h2 (fun y hy => ⟨h1 y hy, (hb y (List.mem_cons_of_mem _ hy)).2⟩) (by omega)
    rw [List.length_cons]
    omega
theorem lotOk.len {l : List Nat} (h : lotOk l) : l.length ≤ 20 := lot_len l 0 h.1 (fun x hx => ⟨Nat.zero_le _, h.2 x hx⟩) (by omega)
/-- the manners' names -/
def manD : List PyData := [.str "sweep", .str "twice", .str "borrow"]
def Inp.isMan : Inp → Bool
  | .man _ _ => true
  | _ => false
theorem kind_man (i : Inp) : inD (.str i.kind) manD = i.isMan := by
  cases i with
  | man k ss => show inD (.str k.s) _ = true; cases k <;> decide +kernel
  | lev vs => show inD (.str "levels") manD = false; decide +kernel
  | nam vs => show inD (.str "names") manD = false; decide +kernel
  | near r vs => show inD (.str "near") manD = false; decide +kernel
  | cha ls => show inD (.str "chain") manD = false; decide +kernel
theorem kind_all (i : Inp) : inD (.str i.kind) (manD ++ [.str "levels", .str "names", .str "near", .str "chain"]) = true := by
  cases i with
  | man k ss => show inD (.str k.s) _ = true; cases k <;> decide +kernel
  | lev vs => show inD (.str "levels") _ = true; decide +kernel
  | nam vs => show inD (.str "names") _ = true; decide +kernel
  | near r vs => show inD (.str "near") _ = true; decide +kernel
  | cha ls => show inD (.str "chain") _ = true; decide +kernel
/-- a play's kind is, or is not, a word -/
theorem str_ne {x y : Str} (h : x ≠ y) : vOf (.str x) ≠ vOf (.str y) := fun e => h (by injection e)
/-- a play's attributes -/
def playD (i : Inp) : List (Str × PyData) := [("kind", .str i.kind), ("inputs", i.inputs), ("rows", .tuple i.rows)]
end K32
/-! Rules of our own: enumerate over a tuple, len(set(a tuple of ints)), a tuple once. -/
namespace K32
open PySem PySem.Spec PyProof.Rows L2
/-! ### enumerate(t), t a tuple -/
theorem enumT_new (l : Addr) (its : Array Value) (m : Nat) (dct : Option Addr) (sl : Array (Option Value)) :
    Meets (Builtin.«enumerate.__new__» ⟨[.type "enumerate", .ref l], []⟩) (fun _ R s => s.heap.get? l = some { cls := .type "tuple", dict := dct, data := .seq its m, slots := sl } ∧
      R (.ok (.ret (.ref (s.heap.push { cls := .type "tuple_iterator", data := .fields #[.ref l, .int 0 0] }).objs.size)))
        { s with heap := (s.heap.push { cls := .type "tuple_iterator", data := .fields #[.ref l, .int 0 0] }).push { cls := .type "enumerate", data := .fields #[.none, .bool false, .ref s.heap.objs.size, rawInt 0, .none, .none] } }) :=
  .of_wp fun prog w A R s h => by
    obtain ⟨hp, g, d, tk, os⟩ := s
    obtain ⟨hl, h⟩ := h
    have hsub := sub_enumerate
    have tT : Heap.IsTuple (Shared.heap ⟨hp, g, d, tk, os⟩) l its := ⟨_, hl, rfl, m, rfl⟩
    wp_walk using AutoSeq1.wpAny_loadPart' hl
    refine wpAny_stack_any fun st => wpAny_pure ?_
    split
    · rename_i c _ _ _ _ _
      cases (c == Value.type "enumerate") <;> (wp_walk using AutoSeq1.wpAny_loadPart' hl, wpAny_pyIter_tuple tT; exact ⟨_, rfl, h⟩)
    · wp_walk using AutoSeq1.wpAny_loadPart' hl, wpAny_pyIter_tuple tT
      exact ⟨_, rfl, h⟩
section
variable {prog : Program} {w : World} {A : Around} {E : Value → Shared → Prop} {s : Shared}
theorem enumT_call {l : Addr} {its : Array Value} {Q : Value → Shared → Prop} (hL : s.heap.IsTuple l its)
    (h : ∀ g, IsEnum g (s.heap.objs.size + 1) s.heap.objs.size 0 .none → g.IsTupleIter s.heap.objs.size l 0 → (∀ b o, s.heap.get? b = some o → g.get? b = some o) → Q (.ref (s.heap.objs.size + 1)) { s with heap := g }) :
    wpAny (model prog w) A (call (.type "enumerate") [.ref l]) Q E s := by
  obtain ⟨⟨c, dct, dt, sl⟩, hl, hc, n, hd⟩ := hL
  have hc' : c = .type "tuple" := hc
  have hd' : dt = .seq its n := hd
  subst hc' hd'
  refine callType_new F.called_enumerate (by decide) (F.typeCall_enumerate_1 _) (F.newCall_enumerate_1 _) (fun u => F.args_object_init_2 u _) F.entry_enumerate_new (enumT_new l its n dct sl) ⟨hl, ?_⟩
  have hz : (s.heap.push { cls := .type "tuple_iterator", data := .fields #[.ref l, .int 0 0] }).objs.size = s.heap.objs.size + 1 := Heap.size_push ..
  show _ ∧ _
  rw [hz]
  have he : IsEnum ((s.heap.push { cls := .type "tuple_iterator", data := .fields #[.ref l, .int 0 0] }).push
      { cls := .type "enumerate", data := .fields #[.none, .bool false, .ref s.heap.objs.size, rawInt 0, .none, .none] }) (s.heap.objs.size + 1) s.heap.objs.size 0 .none := by
    have e2 := Heap.get?_push_size (s.heap.push { cls := .type "tuple_iterator", data := .fields #[.ref l, .int 0 0] }) (o := { cls := .type "enumerate", data := .fields #[.none, .bool false, .ref s.heap.objs.size, rawInt 0, .none, .none] }) rfl
    rw [hz] at e2
    exact e2
  exact ⟨⟨_, he, rfl⟩, h _ he ⟨_, Heap.get?_push_of_some _ (Heap.get?_push_size _ rfl), rfl, rfl⟩ fun b o x => Heap.get?_push_of_some _ (Heap.get?_push_of_some _ x)⟩
end
/-- the tuple at a, each item in a new pair behind its number -/
def IteT (K : PySem.W.Frag) (a : Addr) : It :=
  ⟨fun i H => ∃ (xs : List V) (x : V), SqT K H a xs ∧ xs[i]? = some x, fun i H v G => ∃ T x, v = .ref T ∧ H T = none ∧ G = upd H T (.tup [.int (i : Nat), x]) ∧ ∀ xs, SqT K H a xs → xs[i]? = some x, fun i H => ∃ xs : List V, SqT K H a xs ∧ xs.length ≤ i⟩
theorem mem2 {b e it : Addr} (hb : b ∈ [e, it]) : b = e ∨ b = it := by simpa using hb
theorem turn_enumT {P : Program} {w : World} {K : PySem.W.Frag} {elts : List Expr} {kk : Nat} {tpos : Pos} (a e it : Addr) :
    Turn P w K (.Tuple elts kk tpos) (IteT K a) [e, it] e (fun i h => (∃ old, IsEnum h e it ((i : Nat) : Int) old) ∧ h.IsTupleIter it a i ∧ e ≠ it ∧ a ≠ it ∧ e ≠ a) where
  mem := List.mem_cons_self
  obj i h st b hb := by
    obtain ⟨⟨old, he⟩, ⟨o, ho, hc, hd⟩, _⟩ := st
    rcases mem2 hb with rfl | rfl
    · exact ⟨_, he, fun v q => nomatch q⟩
    · exact ⟨o, ho, fun v q => by rw [hd] at q; cases q⟩
  keep i h g st k := by
    obtain ⟨⟨old, he⟩, hi, hne⟩ := st
    exact ⟨⟨old, k e (by simp) _ he⟩, hi.at fun o q => k it (by simp) o q, hne⟩
  item := by
    intro X hP hw hK hc i pins s σ H E I hf st hg
    subst hP hw hK
    obtain ⟨⟨old, he⟩, hit, n1, n2, n3⟩ := st
    obtain ⟨xs, x, hq, hx⟩ := hg
    obtain ⟨its, rv, p, hz⟩ := I.tuple hq
    obtain ⟨u, hu, ru⟩ := rv.get hx
    have hel : e < s.heap.objs.size := Heap.lt_size he
    have hil : it < s.heap.objs.size := let ⟨_, q, _⟩ := hit; Heap.lt_size q
    have pT : s.heap.IsTuple a its.toArray := p
    have hlt : i < its.toArray.size := by
      rw [List.size_toArray]
      exact (List.getElem?_eq_some_iff.mp hu).1
    have hh : X.A.in1.handled = none := I.ok.hd hc
    refine wpAny_pyNext_enum_itemD (Draws.tuple hh it a n2 its.toArray) he ⟨hit, pT⟩ hlt n1 (by simp [n1, n3]) fun y g tk hy ho hst hT hsz hk => ?_
    have ey : y = u := by
      have : its.toArray[i]? = some y := hy
      rw [List.getElem?_toArray, hu] at this
      exact (Option.some.inj this).symm
    subst ey
    refine ⟨_, rfl, wpAny_letOwnedTupleGo_enum (s := { s with heap := g, toks := tk + 1 }) ho fun g2 he2 sb => ?_⟩
    have hT2 : g2.get? s.heap.objs.size = some { cls := .type "tuple", data := .seq #[.int i tk, y] } := (sb.2 _ (Nat.ne_of_gt hel)).trans hT
    have new : ObjOk X.prog X.w (upd H s.heap.objs.size (.tup [.int (i : Nat), x])) g2 s.heap.objs.size (.tup [.int (i : Nat), x]) :=
      ⟨(by show 2 ≤ sizeLine; decide), [.int i tk, y], .cons ⟨_, rfl⟩ (.cons ru .nil), ⟨_, hT2, rfl, _, rfl⟩⟩
    have I1 : Inv X pins σ (upd H s.heap.objs.size (.tup [.int (i : Nat), x])) { s with heap := g2, toks := tk + 1 } :=
      I.turnedNew (ch := [e, it]) (fun b o hb q => (sb.2 b fun z => hb (by simp [z])).trans (hk b o (fun z => hb (by simp [z])) (fun z => hb (by simp [z])) q)) hf (Nat.le_refl _) new
    refine ⟨.ref s.heap.objs.size, _, I1, rfl, ⟨_, x, rfl, I.hok.fresh (Nat.le_refl _), rfl, fun ys hy => by rw [I.tuple_inj hy hq]; exact hx⟩, ⟨⟨y, ?_⟩, hst.1.at fun o q => (sb.2 it (Ne.symm n1)).trans q, n1, n2, n3⟩, fun b hb => ?_⟩
    · rw [show ((i + 1 : Nat) : Int) = (i : Int) + 1 by omega]
      exact he2
    · have hb2 : b < s.heap.objs.size := by rcases mem2 hb with rfl | rfl <;> assumption
      rw [upd_ne (Nat.ne_of_lt hb2)]
      exact (hf b hb).1
  done := by
    intro X hP hw hK hc i pins s σ H E I hf st hg
    subst hP hw hK
    obtain ⟨⟨old, he⟩, hit, n1, n2, n3⟩ := st
    obtain ⟨xs, hq, hx⟩ := hg
    obtain ⟨its, rv, p, hz⟩ := I.tuple hq
    obtain ⟨f0, f1, f2, f3, f4, f5⟩ := hf it (by simp)
    have pT : s.heap.IsTuple a its.toArray := p
    have hh : X.A.in1.handled = none := I.ok.hd hc
    have D : Draws X.prog X.w X.A.in1 it [it, a] i (fun _ _ => False) (fun j h => j = i ∧ h.IsTupleIter it a i ∧ h.IsTuple a its.toArray) :=
      { live := fun _ _ st => let ⟨o, ho, _⟩ := st.2.1; ⟨o, ho⟩
        frame := fun _ _ _ st hk => ⟨st.1, st.2.1.at fun o e => hk it (by simp) o e, st.2.2.at fun o e => hk a (by simp) o e⟩
        item := fun j s Q E hj st _ => absurd st.1 (Nat.ne_of_lt hj)
        done := fun s Q E st hE => wpAny_nextOf_tuple_end hh st.2.1 st.2.2 (by rw [Array.getElem?_eq_none]; rw [List.size_toArray, ← rv.length]; exact hx) hE }
    exact wpAny_pyNext_enum_endD D he ⟨rfl, hit, pT⟩ fun g eb => ⟨rfl, I.turned (t' := s.toks) (fun b o hb q => eb b o hb q) f0 f1 f3 f4 f5⟩
  self := fun A i s Q E st h => let ⟨⟨_, he⟩, _⟩ := st; wpAny_pyIter_enum he h
def iEnumT (K : PySem.W.Frag) (ta : TA) : TI := fun σ H R => ta σ H fun vs H1 => ∃ a xs, vs = [.ref a] ∧ SqT K H1 a xs ∧ R (IteT K a) H1
theorem pi_enumT {X : Cx} {e : Expr} {ta : TA} {p pos tpos : Pos} {elts : List Expr} {kk : Nat} (hg : Gl X "enumerate") (hm : X.mg "enumerate" = none) (ha : PA X [e] ta) (hs : starEach [e] X.env = [(false, eval e X.env)] := by rfl) :
    PI X (.Tuple elts kk tpos) (.Call (.Name "enumerate" p) [e] [] pos) (iEnumT X.K ta) := by
  refine ⟨fun pins s σ H R I h => Call_ (ld_blt I hg hm boot_enumerate (PyProof.Rows.callWith_type1 (thn (ha.run pos pins s σ H _ I h) fun us s1 hh => ?_) hs rfl))⟩
  obtain ⟨vs, H1, I1, r1, a, xs, ex, hq, q⟩ := hh
  subst ex
  cases r1 with
  | cons r rr =>
    cases rr
    cases r
    obtain ⟨its, rv, pt, hz⟩ := I1.tuple hq
    have al : a < s1.heap.objs.size := let ⟨_, q, _⟩ := pt; Heap.lt_size q
    refine enumT_call pt fun g he hit hk => wpAny_pyIter_enum he ?_
    have I2 : Inv X pins σ H1 { s1 with heap := g } := I1.kept (t' := s1.toks) hk
    refine ⟨s1.heap.objs.size + 1, [s1.heap.objs.size + 1, s1.heap.objs.size], _, _, H1, rfl, I2, turn_enumT a (s1.heap.objs.size + 1) s1.heap.objs.size, ⟨⟨.none, he⟩, hit, Nat.succ_ne_self _, Nat.ne_of_lt al, Nat.ne_of_gt (Nat.lt_succ_of_lt al)⟩, fun b hb => ?_, q⟩
    have lb : s1.heap.objs.size ≤ b := by rcases mem2 hb with rfl | rfl <;> omega
    exact I1.fpOk lb (I1.hok.fresh lb)
/-! ### in layer D -/
section
variable {B : Bx} {H H' H1 : Hp} {σ : L2.St} {δ : Dn} {te ta tb : TE}
theorem src_enumT {a : Addr} {ds : List PyData} {i j : Nat} : Src (B.add [(.ref a, .dat (.tuple ds))]) (IteT B.K a) (gTup B.K 2 (gNames [i, j])) ds.length (fun k δ => putL [i, j] [.int (k : Nat), ds.getD k .none] δ) [i, j] where
  go k H σ δ st hi := by
    obtain ⟨_, xs, e, sq, t⟩ := DT.tup_inv (gh_head st); cases e
    obtain ⟨x, hx, _⟩ := t.get (List.getElem?_eq_getElem hi)
    exact ⟨xs, x, sq, hx⟩
  stop k H σ δ st hi := by
    obtain ⟨_, xs, e, sq, t⟩ := DT.tup_inv (gh_head st); cases e
    exact ⟨xs, sq, by rw [t.length]; exact hi⟩
  yld k H σ δ v H' st hi h kk kkk := by
    obtain ⟨T, x, rfl, hT, rfl, hx⟩ := h
    obtain ⟨_, xs, e, sq, t⟩ := DT.tup_inv (gh_head st); cases e
    obtain ⟨d, hd, ox⟩ := t.getV (hx xs sq)
    rw [getD_of hd] at kkk
    exact pair_yld st hT (.int _) ox kk kkk
theorem evi_enumT {P : List PyData → Prop} {i j : Nat} (h : EvS B te δ (fun s => ∃ ds, s = .dat (.tuple ds) ∧ P ds)) : EvI B (iEnumT B.K (tCons te tNil)) δ (gTup B.K 2 (gNames [i, j])) [i, j] (fun n put => ∃ ds, P ds ∧ n = ds.length ∧ put = fun k δ => putL [i, j] [.int (k : Nat), ds.getD k .none] δ) := fun σ H st R k => h σ H st _ fun v H1 s r1 h1 o1 ⟨ds, p1, p2⟩ => by
  subst p1
  obtain ⟨a, xs, rfl, sq, t⟩ := DT.tup_inv o1
  exact ⟨a, xs, rfl, sq, k _ H1 [(.ref a, .dat (.tuple ds))] _ _ r1 h1 ((st.mono r1 h1).ghost o1 rfl) src_enumT ⟨ds, p2, rfl, rfl⟩⟩
theorem evi_enumT1 {ds : List PyData} {i j : Nat} (h : EvS B te δ (Is (.tuple ds))) : EvI B (iEnumT B.K (tCons te tNil)) δ (gTup B.K 2 (gNames [i, j])) [i, j] (fun n put => n = ds.length ∧ put = fun k δ => putL [i, j] [.int (k : Nat), ds.getD k .none] δ) := fun σ H st R k =>
  evi_enumT (P := (· = ds)) (i := i) (j := j) (h.imp fun _ e => ⟨ds, e, rfl⟩) σ H st R fun J H' γ n put r hh s sr ⟨es, e, e1, e2⟩ => by
    subst e
    exact k J H' γ n put r hh s sr ⟨e1, e2⟩
end
/-! ### len(set(t)), t a tuple of unlike ints -/
def tLenSetT (K : PySem.W.Frag) (ta : TE) : TE := fun σ H Q => ta σ H fun x H1 => ∃ (l : Addr) (ns : List Int), x = .ref l ∧ SqT K H1 l (ns.map V.int) ∧ ns.Nodup ∧ ns.length ≤ 4000 ∧ Q (.int (ns.length : Nat)) H1
theorem pe_lenSetT {X : Cx} {a : Expr} {ta : TE} {p p2 q pos : Pos} (hg : Gl X "len") (hm : X.mg "len" = none) (hg2 : Gl X "set") (hm2 : X.mg "set" = none) (ha : PE X a ta) (hc : X.calm = true := by rfl)
    (na : starEach [a] X.env = (false, eval a X.env) :: starEach [] X.env := by rfl) : PE X (.Call (.Name "len" p) [.Call (.Name "set" p2) [a] [] q] [] pos) (tLenSetT X.K ta) := ⟨fun pins s σ H Q I h =>
  Call_ (ld_blt I hg hm PySem.boot_len (PyProof.Rows.callWith_builtin1 (PyProof.Rows.args_cons (Call_ (ld_blt I hg2 hm2 boot_set (PyProof.Rows.callWith_type1 (PyProof.Rows.args_cons (thn (ha.run pins s σ H _ I h) fun v s1 hh => PyProof.Rows.args_nil (by
    obtain ⟨x, H1, I1, r1, l, ns, rfl, hq, hnd, hl, q1⟩ := hh
    cases r1
    obtain ⟨its, r, pt, hz⟩ := I1.tuple hq
    refine call_set_tupI ns (I1.ok.hd hc) pt (by simpa using RZ.intsAre_vals r) (by unfold scanBound; omega) fun h' tk c hS hcl hk => PyProof.Rows.args_nil ?_
    obtain ⟨o, es, ep, t, ho, hex, hd, _, nd, mem, hb, hf, hn, _⟩ := hS
    have en : es.size = ns.length := by
      have pm : (es.toList.map keyOf).Perm ns := (List.perm_ext_iff_of_nodup nd hnd).mpr fun k => by rw [← mem k]; exact decide_eq_true_iff
      have := pm.length_eq
      rw [List.length_map, Array.length_toList] at this
      exact this
    have I2 : Inv X pins σ H1 { s1 with heap := h', toks := tk } := I1.kept hk
    exact call_len_set ho hex hd hf (by rw [en]; omega) ⟨.int ns.length, H1, I2.tok _, ⟨_, by rw [en]⟩, q1⟩)) na) na rfl))) rfl) rfl rfl))⟩
theorem evs_lenSet {B : Bx} {δ : Dn} {ta : TE} {ns : List Int} (ha : EvS B ta δ (Is (.tuple (ns.map PyData.int)))) (hn : ns.Nodup) (hz : ns.length ≤ 4000) : EvS B (tLenSetT B.K ta) δ (Is (.int (ns.length : Nat))) := fun σ H st Q k => ha σ H st _ fun v H1 s r1 h1 o1 e => by
  subst e
  obtain ⟨a, xs, rfl, sq, t⟩ := DT.tup_inv o1
  exact ⟨a, ns, rfl, by rw [← t.ints]; exact sq, hn, hz, k.dat r1 h1 (DT.int _) rfl⟩
/-! ### str of an int, of a text -/
def rStr : List V → Hp → VK → Prop := fun xs H Q => (∃ i, xs = [.int i] ∧ i.natAbs.log2 < 1920 ∧ Q (.str (toString i)) H) ∨ ∃ a, xs = [.str a] ∧ Q (.str a) H
theorem b_str {X : Cx} : CallR X (.type "str") rStr := CallR.or call_str_int SkE.call_str_str
/-- the word of an int, of a text -/
def wordD : PyData → Str
  | .int i => toString i
  | .str x => x
  | _ => Str.empty
def wordOk : PyData → Prop
  | .int i => i.natAbs.log2 < 1920
  | .str _ => True
  | _ => False
theorem evs_str1 {B : Bx} {δ : Dn} {ta : TE} {d : PyData} (ha : EvS B ta δ (Is d)) (h : wordOk d) : EvS B (tCB rStr (tCons ta tNil)) δ (Is (.str (wordD d))) := evs_cb (eva_c ha eva_nil) fun H vs hh ps Q k => by
  obtain ⟨v, rfl, o⟩ := paired1 ps
  cases d with
  | int i => cases DT.int_inv o; exact .inl ⟨i, rfl, h, k.dat .refl hh (DT.str _) rfl⟩
  | str x => cases DT.str_inv o; exact .inr ⟨x, rfl, k.dat .refl hh (DT.str _) rfl⟩
  | _ => exact h.elim
/-! ### t * 1 is t -/
theorem tup_mul1 (l : Addr) (its : Array Value) (n : Nat) (dd : Option Addr) (sl : Array (Option Value)) (u : Tok) :
    Meets (Builtin.«tuple.__mul__» ⟨[.ref l, .int 1 u], []⟩) (fun _ R s => s.heap.get? l = some { cls := .type "tuple", dict := dd, data := .seq its n, slots := sl } ∧ R (.ok (.ret (.ref l))) s) :=
  .of_wp fun prog w A R s h => by
    obtain ⟨hp, g, d, tk, os⟩ := s
    obtain ⟨hl, h⟩ := h
    have f1 := AutoSeq1.idx_int
    have c1 : (its.isEmpty || (1 : Int) == 1) = true := by simp
    wp_walk using AutoSeq1.wpAny_loadPart' hl
    exact ⟨_, rfl, h⟩
def rRepU (K : PySem.W.Frag) : R2 := fun x y H Q => ∃ l k xs, x = .ref l ∧ y = .int k ∧ SqT K H l xs ∧ xs ≠ [] ∧ 1 ≤ k ∧ k ≤ 1000 ∧ xs.length ≤ 1000 ∧ (k = 1 → Q (.ref l) H) ∧ (2 ≤ k → ∀ p, H p = none → Q (.ref p) (upd H p (.tup (List.replicate k.toNat xs).flatten)))
theorem op_repU {X : Cx} : OpR X (binaryOp .Mult) (rRepU X.K) := by
  intro pins s σ H x y v u Q I rx ry h
  obtain ⟨l, k, xs, rfl, rfl, hT, hne, h1, h2, hz, q1, q2⟩ := h
  by_cases hk : k = 1
  · subst hk
    cases rx
    obtain ⟨t, rfl⟩ := ry
    obtain ⟨its, r, ⟨⟨cls, dd, data, sl⟩, ho, hc, n, hd⟩, hs⟩ := I.tuple hT
    have hc' : cls = .type "tuple" := hc
    have hd' : data = .seq its.toArray n := hd
    subst hc' hd'
    refine wpAny_binaryOp_repeat_ref (T := "tuple") (U := "int") (by decide) ⟨_, ho, rfl⟩ (fun s' => typeIs_int s' 1 t) noFill_tuple_mul F.fills_int_mul F.slot_int_rmul repeat_tuple F.slot_int_index.lookup ?_
    refine call_meets F.slot_int_rmul (typeIs_int s 1 t) F.entry_int_rmul (F.args_int_rmul_2 _ _) (int_rmul_tuple 1 t l its.toArray n dd sl) ⟨ho, rfl, ⟨_, ho, rfl⟩, ?_⟩
    exact call_meets F.slot_tuple_mul ⟨_, ho, rfl⟩ F.entry_tuple_mul (F.args_tuple_mul_2 _ _) (tup_mul1 l its.toArray n dd sl t) ⟨ho, .ref l, H, I, rfl, q1 rfl⟩
  · exact op_repT pins s σ H _ _ v u Q I rx ry ⟨l, k, xs, rfl, rfl, hT, hne, by omega, h2, hz, q2 (by omega)⟩
theorem evs_repU {B : Bx} {δ : Dn} {ta tb : TE} {d : PyData} {k : Nat} (ha : EvS B ta δ (Is (.tuple [d]))) (hb : EvS B tb δ (Is (.int (k : Nat)))) (h1 : 1 ≤ k) (h2 : k ≤ 1000) : EvS B (tOp (rRepU B.K) ta tb) δ (Is (.tuple (List.replicate k d))) := evs_op1 ha hb fun H v w hh o1 o2 Q kk => by
  obtain ⟨a, xs, rfl, sq, t⟩ := DT.tup_inv o1
  cases t with
  | cons o t =>
    cases t
    rename_i x
    refine ⟨a, k, [x], rfl, DT.int_inv o2, sq, by simp, by omega, by omega, by simp, fun e => ?_, fun e p hp => ?_⟩
    · have : k = 1 := by omega
      subst this
      exact kk.dat .refl hh o1 rfl
    · have r2 : Rel B.hd H (upd H p (.tup (List.replicate (k : Int).toNat [x]).flatten)) := Rel.new hp
      have t2 : ∀ n : Nat, DTs B.K (upd H p (.tup (List.replicate (k : Int).toNat [x]).flatten)) (List.replicate n [x]).flatten (List.replicate n d) := fun n => by
        induction n with
        | zero => exact .nil
        | succ n ih =>
          rw [List.replicate_succ, List.replicate_succ, List.flatten_cons]
          exact .cons (DT.mono (fun _ _ => sqT_rel hh r2) _ _ o) ih
      refine kk.dat r2 (hh.new hp) (.tup (SqT.of upd_same) ?_) rfl
      rw [Int.toNat_natCast]
      have := t2 k
      rw [Int.toNat_natCast] at this
      exact this
end K32
/-! Walks: plays. -/
namespace K32
open PySem PySem.Spec PyProof.Rows L2
local macro_rules | `(tactic| walk_at "ev") => `(tactic| first
  | exact evs_var rfl | exact evs_own rfl | exact evs_int | exact evs_str | exact evs_bl | exact evs_non
  | exact eva_nil | (apply eva_c <;> walk_at "ev")
  | exact evs_isi (evs_var rfl) rfl kit_int_int | exact evs_isi (evs_var rfl) rfl kit_int_bool | exact evs_isi (evs_var rfl) rfl kit_tuple_tuple | exact evs_isi (evs_var rfl) rfl kit_str_str
  | exact evs_ixT (evs_var rfl) evs_int rfl
  | (apply evs_I0 <;> walk_at "ev") | (apply evs_B0 <;> walk_at "ev")
  | (apply evs_andV <;> walk_at "ev") | (apply evs_orV <;> walk_at "ev") | (apply evs_notV; walk_at "ev")
  | (apply evs_chain <;> walk_at "ev")
  | (apply evs_neg; walk_at "ev")
  | (apply evt_test; walk_at "ev") | (apply evt_B; walk_at "ev") | (apply evt_not; walk_at "ev")
  | (apply evt_and1 <;> walk_at "ev") | (apply evt_or1 <;> walk_at "ev")
  | (intro _; walk_at "ev"))
local macro_rules | `(tactic| walk_at "ret") => `(tactic| (apply sx_ret; walk_at "ev"))
section
variable {P : Program} {w : World} {K : PySem.W.Frag} {mg : Str → Option Value} {base : Heap}
theorem calAt_of {x : Str} {st : Stmt} {sp : Sp} {k : Nat} (D : DefAt K mg x st) (c : C8.Cal P w K mg base k x sp []) : C8.CalAt P w K mg base k (He.ga K x) sp := by
  obtain ⟨f, fd, ps, ds, F, m, kp, b, v⟩ := c.ex
  rw [D.mgf] at m
  cases m
  cases v
  exact ⟨fd, ps, F, kp, b⟩
end
section
variable {X : Cx} {e : Expr} {es : List Expr} {t : TA} {p pos : Pos} {x : Str}
theorem pe_held {i k j : Nat} {f : Addr} {sp : Sp} (c : C8.CalAt X.prog X.w X.K X.mg X.base k f sp) (hr : Room j X.A) (hk : k ≤ j) (hN : X.N[i]? = some x) (hv : Vis X.env.scope x) (ha : PA X (e :: es) t)
    (hdb : (x == ("__debug__" : Str)) = false := by decide) (hcd : (x == ("__classdict__" : Str)) = false := by decide)
    (he : starEach (e :: es) X.env = (false, eval e X.env) :: starEach es X.env := by rfl) (hpl : (backTo pos (starEach es X.env)).any (·.1) = false := by rfl) :
    PE X (.Call (.Name x p) (e :: es) [] pos) (tCallL i f sp [] C8.E0 t) := by
  obtain ⟨fd, ps, F, kp, b⟩ := c.ex
  exact pe_callL F (hr.mono hk) hN hv kp b .nil C8.pass0 ha hdb hcd he hpl
end
section
variable {B : Bx} {δ : Dn} {S : Sv → Prop}
theorem evs_callL {t : TA} {f : Addr} {i : Nat} {P : List Sv → Prop} {α : Type} {arg : α → List Sv} {pre : α → Prop} {res : α → Sv → Prop} {E : XK} (hi : δ[i]? = some (some (.val (.ref f)))) (h : EvA B t δ P) (hp : ∀ ss, P ss → ∃ a, ss = arg a ∧ pre a ∧ ∀ s, res a s → S s) : EvS B (tCallL i f (spS B.K arg pre res) [] E t) δ S := fun σ H st Q k => by
  obtain ⟨v, e1, e2⟩ := st.ok i _ hi
  have e2' : v = .ref f := e2
  subst e2'
  exact ⟨e1, evs_call h hp σ H st Q k⟩
theorem evs_call1L {t : TA} {f : Addr} {i : Nat} {α : Type} {arg : α → List Sv} {pre : α → Prop} {res : α → Sv → Prop} {E : XK} (a : α) (hi : δ[i]? = some (some (.val (.ref f)))) (h : EvA B t δ (· = arg a)) (p : pre a) : EvS B (tCallL i f (spS B.K arg pre res) [] E t) δ (res a) := evs_callL hi h fun _ e => ⟨a, e, p, fun _ q => q⟩
end
section
variable {P : Program} {w : World} {K : PySem.W.Frag} {mg : Str → Option Value} {base : Heap}
abbrev N_is_deed : List Str := ["thing"]
theorem sc_is_deed : FnScope N_is_deed ["thing"] (defScope (top 33)) := ⟨rfl, rfl, rfl, by decide +kernel, rfl, by decide +kernel, by decide +kernel⟩
theorem c_is_deed (T : TX K mg) : C8.Cal P w K mg base 4 "is_deed" (spS K (fun x : Deed => [.dat x.d]) (fun x => x.ok) (fun _ => Is (.bool true))) [] := by
  refine cal_of T.d_is_deed (fun F => F.bindsN (ps := ["thing"]) fun _ _ _ _ _ _ us hl => match us, hl with | [_], _ => rfl) fun F => fnS F sc_is_deed (fun _ => rfl) (by intro a s hs ds z; subst z; simp at hs) fun cdv A outer s H E a hr ha => ?_
  refine ⟨_, (pss_cons (ps_if (PW.pt (pw_or (pt_not (pt_val (C8.pe_c (c_is_sized T) hr (by decide) rfl (pa_cons (pv 0) (pa_cons pe_int (pa_cons pe_int pa_nil)))))) (pw_or1 (pt_not (pt_val (pe_callB b_isi (by rfl) T.n_isinstance bt_isinstance (pa_cons (pe_ix ix_tup (pv 0) pe_int (fun _ _ => rfl)) (pa_cons (pe_bltn (v := .ty "str") (by rfl) T.n_str bt_str rfl) pa_nil)))))))) (pss_one (ps_ret pe_bl)) pss_nil) (pss_one (ps_ret (pe_or (pe_cmpR (op_eqD hr.units) (pv 0) (pe_tup (pa_cons (C8.pe_gc rfl T.c_SEE) pa_nil)) (nomark _)) (pe_one (pe_and (pe_cmpR op_eq (pe_callB b_len (by rfl) T.n_len bt_len (pa_cons (pv 0) pa_nil)) pe_int (nomark _)) (pe_and (pe_cmpR op_eq (pe_ix ix_tup (pv 0) pe_int (fun _ _ => rfl)) (C8.pe_gc rfl T.c_PUT_plays) (nomark _)) (pe_one (C8.pe_c (c_is_below T) hr (by decide) rfl (pa_cons (pe_ix ix_tup (pv 0) pe_int (fun _ _ => rfl)) (pa_cons (C8.pe_gc rfl T.c_MOST_VALUE) pa_nil))))))))))), ?_⟩
  have h0 : atI a.l 0 = some (.str (match a with | .see => "see" | .put _ => "put")) := by cases a <;> rfl
  have hl : a.l.length = 1 ∨ a.l.length = 2 := by cases a <;> simp [Deed.l]
  refine q_no ((evt_or1 (evt_not (evt_B (evs_call1 (a.l, 1, 2) (by walk_at "ev") (by show a.l.length ≤ _; omega)))) fun _ => evt_not (evt_B (evs_isi (evs_ixT (evs_var rfl) evs_int h0) rfl kit_str_str))).imp fun b e => ?_) ?_
  · rw [e]
    cases a <;> rfl
  · cases a with
    | see =>
      refine sx_ret (evs_orV (b := true) (evs_eqD (evs_var rfl) (evs_tup (ds := [.str "see"]) (eva_c evs_str eva_nil)) rfl rfl (lay_deed .see).shaped (lay_deed .see).shaped) fun e => ?_) ?_
      · exact absurd ((lay_deed .see).self.symm.trans e) (by decide)
      · show _ = _
        rw [Bool.or_true]
    | put v =>
      have e0 : PyData.eqv (Deed.put v).d (Deed.see).d = false := by
        have : (("put" : Str) == ("see" : Str)) = false := by decide +kernel
        simp [Deed.d, Deed.l, PyData.eqv, PyData.eqvAll]
      refine sx_ret (evs_orV (evs_eqD (evs_var rfl) (evs_tup (ds := [.str "see"]) (eva_c evs_str eva_nil)) rfl rfl (lay_deed (.put v)).shaped (lay_deed .see).shaped) fun e =>
        evs_andV (evs_eqT (d := .int 2) (evs_len (evs_var rfl) rfl (by decide)) evs_int rfl rfl) fun _ => evs_andV (evs_eqT (d := .str "put") (evs_ixT (evs_var rfl) evs_int rfl) evs_str rfl rfl) fun _ => evs_call1 ((v : Int), 1000) (by walk_at "ev") ⟨Int.natCast_nonneg v, by have : v < 1000 := ha; show (v : Int) < 1000; omega⟩) ?_
      show Sv.dat (.bool (_ || true)) = _
      rw [Bool.or_true]
abbrev N_is_script : List Str := ["thing", "deed"]
theorem sc_is_script : FnScope N_is_script ["thing"] (defScope (top 34)) := ⟨rfl, rfl, rfl, by decide +kernel, rfl, by decide +kernel, by decide +kernel⟩
theorem c_is_script (T : TX K mg) : C8.Cal P w K mg base 5 "is_script" (spS K (fun d : PyData => [.dat d]) isScr (fun _ => Is (.bool true))) [] := by
  refine cal_of T.d_is_script (fun F => F.bindsN (ps := ["thing"]) fun _ _ _ _ _ _ us hl => match us, hl with | [_], _ => rfl) fun F => fnS F sc_is_script (fun _ => rfl) (by intro a s hs ds z; subst z; simp at hs) fun cdv A outer s H E a hr ha => ?_
  refine ⟨_, (pss_one (ps_ret (pe_and (C8.pe_c (c_is_sized T) hr (by decide) rfl (pa_cons (pv 0) (pa_cons pe_int (pa_cons (C8.pe_gc rfl T.c_MOST_DEEDS) pa_nil)))) (pe_one (pe_callB (cr_all rfl) (by rfl) T.n_all bt_all (pa_cons (pe_lc (own := [("deed", 1)]) (g := gName 1) (by rfl) sc_is_script.nd (pi_tup (pv 0)) (blkOk_by (own := [("deed", 1)]) (N := N_is_script) (sc := defScope (top 34)) (by decide +kernel)) (fun _ _ _ _ _ => (pg_name (i := 1) sc_is_script.nd rfl (Or.inl rfl))) (fun _ _ _ _ _ => pts_nil) (fun _ _ _ _ _ => (C8.pe_c (c_is_deed T) hr (by decide) rfl (pa_cons (pv 1) pa_nil)))) pa_nil)))))), ?_⟩
  obtain ⟨l, rfl, h1, h2⟩ := ha
  have hz : (l.map Deed.d).length ≤ 6 := by rw [List.length_map]; exact h1
  refine sx_ret (evs_andV (evs_call1 (l.map Deed.d, 0, 6) (by walk_at "ev") (by show (l.map Deed.d).length ≤ _; omega)) fun _ => evs_allLc (evi_tup1 (evs_var rfl)) fun n put ⟨e1, e2⟩ => ?_) ?_
  · subst e1 e2
    refine ⟨by omega, fun γ i hi => ?_⟩
    rw [List.length_map] at hi
    have e : (l.map Deed.d).getD i .none = (l[i]).d := getD_of (by rw [List.getElem?_map, List.getElem?_eq_getElem hi]; rfl)
    refine evs_call1 l[i] (eva_c (evs_var ?_) eva_nil) (h2 _ (List.getElem_mem hi))
    unfold putN
    rw [e]
    rfl
  · show Sv.dat (.bool ((decide ((0 : Int) ≤ ((l.map Deed.d).length : Int)) && decide (((l.map Deed.d).length : Int) ≤ 6)) && true)) = _
    rw [decide_eq_true (show (0 : Int) ≤ ((l.map Deed.d).length : Int) by omega), decide_eq_true (show ((l.map Deed.d).length : Int) ≤ 6 by omega)]
    rfl
abbrev N_is_value : List Str := ["thing"]
theorem sc_is_value : FnScope N_is_value ["thing"] (defScope (top 35)) := ⟨rfl, rfl, rfl, by decide +kernel, rfl, by decide +kernel, by decide +kernel⟩
theorem c_is_value (T : TX K mg) : C8.Cal P w K mg base 4 "is_value" (spS K (fun d : PyData => [.dat d]) isVal (fun _ => Is (.bool true))) [] := by
  refine cal_of T.d_is_value (fun F => F.bindsN (ps := ["thing"]) fun _ _ _ _ _ _ us hl => match us, hl with | [_], _ => rfl) fun F => fnS F sc_is_value (fun _ => rfl) (by intro a s hs ds z; subst z; simp at hs) fun cdv A outer s H E a hr ha => ?_
  refine ⟨_, (pss_one (ps_ret (C8.pe_c (c_is_below T) hr (by decide) rfl (pa_cons (pv 0) (pa_cons (C8.pe_gc rfl T.c_MOST_VALUE) pa_nil))))), ?_⟩
  obtain ⟨n, rfl, h1⟩ := ha
  exact sx_ret (evs_call1 ((n : Int), 1000) (by walk_at "ev") ⟨Int.natCast_nonneg n, by show (n : Int) < 1000; omega⟩) rfl
abbrev N_is_near_value : List Str := ["thing"]
theorem sc_is_near_value : FnScope N_is_near_value ["thing"] (defScope (top 36)) := ⟨rfl, rfl, rfl, by decide +kernel, rfl, by decide +kernel, by decide +kernel⟩
theorem c_is_near_value (T : TX K mg) : C8.Cal P w K mg base 3 "is_near_value" (spS K (fun d : PyData => [.dat d]) isNear (fun _ => Is (.bool true))) [] := by
  refine cal_of T.d_is_near_value (fun F => F.bindsN (ps := ["thing"]) fun _ _ _ _ _ _ us hl => match us, hl with | [_], _ => rfl) fun F => fnS F sc_is_near_value (fun _ => rfl) (by intro a s hs ds z; subst z; simp at hs) fun cdv A outer s H E a hr ha => ?_
  refine ⟨_, (pss_one (ps_ret (C8.pe_c (c_is_within T) hr (by decide) rfl (pa_cons (pv 0) (pa_cons (pe_un un_neg (C8.pe_gc rfl T.c_MOST_VALUE)) (pa_cons (C8.pe_gc rfl T.c_MOST_VALUE) pa_nil)))))), ?_⟩
  obtain ⟨n, rfl, h1, h2⟩ := ha
  refine sx_ret (evs_call1 (n, -1000, 1000) (by walk_at "ev") trivial) ?_
  show _ = _
  rw [decide_eq_true h1, decide_eq_true h2]
  rfl
abbrev N_is_lot : List Str := ["thing", "item", "one", "other"]
theorem sc_is_lot : FnScope N_is_lot ["thing"] (defScope (top 37)) := ⟨rfl, rfl, rfl, by decide +kernel, rfl, by decide +kernel, by decide +kernel⟩
theorem c_is_lot (T : TX K mg) : C8.Cal P w K mg base 4 "is_lot" (spS K (fun d : PyData => [.dat d]) isLot (fun _ => Is (.bool true))) [] := by
  refine cal_of T.d_is_lot (fun F => F.bindsN (ps := ["thing"]) fun _ _ _ _ _ _ us hl => match us, hl with | [_], _ => rfl) fun F => fnS F sc_is_lot (fun _ => rfl) (by intro a s hs ds z; subst z; simp at hs) fun cdv A outer s H E a hr ha => ?_
  refine ⟨_, (pss_cons (ps_if (PW.pt (pw_or (pt_not (pt_val (pe_callB b_isi (by rfl) T.n_isinstance bt_isinstance (pa_cons (pv 0) (pa_cons (pe_bltn (v := .ty "tuple") (by rfl) T.n_tuple bt_tuple rfl) pa_nil))))) (pw_or1 (pt_not (pt_val (pe_callB (cr_all rfl) (by rfl) T.n_all bt_all (pa_cons (pe_lc (own := [("item", 1)]) (g := gName 1) (by rfl) sc_is_lot.nd (pi_tup (pv 0)) (blkOk_by (own := [("item", 1)]) (N := N_is_lot) (sc := defScope (top 37)) (by decide +kernel)) (fun _ _ _ _ _ => (pg_name (i := 1) sc_is_lot.nd rfl (Or.inl rfl))) (fun _ _ _ _ _ => pts_nil) (fun _ _ _ _ _ => (C8.pe_c (c_is_below T) hr (by decide) rfl (pa_cons (pv 1) (pa_cons (C8.pe_gc rfl T.c_MOST_THING) pa_nil))))) pa_nil))))))) (pss_one (ps_ret pe_bl)) pss_nil) (pss_one (ps_ret (pe_callB (cr_all rfl) (by rfl) T.n_all bt_all (pa_cons (pe_lc (own := [("one", 2), ("other", 3)]) (g := gTup K 2 (gNames [2, 3])) (by rfl) sc_is_lot.nd (RZ.pi_zipA (by rfl) T.n_zip (pa_cons (pv 0) (pa_cons (pe_slice sl_tupA (pv 0) (po_some pe_int) po_none) pa_nil))) (blkOk_by (own := [("one", 2), ("other", 3)]) (N := N_is_lot) (sc := defScope (top 37)) (by decide +kernel)) (fun _ _ _ _ _ => (pg_is (is := [2, 3]) (pg_tup rfl (pgs_cons (pg_name (i := 2) sc_is_lot.nd rfl (Or.inl rfl)) (pgs_cons (pg_name (i := 3) sc_is_lot.nd rfl (Or.inl rfl)) pgs_nil))))) (fun _ _ _ _ _ => pts_nil) (fun _ _ _ _ _ => (pe_cmpR op_lt (pv 2) (pv 3) (nomark _)))) pa_nil))))), ?_⟩
  obtain ⟨l, rfl, h⟩ := ha
  have hz := h.len
  have hg : ∀ k (hk : k < l.length), (l.map natD).getD k .none = natD l[k] := fun k hk => getD_of (by rw [List.getElem?_map, List.getElem?_eq_getElem hk]; rfl)
  have hg1 : ∀ k (hk : k + 1 < l.length), (cutD (l.map natD) (some 1) none).getD k .none = natD l[k + 1] := fun k hk => getD_of (by
    rw [show (1 : Int) = ((1 : Nat) : Int) from rfl, cutD_from, List.getElem?_drop, List.getElem?_map, Nat.add_comm 1 k, List.getElem?_eq_getElem hk]; rfl)
  refine q_no (EvT.imp (P := (· = (!true || !true))) (evt_or1 (evt_not (evt_B (evs_isi (evs_var rfl) rfl kit_tuple_tuple))) fun _ => evt_not (evt_B (evs_allLc (evi_tup1 (evs_var rfl)) fun n put e => ?a))) fun b e => e) (sx_ret (evs_allLc (evi_zipT (evs_var rfl) (evs_slT (evs_var rfl) (evo_some evs_int) evo_none)) fun n put e => ?b) rfl)
  case a =>
    obtain ⟨e1, e2⟩ := e
    subst e1 e2
    rw [List.length_map]
    refine ⟨by omega, fun γ i hi => evs_call1 ((l[i] : Int), 20) (eva_c (evs_var ?_) (eva_c evs_int eva_nil)) ⟨Int.natCast_nonneg _, by have := h.2 _ (List.getElem_mem hi); show (l[i] : Int) < 20; omega⟩⟩
    unfold putN
    rw [hg i hi]
    rfl
  obtain ⟨e1, e2⟩ := e
  subst e1 e2
  have hc : (cutD (l.map natD) (some 1) none).length = l.length - 1 := by
    rw [show (1 : Int) = ((1 : Nat) : Int) from rfl, cutD_from, List.length_drop, List.length_map]
  rw [List.length_map, hc]
  refine ⟨by omega, fun γ i hi => ?_⟩
  have hi1 : i + 1 < l.length := by omega
  have hi0 : i < l.length := by omega
  refine (evs_B0 (i := (l[i] : Int)) (j := (l[i + 1] : Int)) (evs_var ?_) (evs_var ?_)).imp fun s e => ?_
  · unfold putZ; rw [hg i hi0]; rfl
  · unfold putZ; rw [hg1 i hi1]; rfl
  · have : l[i] < l[i + 1] := List.pairwise_iff_getElem.mp h.1 i (i + 1) hi0 hi1 (Nat.lt_succ_self i)
    rw [e, decide_eq_true (show (l[i] : Int) < (l[i + 1] : Int) by omega)]
theorem chk_at (T : TX K mg) (i : Inp) : C8.CalAt P w K mg base 5 (He.ga K i.chk) (spS K (fun d : PyData => [.dat d]) i.rowP (fun _ => Is (.bool true))) := by
  have up : ∀ {k f sp}, k ≤ 5 → C8.CalAt P w K mg base k f sp → C8.CalAt P w K mg base 5 f sp := fun hk c => by
    obtain ⟨fd, ps, F, r⟩ := c.ex
    exact ⟨fd, ps, F.mono hk, r⟩
  cases i with
  | man k ss => exact calAt_of T.d_is_script (c_is_script T)
  | lev vs => exact up (by decide) (calAt_of T.d_is_value (c_is_value T))
  | nam vs => exact up (by decide) (calAt_of T.d_is_value (c_is_value T))
  | near r vs => exact up (by decide) (calAt_of T.d_is_near_value (c_is_near_value T))
  | cha ls => exact up (by decide) (calAt_of T.d_is_lot (c_is_lot T))
abbrev N_is_row_of : List Str := ["is_one", "thing", "item"]
theorem sc_is_row_of : FnScope N_is_row_of ["is_one", "thing"] (defScope (top 38)) := ⟨rfl, rfl, rfl, by decide +kernel, rfl, by decide +kernel, by decide +kernel⟩
theorem c_is_row_of (T : TX K mg) : C8.Cal P w K mg base 6 "is_row_of" (spS K (fun i : Inp => [.val (.ref (He.ga K i.chk)), .dat (.tuple i.rows)]) (fun i => i.ok) (fun _ => Is (.bool true))) [] := by
  refine cal_of T.d_is_row_of (fun F => F.bindsN (ps := ["is_one", "thing"]) fun _ _ _ _ _ _ us hl => match us, hl with | [_, _], _ => rfl) fun F => fnS F sc_is_row_of (fun _ => rfl) (by intro a s hs ds z; subst z; simp at hs) fun cdv A outer s H E a hr ha => ?_
  refine ⟨_, (pss_one (ps_ret (pe_and (C8.pe_c (c_is_sized T) hr (by decide) rfl (pa_cons (pv 1) (pa_cons pe_int (pa_cons (C8.pe_gc rfl T.c_MOST_HANDS_plays) pa_nil)))) (pe_one (pe_callB (cr_all rfl) (by rfl) T.n_all bt_all (pa_cons (pe_lc (own := [("item", 2)]) (g := gName 2) (by rfl) sc_is_row_of.nd (pi_tup (pv 1)) (blkOk_by (own := [("item", 2)]) (N := N_is_row_of) (sc := defScope (top 38)) (by decide +kernel)) (fun _ _ _ _ _ => (pg_name (i := 2) sc_is_row_of.nd rfl (Or.inl rfl))) (fun _ _ _ _ _ => pts_nil) (fun _ _ _ _ _ => (pe_held (i := 0) (chk_at T a) hr (by decide) rfl (by first | exact Or.inl rfl | exact Or.inr (Or.inl rfl) | exact Or.inr (Or.inr rfl)) (pa_cons (pv 2) pa_nil)))) pa_nil)))))), ?_⟩
  have h1 := ha.1
  have h2 := Inp.ok_rows ha
  refine sx_ret (evs_andV (evs_call1 (a.rows, 1, 5) (by walk_at "ev") (by show a.rows.length ≤ _; omega)) fun _ => evs_allLc (evi_tup1 (evs_var rfl)) fun n put ⟨e1, e2⟩ => ?_) ?_
  · subst e1 e2
    refine ⟨by omega, fun γ i hi => evs_call1L (a.rows[i]) rfl (eva_c (evs_var ?_) eva_nil) (h2 _ (List.getElem_mem hi))⟩
    unfold putN
    rw [getD_of (List.getElem?_eq_getElem hi)]
    rfl
  · show Sv.dat (.bool ((decide ((1 : Int) ≤ (a.rows.length : Int)) && decide ((a.rows.length : Int) ≤ 5)) && true)) = _
    rw [decide_eq_true (show (1 : Int) ≤ (a.rows.length : Int) by omega), decide_eq_true (show (a.rows.length : Int) ≤ 5 by omega)]
    rfl
theorem mann_dt (T : TX K mg) (H : Hp) : DTs K H [V.str "sweep", V.str "twice", V.str "borrow"] manD := .cons (.str _) (.cons (.str _) (.cons (.str _) .nil))
theorem evs_mann {B : Bx} {δ : Dn} (T : TX B.K mg) : EvS B (tC (.ref (He.ga B.K "MANNERS"))) δ (Is (.tuple manD)) := evs_ktup T.t_MANNERS fun H => mann_dt T H
theorem nodup_int : ∀ {l : List Nat}, l.Nodup → (l.map fun n : Nat => (n : Int)).Nodup := fun h => List.pairwise_map.mpr (h.imp fun n e => n (Int.ofNat.inj e))
abbrev N_are_inputs : List Str := ["kind", "thing"]
theorem sc_are_inputs : FnScope N_are_inputs ["kind", "thing"] (defScope (top 39)) := ⟨rfl, rfl, rfl, by decide +kernel, rfl, by decide +kernel, by decide +kernel⟩
theorem c_are_inputs (T : TX K mg) : C8.Cal P w K mg base 7 "are_inputs" (spS K (fun i : Inp => [.dat (.str i.kind), .dat i.inputs]) (fun i => i.ok) (fun _ => Is (.bool true))) [] := by
  refine cal_of T.d_are_inputs (fun F => F.bindsN (ps := ["kind", "thing"]) fun _ _ _ _ _ _ us hl => match us, hl with | [_, _], _ => rfl) fun F => fnS F sc_are_inputs (fun _ => rfl) (by intro a s hs ds z; subst z; simp at hs) fun cdv A outer s H E a hr ha => ?_
  refine ⟨_, (pss_cons (ps_if (pt_cmpR op_in_seq (pv 0) (C8.pe_gc rfl T.c_MANNERS) (by rfl)) (pss_one (ps_ret (C8.pe_c (c_is_row_of T) hr (by decide) rfl (pa_cons (pe_glob (v := .ref (He.ga K "is_script")) rfl T.d_is_script.mgf rfl) (pa_cons (pv 1) pa_nil))))) pss_nil) (pss_cons (ps_if (pt_cmpR op_eq (pv 0) (C8.pe_gc rfl T.c_LEVELS) (nomark _)) (pss_one (ps_ret (C8.pe_c (c_is_row_of T) hr (by decide) rfl (pa_cons (pe_glob (v := .ref (He.ga K "is_value")) rfl T.d_is_value.mgf rfl) (pa_cons (pv 1) pa_nil))))) pss_nil) (pss_cons (ps_if (pt_cmpR op_eq (pv 0) (C8.pe_gc rfl T.c_NAMES) (nomark _)) (pss_one (ps_ret (pe_and (C8.pe_c (c_is_row_of T) hr (by decide) rfl (pa_cons (pe_glob (v := .ref (He.ga K "is_value")) rfl T.d_is_value.mgf rfl) (pa_cons (pv 1) pa_nil))) (pe_one (pe_cmpR op_eq (pe_lenSetT (by rfl) T.n_len (by rfl) T.n_set (pv 1)) (pe_callB b_len (by rfl) T.n_len bt_len (pa_cons (pv 1) pa_nil)) (nomark _)))))) pss_nil) (pss_cons (ps_if (pt_cmpR op_eq (pv 0) (C8.pe_gc rfl T.c_CHAIN) (nomark _)) (pss_one (ps_ret (C8.pe_c (c_is_row_of T) hr (by decide) rfl (pa_cons (pe_glob (v := .ref (He.ga K "is_lot")) rfl T.d_is_lot.mgf rfl) (pa_cons (pv 1) pa_nil))))) pss_nil) (pss_one (ps_ret (pe_and (C8.pe_c (c_is_pair T) hr (by decide) rfl (pa_cons (pv 1) pa_nil)) (pe_and (C8.pe_c (c_is_within T) hr (by decide) rfl (pa_cons (pe_ix ix_tup (pv 1) pe_int (fun _ _ => rfl)) (pa_cons pe_int (pa_cons (C8.pe_gc rfl T.c_MOST_ROUNDS) pa_nil)))) (pe_one (C8.pe_c (c_is_row_of T) hr (by decide) rfl (pa_cons (pe_glob (v := .ref (He.ga K "is_near_value")) rfl T.d_is_near_value.mgf rfl) (pa_cons (pe_ix ix_tup (pv 1) pe_int (fun _ _ => rfl)) pa_nil)))))))))))), ?_⟩
  have hm : ∀ δ, δ[0]? = some (some (Sv.dat (.str a.kind))) → EvT ⟨K, none, H, []⟩ (tTest (tOp (rIn K false) (tVar 0) (tC (.ref (He.ga K "MANNERS"))))) δ (· = a.isMan) := fun δ h0 => (evt_test (evs_in (B := ⟨K, none, H, []⟩) (evs_var h0) (evs_mann T) rfl rfl (by decide))).imp fun b e => by rw [e]; exact kind_man a
  cases a with
  | man k ss => exact sx_seq (G := fun _ => False) (sx_yes (hm _ rfl) (sx_ret (evs_call1 (Inp.man k ss) (eva_c evs_val (eva_c (evs_var rfl) eva_nil)) ha) rfl)) fun _ q => q.elim
  | lev vs =>
    refine q_no (hm _ rfl) ?_
    exact sx_seq (G := fun _ => False) (sx_yes (evt_test (evs_eqT (d := .str "levels") (evs_var rfl) evs_str rfl rfl)) (sx_ret (evs_call1 (Inp.lev vs) (eva_c evs_val (eva_c (evs_var rfl) eva_nil)) ha) rfl)) fun _ q => q.elim
  | nam vs =>
    refine q_no (hm _ rfl) ?_
    refine q_no (evt_test (evs_eqF (d := .str "names") (e := .str "levels") (evs_var rfl) evs_str rfl rfl rfl (str_ne (by decide +kernel)))) ?_
    have hz : vs.length ≤ 5 := by have := ha.1.2; rwa [show (Inp.nam vs).rows.length = vs.length from List.length_map _] at this
    have e1 : vs.map natD = (vs.map fun n : Nat => (n : Int)).map PyData.int := by rw [List.map_map]; rfl
    refine sx_seq (G := fun _ => False) (sx_yes (evt_test (evs_eqT (d := .str "names") (evs_var rfl) evs_str rfl rfl)) (sx_ret (evs_andV (evs_call1 (Inp.nam vs) (eva_c evs_val (eva_c (evs_var rfl) eva_nil)) ha) fun _ => evs_eqT (d := .int (vs.length : Nat)) ?_ ?_ rfl rfl) rfl)) fun _ q => q.elim
    · refine (evs_lenSet (ns := vs.map fun n : Nat => (n : Int)) (evs_var (show _ = some (some (Sv.dat (.tuple ((vs.map fun n : Nat => (n : Int)).map PyData.int)))) by rw [← e1]; rfl)) ?_ (by rw [List.length_map]; omega)).imp fun s e => ?_
      · exact nodup_int ha.2.2
      · rw [e, List.length_map]
    · exact evs_len (evs_var rfl) (by show some (vs.map natD).length = _; rw [List.length_map]) (by omega)
  | near r vs =>
    refine q_no (hm _ rfl) ?_
    refine q_no (evt_test (evs_eqF (d := .str "near") (e := .str "levels") (evs_var rfl) evs_str rfl rfl rfl (str_ne (by decide +kernel)))) ?_
    refine q_no (evt_test (evs_eqF (d := .str "near") (e := .str "names") (evs_var rfl) evs_str rfl rfl rfl (str_ne (by decide +kernel)))) ?_
    refine q_no (evt_test (evs_eqF (d := .str "near") (e := .str "chain") (evs_var rfl) evs_str rfl rfl rfl (str_ne (by decide +kernel)))) ?_
    obtain ⟨⟨h1, h2⟩, h3⟩ := ha.2
    refine sx_ret (evs_andV (evs_call1 (.int (r : Nat), .tuple (vs.map PyData.int)) (eva_c (evs_var rfl) eva_nil) trivial) fun _ => evs_andV (evs_call1 ((r : Int), 1, 6) (eva_c (evs_ixT (evs_var rfl) evs_int rfl) (eva_c evs_int (eva_c evs_int eva_nil))) trivial) fun _ =>
      evs_call1 (Inp.near r vs) (eva_c evs_val (eva_c (evs_ixT (evs_var rfl) evs_int rfl) eva_nil)) ha) ?_
    show Sv.dat (.bool (true && ((decide ((1 : Int) ≤ (r : Int)) && decide ((r : Int) ≤ 6)) && true))) = _
    rw [decide_eq_true (show (1 : Int) ≤ (r : Int) by omega), decide_eq_true (show (r : Int) ≤ 6 by omega)]
    rfl
  | cha ls =>
    refine q_no (hm _ rfl) ?_
    refine q_no (evt_test (evs_eqF (d := .str "chain") (e := .str "levels") (evs_var rfl) evs_str rfl rfl rfl (str_ne (by decide +kernel)))) ?_
    refine q_no (evt_test (evs_eqF (d := .str "chain") (e := .str "names") (evs_var rfl) evs_str rfl rfl rfl (str_ne (by decide +kernel)))) ?_
    exact sx_seq (G := fun _ => False) (sx_yes (evt_test (evs_eqT (d := .str "chain") (evs_var rfl) evs_str rfl rfl)) (sx_ret (evs_call1 (Inp.cha ls) (eva_c evs_val (eva_c (evs_var rfl) eva_nil)) ha) rfl)) fun _ q => q.elim
end
end K32
/-! Walks: the class Play, hands. -/
namespace K32
open PySem PySem.Spec PyProof.Rows L2
local macro_rules | `(tactic| walk_at "ev") => `(tactic| first
  | exact evs_var rfl | exact evs_own rfl | exact evs_int | exact evs_str | exact evs_bl | exact evs_non
  | exact eva_nil | (apply eva_c <;> walk_at "ev")
  | exact evs_isi (evs_var rfl) rfl kit_int_int | exact evs_isi (evs_var rfl) rfl kit_int_bool | exact evs_isi (evs_var rfl) rfl kit_tuple_tuple | exact evs_isi (evs_var rfl) rfl kit_str_str
  | exact evs_ixT (evs_var rfl) evs_int rfl
  | (apply evs_I0 <;> walk_at "ev") | (apply evs_B0 <;> walk_at "ev")
  | (apply evs_andV <;> walk_at "ev") | (apply evs_orV <;> walk_at "ev") | (apply evs_notV; walk_at "ev")
  | (apply evs_chain <;> walk_at "ev")
  | (apply evs_neg; walk_at "ev")
  | (apply evt_test; walk_at "ev") | (apply evt_B; walk_at "ev") | (apply evt_not; walk_at "ev")
  | (apply evt_and1 <;> walk_at "ev") | (apply evt_or1 <;> walk_at "ev")
  | (intro _; walk_at "ev"))
local macro_rules | `(tactic| walk_at "ret") => `(tactic| (apply sx_ret; walk_at "ev"))
section
variable {B : Bx} {H H' H1 : Hp} {σ : L2.St} {δ : Dn} {tt : TT} {t u : TS}
/-- an if that is not taken, raw -/
theorem raw_no {D : Ends} (h : EvT B tt δ (· = false)) (st : StB B H σ δ) (k : ∀ H1, Rel B.hd H H1 → StB B H1 σ δ → t D σ H1) : tSeq (tIfS tt u tNext) t D σ H := h σ H st _ fun b H1 r1 hh1 e => by
  subst e
  exact iteF (k H1 r1 (st.mono r1 hh1))
theorem sqT_ins {K : PySem.W.Frag} {p C dx : Addr} {gs : List (Str × V)} {o : HO} (hp : H p = some (.ins C dx gs)) {a : Addr} {xs : List V} (s : SqT K H a xs) : SqT K (upd H p o) a xs := by
  rcases s with (s | ⟨ob, s⟩) | s
  · exact .inl (.inl (by rw [upd_ne (ne_of s hp (by intro z; cases z))]; exact s))
  · exact .inl (.inr ⟨ob, by rw [upd_ne (ne_of s hp (by intro z; cases z))]; exact s⟩)
  · exact .inr s
theorem evs_isC {te : TE} {C : Addr} {fs : List (Str × PyData)} (ha : EvS B te δ (· = .ins C fs)) : EvS B (tCB (fun xs H Q => ∃ a dx fs, xs = [.ref a, .ref C] ∧ H a = some (.ins C dx fs) ∧ Q (.bl true) H) (tCons te (tCons (tC (.ref C)) tNil))) δ (Is (.bool true)) := evs_cb (eva_c ha (eva_c evs_val eva_nil)) fun H vs hh ps Q k => by
  obtain ⟨v, w, rfl, o, o2⟩ := paired2 ps
  cases o2
  obtain ⟨a, dx, gs, rfl, q, t⟩ := o
  exact ⟨a, dx, gs, rfl, q, k.dat .refl hh (DT.bl _) rfl⟩
end
section
variable {P : Program} {w : World} {K : PySem.W.Frag} {mg : Str → Option Value} {base : Heap}
/-- an instance is made of data -/
def spMk (K : PySem.W.Frag) (C : Addr) {α : Type} (arg : α → List Sv) (pre : α → Prop) (fs : α → List (Str × PyData)) : Sp := fun vs H Q _ => ∃ (a : α) (p dx : Addr) (ws : List V), vs = .ref p :: ws ∧ Paired (SvOk K none H) ws (arg a) ∧ pre a ∧ H p = some (.ins C dx []) ∧
  ∀ G gs, (∀ b o, b ≠ p → H b = some o → G b = some o) → G p = some (.ins C dx gs) → FsOk K G gs (fs a) → Q .non G
theorem evs_make {B : Bx} {δ : Dn} {C : Addr} {α : Type} {arg : α → List Sv} {pre : α → Prop} {fs : α → List (Str × PyData)} {E : XK} {t : TA} (a : α) (h : EvA B t δ (· = arg a)) (p : pre a) : EvS B (tMake C (spMk B.K C arg pre fs) [] E t) δ (· = .ins C (fs a)) := fun σ H st Q k => h σ H st _ fun vs H1 ss r1 h1 o1 e => by
  subst e
  intro x dx hx hd ne
  have s1 : Same H1 (upd (upd H1 dx (.own x)) x (.ins C dx [])) := fun b o e => by rw [upd_ne (ne_of_none e hx), upd_ne (ne_of_none e hd)]; exact e
  refine ⟨a, x, dx, vs, by rw [List.append_nil], paired_imp o1 fun v s o => o.bare.mono .of_none (.same s1), p, upd_same, fun G gs m hG f => ?_⟩
  have s2 : Same H1 G := fun b o e => m b o (ne_of_none e hx) (s1 b o e)
  exact ⟨rfl, k (.ref x) G (.ins C (fs a)) (r1.trans (.same s2)) (h1.same s2) ⟨x, dx, gs, rfl, hG, f⟩ rfl⟩
abbrev playA (i : Inp) : List Sv := [.dat (.str i.kind), .dat i.inputs]
theorem ki_ : ¬ (("kind" : Str) = "inputs") := by decide +kernel
theorem kr_ : ¬ (("kind" : Str) = "rows") := by decide +kernel
theorem ir_ : ¬ (("inputs" : Str) = "rows") := by decide +kernel
theorem play_fs (x y z : V) : putF "rows" z (putF "inputs" y (putF "kind" x [])) = ([("kind", x), ("inputs", y), ("rows", z)] : List (Str × V)) := by
  show putF "rows" z (if ("kind" : Str) = "inputs" then _ else (("kind" : Str), x) :: [(("inputs" : Str), y)]) = _
  rw [if_neg ki_]
  show (if ("kind" : Str) = "rows" then _ else (("kind" : Str), x) :: (if ("inputs" : Str) = "rows" then _ else (("inputs" : Str), y) :: [(("rows" : Str), z)])) = _
  rw [if_neg kr_, if_neg ir_]
abbrev N_Play_initx : List Str := ["self", "kind", "inputs"]
theorem sc_Play_initx : FnScope N_Play_initx ["self", "kind", "inputs"] (defScope (inClass (top 40) 0)) := ⟨rfl, rfl, rfl, by decide +kernel, rfl, by decide +kernel, by decide +kernel⟩
theorem k_Play (T : TX K mg) : C8.Mak P w K mg base 8 "Play" (He.ga K "Play") (spMk K (He.ga K "Play") playA Inp.ok playD) [] := by
  obtain ⟨fd, F⟩ := T.d_Play_initx
  refine ⟨_, fd, ["self", "kind", "inputs"], [], T.mk_Play, F.ok sc_Play_initx (fun vs H Q E h => ?_) (fun cdv A outer s H vs Q E hr h => ?_), T.g_Play, (fun F => F.bindsN (ps := ["self", "kind", "inputs"]) fun _ _ _ _ _ _ us hl => match us, hl with | [_, _, _], _ => rfl) F, .nil⟩
  · obtain ⟨i, p, dx, ws, rfl, o, _⟩ := h
    obtain ⟨v, u, rfl, _⟩ := paired2 o
    rfl
  obtain ⟨a, p, dx, ws, rfl, o2, ok, hp, k⟩ := h
  obtain ⟨v0, v, rfl, o0, o⟩ := paired2 o2
  have o0' : v0 = .str a.kind := o0.str_inv
  subst o0'
  refine ⟨_, PSs.nox (pss_cons (ps_if (PW.pt (pw_or (pt_not (pt_val (pe_callB b_isi (by rfl) T.n_isinstance bt_isinstance (pa_cons (pv 1) (pa_cons (pe_bltn (v := .ty "str") (by rfl) T.n_str bt_str rfl) pa_nil))))) (pw_or1 (pt_cmpR op_notIn_seq (pv 1) (pe_op op_catA (C8.pe_gc rfl T.c_MANNERS) (pe_tup (pa_cons (C8.pe_gc rfl T.c_LEVELS) (pa_cons (C8.pe_gc rfl T.c_NAMES) (pa_cons (C8.pe_gc rfl T.c_NEAR) (pa_cons (C8.pe_gc rfl T.c_CHAIN) pa_nil)))))) (by rfl))))) (pss_one ps_never) pss_nil) (pss_cons (ps_if (pt_not (pt_val (C8.pe_c (c_are_inputs T) hr (by decide) rfl (pa_cons (pv 1) (pa_cons (pv 2) pa_nil))))) (pss_one ps_never) pss_nil) (pss_cons (ps_fld (pv 0) (pv 1) rfl) (pss_cons (ps_fld (pv 0) (pv 2) rfl) (pss_one (ps_fld (pv 0) (pe_ifExp (pt_cmpR op_eq (pv 1) (C8.pe_gc rfl T.c_NEAR) (nomark _)) (pe_ix ix_tup (pv 2) pe_int (fun _ _ => rfl)) (pv 2)) rfl)))))), ?_⟩
  have st : StB ⟨K, none, H, []⟩ H (start N_Play_initx [.ref p, .str a.kind, v]) (slots N_Play_initx [.val (.ref p), .dat (.str a.kind), .dat a.inputs]) := stb_start .of_none (.cons rfl (.cons (DT.str _) (.cons o .nil))) (by intro s hs ds z; subst z; simp at hs)
  refine raw_no ?_ st fun H1 r1 st1 => raw_no ?_ st1 fun H2 r2 st2 => ?_
  · refine EvT.imp (P := (· = (!true || !true))) (evt_or1 (evt_not (evt_B (evs_isi (evs_var rfl) rfl kit_str_str))) fun _ => EvT.imp (P := (· = !inD (.str a.kind) (manD ++ [.str "levels", .str "names", .str "near", .str "chain"]))) (evt_test (evs_in (neg := true) (evs_var rfl) (evs_catA (evs_mann T) (evs_tup (ds := [.str "levels", .str "names", .str "near", .str "chain"]) (by walk_at "ev")) (by decide)) rfl rfl (by decide))) fun b e => ?_) fun b e => e
    rw [e, kind_all]
  · exact EvT.imp (evt_not (evt_B (evs_call1 a (by walk_at "ev") ok))) fun b e => by rw [e]; rfl
  · have h2 : H2 p = some (.ins (He.ga K "Play") dx []) := st2.rel.none_same _ _ hp
    have o2 : DT K H2 v a.inputs := DT.mono (fun _ _ => sqT_rel .of_none st2.rel) _ _ o
    refine ⟨_, rfl, _, rfl, p, He.ga K "Play", dx, [], rfl, h2, T.cls_Play, T.no_Play_kind, (by decide), ?_⟩
    refine ⟨_, rfl, _, rfl, p, He.ga K "Play", dx, _, rfl, upd_same, T.cls_Play, T.no_Play_inputs, (by show 1 < 1000; decide), ?_⟩
    rw [upd_upd]
    have o3 : DT K (upd H2 p (.ins (He.ga K "Play") dx (putF "inputs" v (putF "kind" (.str a.kind) [])))) v a.inputs := DT.mono (fun _ _ => sqT_ins h2) _ _ o2
    have h3 : upd H2 p (.ins (He.ga K "Play") dx (putF "inputs" v (putF "kind" (.str a.kind) []))) p = some (.ins (He.ga K "Play") dx (putF "inputs" v (putF "kind" (.str a.kind) []))) := upd_same
    generalize hG : upd H2 p (.ins (He.ga K "Play") dx (putF "inputs" v (putF "kind" (.str a.kind) []))) = G at o3 h3 ⊢
    have st3 : StB ⟨K, none, G, []⟩ G (start N_Play_initx [.ref p, .str a.kind, v]) (slots N_Play_initx [.val (.ref p), .dat (.str a.kind), .dat a.inputs]) := stb_start .of_none (.cons rfl (.cons (DT.str _) (.cons o3 .nil))) (by intro s hs ds z; subst z; simp at hs)
    have ev : EvS ⟨K, none, G, []⟩ (tIf (tTest (tOp rEq (tVar 1) (tC (.str "near")))) (tOp (rIxT K) (tVar 2) (tC (.int 1))) (tVar 2)) (slots N_Play_initx [.val (.ref p), .dat (.str a.kind), .dat a.inputs]) (Is (.tuple a.rows)) := by
      cases a with
      | near r vs => exact evs_ifT (evt_test (evs_eqT (d := .str "near") (evs_var rfl) evs_str rfl rfl)) (evs_ixT (B := ⟨K, none, G, []⟩) (evs_var rfl) evs_int rfl)
      | man m ss => exact evs_ifF (evt_test (evs_eqF (d := .str m.s) (e := .str "near") (evs_var rfl) evs_str rfl rfl rfl (str_ne (by cases m <;> decide +kernel)))) (evs_var rfl)
      | lev vs => exact evs_ifF (evt_test (evs_eqF (d := .str "levels") (e := .str "near") (evs_var rfl) evs_str rfl rfl rfl (str_ne (by decide +kernel)))) (evs_var rfl)
      | nam vs => exact evs_ifF (evt_test (evs_eqF (d := .str "names") (e := .str "near") (evs_var rfl) evs_str rfl rfl rfl (str_ne (by decide +kernel)))) (evs_var rfl)
      | cha vs => exact evs_ifF (evt_test (evs_eqF (d := .str "chain") (e := .str "near") (evs_var rfl) evs_str rfl rfl rfl (str_ne (by decide +kernel)))) (evs_var rfl)
    refine ev _ G st3 _ fun z G1 s r hh oz ez => ?_
    subst ez
    have g1 := r.none_same _ _ h3
    refine ⟨_, rfl, p, He.ga K "Play", dx, _, rfl, g1, T.cls_Play, T.no_Play_rows, (by show (putF "inputs" v (putF "kind" (.str a.kind) [])).length < 1000; exact Nat.lt_of_le_of_lt (Nat.le_trans (length_putF _ _ _) (Nat.add_le_add_right (length_putF _ _ _) 1)) (by decide)), ?_⟩
    refine k _ _ (fun b ob hb e => ?_) upd_same ?_
    · rw [upd_ne hb]
      refine r.none_same _ _ ?_
      rw [← hG, upd_ne hb]
      exact st2.rel.none_same _ _ e
    · rw [play_fs]
      have m4 : ∀ c xs, SqT K G c xs → SqT K (upd G1 p (.ins (He.ga K "Play") dx [("kind", .str a.kind), ("inputs", v), ("rows", z)])) c xs := fun c xs q => sqT_ins g1 (sqT_rel .of_none r q)
      exact .cons ⟨rfl, DT.str _⟩ (.cons ⟨rfl, DT.mono m4 _ _ o3⟩ (.cons ⟨rfl, DT.mono (fun _ _ => sqT_ins g1) _ _ oz⟩ .nil))
/-- two instances of like data -/
def likeI (K : PySem.W.Frag) (C : Addr) (F : List (Str × PyData) → Prop) (a b : Addr) (H : Hp) : Prop := ∃ fs dx dy gs es, F fs ∧ H a = some (.ins C dx gs) ∧ H b = some (.ins C dy es) ∧ FsOk K H gs fs ∧ FsOk K H es fs
theorem likeI.mono {C : Addr} {F : List (Str × PyData) → Prop} (a b : Addr) (H H' : Hp) (e : Ext H H') (h : likeI K C F a b H) : likeI K C F a b H' := by
  obtain ⟨fs, dx, dy, gs, es, f, h1, h2, h3, h4⟩ := h
  have m : ∀ c xs, SqT K H c xs → SqT K H' c xs := fun c xs q => SqT.ext q e
  exact ⟨fs, dx, dy, gs, es, f, e _ _ h1, e _ _ h2, h3.mono m, h4.mono m⟩
def isPlay (fs : List (Str × PyData)) : Prop := ∃ i : Inp, i.ok ∧ fs = playD i
theorem lay_row {i : Inp} (h : i.ok) : ∀ d ∈ i.rows, Lay 2 d := fun d hd => by
  have q := Inp.ok_rows h d hd
  cases i with
  | man k ss =>
    obtain ⟨l, rfl, _⟩ := q
    refine .tup fun e he => ?_
    obtain ⟨x, _, rfl⟩ := List.mem_map.mp he
    exact lay_deed x
  | lev vs => obtain ⟨n, rfl, _⟩ := q; exact .int
  | nam vs => obtain ⟨n, rfl, _⟩ := q; exact .int
  | near r vs => obtain ⟨n, rfl, _⟩ := q; exact .int
  | cha ls =>
    obtain ⟨l, rfl, _⟩ := q
    refine .tup fun e he => ?_
    obtain ⟨x, _, rfl⟩ := List.mem_map.mp he
    exact .int
theorem lay_inputs {i : Inp} (h : i.ok) : Lay 4 i.inputs := by
  have r := lay_row h
  have m : ∀ {d : PyData}, Lay 3 d → Lay 4 d := fun h => ⟨h.1, Nat.le_succ_of_le h.2⟩
  cases i with
  | near k vs => exact .tup (.cons .int (.cons (.tup r) fun _ => .nil))
  | man k ss => exact m (.tup r)
  | lev vs => exact m (.tup r)
  | nam vs => exact m (.tup r)
  | cha ls => exact m (.tup r)
theorem ok_kind (i : Inp) : PyData.strOk i.kind = true := by
  cases i with
  | man k ss => show PyData.strOk k.s = true; cases k <;> decide +kernel
  | lev vs => show PyData.strOk "levels" = true; decide +kernel
  | nam vs => show PyData.strOk "names" = true; decide +kernel
  | near r vs => show PyData.strOk "near" = true; decide +kernel
  | cha vs => show PyData.strOk "chain" = true; decide +kernel
theorem seq_ik : (("inputs" : Str) == "kind") = false := by decide +kernel
theorem seq_rk : (("rows" : Str) == "kind") = false := by decide +kernel
theorem seq_ri : (("rows" : Str) == "inputs") = false := by decide +kernel
theorem seq_self (x : Str) : (x == x) = true := beq_self_eq_true x
theorem look_kind (i : Inp) : (playD i).lookup ("kind" : Str) = some (.str i.kind) := by rw [playD, List.lookup_cons, seq_self]
theorem look_inputs (i : Inp) : (playD i).lookup ("inputs" : Str) = some i.inputs := by rw [playD, List.lookup_cons, seq_ik, List.lookup_cons, seq_self]
theorem look_rows (i : Inp) : (playD i).lookup ("rows" : Str) = some (.tuple i.rows) := by rw [playD, List.lookup_cons, seq_rk, List.lookup_cons, seq_ri, List.lookup_cons, seq_self]
abbrev N_Play_eqx : List Str := ["self", "other"]
theorem sc_Play_eqx : FnScope N_Play_eqx ["self", "other"] (defScope (inClass (top 40) 1)) := ⟨rfl, rfl, rfl, by decide +kernel, rfl, by decide +kernel, by decide +kernel⟩
theorem q_Play (T : TX K mg) : ∃ fd : FuncData, FnOk P w K mg base CX0 3 (He.ma K (He.ga K "Play") "__eq__") fd ["self", "other"] (spEq (likeI K (He.ga K "Play") isPlay)) ∧ Binds K fd ["self", "other"] [] := by
  obtain ⟨fd, F⟩ := T.d_Play_eqx
  refine ⟨fd, F.ok sc_Play_eqx (fun vs H Q E h => ?_) (fun cdv A outer s H vs Q E hr h => ?_), (fun F => F.bindsN (ps := ["self", "other"]) fun _ _ _ _ _ _ us hl => match us, hl with | [_, _], _ => rfl) F⟩
  · obtain ⟨a, b, rfl, _⟩ := h
    rfl
  obtain ⟨x, y, rfl, ⟨fs, dx, dy, gs, es, ⟨a, ok, rfl⟩, h1, h2, h3, h4⟩, k⟩ := h
  refine ⟨_, PSs.nox (pss_one (ps_ret (pe_and (pe_callB (C8.call_isC T.ins_Play) (by rfl) T.n_isinstance bt_isinstance (pa_cons (pv 1) (pa_cons (pe_glob (v := .ref (He.ga K "Play")) rfl T.g_Play rfl) pa_nil))) (pe_one (pe_cmpR (op_eqDk (K := K) rfl hr.units) (pe_tup (pa_cons (pe_fld (pv 0) rfl) (pa_cons (pe_fld (pv 0) rfl) pa_nil))) (pe_tup (pa_cons (pe_fld (pv 1) rfl) (pa_cons (pe_fld (pv 1) rfl) pa_nil))) (nomark _)))))), ?_⟩
  have st : StB ⟨K, none, H, []⟩ H (start N_Play_eqx [.ref x, .ref y]) (slots N_Play_eqx [.ins (He.ga K "Play") (playD a), .ins (He.ga K "Play") (playD a)]) := stb_start .of_none (.cons ⟨x, dx, gs, rfl, h1, h3⟩ (.cons ⟨y, dy, es, rfl, h2, h4⟩ .nil)) (by intro s hs ds z; subst z; simp at hs)
  have fk : ∀ i, (i = 0 ∨ i = 1) → EvS ⟨K, none, H, []⟩ (tTup (tCons (tFld K (tVar i) "kind") (tCons (tFld K (tVar i) "inputs") tNil))) (slots N_Play_eqx [.ins (He.ga K "Play") (playD a), .ins (He.ga K "Play") (playD a)]) (Is (.tuple [.str a.kind, a.inputs])) := fun i hi => by
    have v : (slots N_Play_eqx [.ins (He.ga K "Play") (playD a), .ins (He.ga K "Play") (playD a)])[i]? = some (some (.ins (He.ga K "Play") (playD a))) := by rcases hi with rfl | rfl <;> rfl
    exact evs_tup (ds := [.str a.kind, a.inputs]) (eva_c (evs_fld (B := ⟨K, none, H, []⟩) (evs_var v) T.cls_Play T.no_Play_kind (look_kind a)) (eva_c (evs_fld (B := ⟨K, none, H, []⟩) (evs_var v) T.cls_Play T.no_Play_inputs (look_inputs a)) eva_nil))
  have ly : Lay 5 (.tuple [.str a.kind, a.inputs]) := .tup (.cons (.str (ok_kind a)) (.cons (lay_inputs ok) fun _ => .nil))
  have ev := evs_andV (evs_isC (B := ⟨K, none, H, []⟩) (evs_var (i := 1) rfl)) fun _ => evs_eqD (B := ⟨K, none, H, []⟩) (fk 0 (.inl rfl)) (fk 1 (.inr rfl)) rfl rfl ly.shaped ly.shaped
  refine ev _ H st _ fun v G s r hh o e => ?_
  subst e
  rw [ly.self] at o
  cases o
  exact k G r.none_same
end
end K32
/-! Own rule: sorted of tuples that begin with so many ints each, told apart by these. -/
namespace K32
open PySem PySem.Spec PyProof.Rows L2
section
variable {prog : Program} {w : World} {A : Around} {E : Value → Shared → Prop} {s : Shared}
def IsTI (h : Heap) (v : Value) (ks : List Int) (rs : List Value) : Prop := ∃ a o n xs is, v = .ref a ∧ h.get? a = some o ∧ o.cls = .type "tuple" ∧ o.data = .seq xs n ∧ xs.toList = is ++ rs ∧ IntsAre is ks
theorem IsTI.keeps {h h' : Heap} {v : Value} {ks : List Int} {rs : List Value} (p : IsTI h v ks rs) (k : ∀ b o, h.get? b = some o → o.cls = .type "tuple" → h'.get? b = some o) : IsTI h' v ks rs := by
  obtain ⟨a, o, n, xs, is, e, ho, hc, r⟩ := p
  exact ⟨a, o, n, xs, is, e, k _ _ ho hc, hc, r⟩
theorem one_int {b : Bool} {x y : Int} {t u : Tok} {Q : Bool → Shared → Prop} (h : Q (decide (x < y)) s) : wpAny (model prog w) A (oneLt' b (.int x t) (.int y u)) Q E s := by
  cases b with
  | true => exact PyProof.Rows.oneLt_int h
  | false => exact PySem.W.kat_one _ _ (PyProof.Rows.lt_int h)
/-- all pairs equal -/
theorem kat_all {b fin : Bool} {Q : Bool → Shared → Prop} (h : Q fin s) : ∀ (l : List (Value × Value)) (i : Nat), (∀ p ∈ l, SeqAt.EqAt A s p.1 p.2 true) → PySem.W.KatLex prog w A b fin Q l i s
  | [], _, _ => PySem.W.kat_nil h
  | p :: l, i, hp => PySem.W.kat_cons (hp p List.mem_cons_self prog w _ _ (PySem.W.kat_yes (kat_all h l (i + 1) fun q hq => hp q (List.mem_cons_of_mem _ hq))))
theorem ints_same : ∀ (ks : List Int) {is js : List Value}, IntsAre is ks → IntsAre js ks → ∀ p ∈ is.zip js, SeqAt.EqAt A s p.1 p.2 true
  | [], _, _, hi, hj, p, hp => by cases hi; simp at hp
  | n :: ks, _, _, hi, hj, p, hp => by
    cases hi with
    | cons n t hi =>
      cases hj with
      | cons n u hj =>
        rw [List.zip_cons_cons] at hp
        rcases List.mem_cons.mp hp with rfl | hp
        · have e := SeqAt.EqAt.int_int (A := A) (s := s) n t n u
          rw [show (n == n) = true from beq_self_eq_true n] at e
          exact e
        · exact ints_same ks hi hj p hp
theorem zip_same : ∀ {l : List Value}, ∀ p ∈ l.zip l, SeqAt.EqAt A s p.1 p.2 true := fun {l} p hp => by
  have e : p.1 = p.2 := by
    obtain ⟨i, hi, rfl⟩ := List.getElem_of_mem hp
    rw [List.getElem_zip]
  rw [e]
  exact SeqAt.EqAt.same _
/-- told apart by the ints -/
theorem kat_ints {b fin : Bool} {r : List (Value × Value)} : ∀ {is js : List Value} {ks ms : List Int} (i : Nat), IntsAre is ks → IntsAre js ms → ks.length = ms.length → ks ≠ ms → PySem.W.KatLex prog w A b fin (fun c s' => s' = s ∧ c = HT.lexLt ks ms) (is.zip js ++ r) i s
  | _, _, _, _, i, .nil, .nil, _, n => absurd rfl n
  | _, _, _, _, i, .cons x t hi, .cons y u hj, hl, n => by
    rw [List.zip_cons_cons, List.cons_append]
    refine PySem.W.kat_cons (SeqAt.EqAt.int_int x t y u prog w _ _ ?_)
    refine PySem.W.kat_go (fun e1 => ?_) (fun e1 => ?_)
    · have ex : x = y := by simpa using e1
      subst ex
      refine PySem.W.kat_yes ?_
      have := kat_ints (b := b) (fin := fin) (r := r) (i + 1) hi hj (by simpa using hl) (fun z => n (by rw [z]))
      rw [HT.lexLt_cons, if_pos rfl]
      exact this
    · have ex : ¬ x = y := by simpa using e1
      refine PySem.W.kat_no (one_int ⟨rfl, ?_⟩)
      rw [HT.lexLt_cons, if_neg ex]
theorem ti_cmp {vs : List Value} {k : Value → List Int} {f : Value → List Value} {d : Nat} (hp : ∀ v ∈ vs, IsTI s.heap v (k v) (f v) ∧ (k v).length = d) (hd : ∀ v ∈ vs, ∀ u ∈ vs, k v = k u → v = u ∨ (f v = [] ∧ f u = [])) :
    SrtO.Cmp prog w A s (tuples' true) (fun p => p.1 ∈ vs) (SrtO.lt2 fun v u => HT.lexLt (k v) (k u)) := by
  intro p q hm hm'
  have h1 := hp _ hm
  have h2 := hp _ hm'
  have h3 := hd _ hm _ hm'
  show wpAny (model prog w) A (keyLt' (tuples' true) p.1 q.1) (fun r s' => s' = s ∧ r = HT.lexLt (k p.1) (k q.1)) (fun _ _ => False) s
  generalize p.1 = v at h1 h3 ⊢
  generalize q.1 = u at h2 h3 ⊢
  obtain ⟨⟨a, o, n, xs, is, e, ho, hc, hdt, hx, hi⟩, l1⟩ := h1
  obtain ⟨⟨a', o', n', xs', is', e', ho', hc', hdt', hx', hi'⟩, l2⟩ := h2
  rw [e, e']
  refine PySem.W.kat_lt ho hdt ho' hdt' ?_
  rw [← e, ← e']
  have hl : is.length = is'.length := by rw [hi.length, hi'.length, l1, l2]
  have hz : xs.toList.zip xs'.toList = is.zip is' ++ (f v).zip (f u) := by rw [hx, hx', List.zip_append hl]
  by_cases ek : k v = k u
  · have no : HT.lexLt (k v) (k u) = false := by
      have sw := (NtL.swo_lexL (α := Value) k).refl
      have := sw v
      rw [ek] at this ⊢
      exact this
    rcases h3 ek with evu | ⟨f1, f2⟩
    · subst evu
      rw [e] at e'
      cases e'
      rw [ho] at ho'
      cases ho'
      rw [hdt] at hdt'
      cases hdt'
      refine kat_all ⟨rfl, ?_⟩ _ 0 fun p hp => zip_same p hp
      rw [no]
      exact decide_eq_false (Nat.lt_irrefl _)
    · rw [hz, f1, f2, List.zip_nil_left, List.append_nil]
      refine kat_all ⟨rfl, ?_⟩ _ 0 fun p hp => ints_same _ hi (by rw [ek]; exact hi') p hp
      rw [no]
      have s1 : xs.size = is.length := by rw [← Array.length_toList, hx, f1, List.append_nil]
      have s2 : xs'.size = is'.length := by rw [← Array.length_toList, hx', f2, List.append_nil]
      exact decide_eq_false (by rw [s1, s2, hl]; exact Nat.lt_irrefl _)
  · rw [hz]
    exact kat_ints 0 hi hi' (by rw [l1, l2]) ek
theorem ti_firsts {h : Heap} {k : Value → List Int} {f : Value → List Value} {d : Nat} (h0 : 0 < d) : ∀ {vs : List Value}, (∀ v ∈ vs, IsTI h v (k v) (f v) ∧ (k v).length = d) → ∃ fs : List Value, PySem.W.KatTups h vs fs ∧ fs.length = vs.length ∧ ∀ f ∈ fs, ∃ x t, f = Value.int x t
  | [], _ => ⟨[], PySem.W.KatTups.nil, rfl, fun _ hm => by simp at hm⟩
  | v :: vs, hp => by
    obtain ⟨fs, h1, h2, h3⟩ := ti_firsts h0 (vs := vs) fun v' hm => hp v' (List.mem_cons_of_mem _ hm)
    obtain ⟨⟨a, o, n, xs, is, e, ho, hc, hd, hx, hi⟩, hl⟩ := hp v List.mem_cons_self
    obtain ⟨x, t, is2, rfl⟩ : ∃ x t is2, is = Value.int x t :: is2 := by
      generalize k v = ks at hi hl
      cases hi with
      | nil => simp at hl; omega
      | cons x t hi => exact ⟨x, t, _, rfl⟩
    subst e
    have hf : xs[0]? = some (Value.int x t) := by rw [← Array.getElem?_toList, hx]; rfl
    refine ⟨.int x t :: fs, PySem.W.KatTups.cons ho hc hd hf h1, by rw [List.length_cons, List.length_cons, h2], fun f hm => ?_⟩
    rcases List.mem_cons.mp hm with rfl | hm
    · exact ⟨x, t, rfl⟩
    · exact h3 f hm
theorem ti_sortable {a : Addr} {vs : List Value} {k : Value → List Int} {f : Value → List Value} {d : Nat} (h0 : 0 < d) (hn : 0 < vs.length) (hp : ∀ v ∈ vs, IsTI s.heap v (k v) (f v) ∧ (k v).length = d) (hd : ∀ v ∈ vs, ∀ u ∈ vs, k v = k u → v = u ∨ (f v = [] ∧ f u = []))
    (ha : ∀ o, s.heap.get? a = some o → o.cls ≠ .type "tuple") : SrtO.SortableO prog w A s a vs fun v u => HT.lexLt (k v) (k u) := by
  intro h' keep
  have hp' : ∀ v ∈ vs, IsTI h' v (k v) (f v) ∧ (k v).length = d := fun v hm => ⟨(hp v hm).1.keeps fun b o e c => keep b o (fun z => by subst z; exact ha o e c) e, (hp v hm).2⟩
  obtain ⟨fs, h1, h2, h3⟩ := ti_firsts h0 hp'
  refine ⟨tuples' true, fun Q E hq => ?_, ti_cmp (s := { s with heap := h' }) hp' hd⟩
  refine PySem.W.kat_kind (T := .type "int") h1 (by omega) (fun f hm => ?_) (by rfl) ?_
  · obtain ⟨x, t, rfl⟩ := h3 f hm
    exact PySem.W.Looks.now
  · have e : (Value.type "int" != Value.type "tuple") = true := by first | decide +kernel | rfl | decide
    rw [e]
    exact hq
theorem sorted_ti {l : Addr} {vs : List Value} {k : Value → List Int} {f : Value → List Value} {d : Nat} {Q : Value → Shared → Prop} (hl : s.heap.IsList l vs.toArray) (hz : vs.length ≤ sizeLine) (h0 : 0 < d) (hp : ∀ v ∈ vs, IsTI s.heap v (k v) (f v) ∧ (k v).length = d)
    (hd : ∀ v ∈ vs, ∀ u ∈ vs, k v = k u → v = u ∨ (f v = [] ∧ f u = []))
    (h : ∀ (h' : Heap) (d : Addr) (out : List Value), SrtO.Srtd (fun v u => HT.lexLt (k v) (k u)) out → out.Perm vs → (∀ b o, s.heap.get? b = some o → h'.get? b = some o) → s.heap.objs.size ≤ d → (∃ n, h'.get? d = some (seqObj "list" out.toArray n)) → Q (.ref d) { s with heap := h' }) :
    wpAny (model prog w) A (call (.builtin "sorted") [.ref l]) Q E s := by
  refine SrtO.sorted_ord (NtL.swo_lexL k) hl hz (fun h2 h₁ a ha kk => ?_) fun out hs hb => ?_
  · refine ti_sortable (s := { s with heap := h₁ }) h0 (by omega) (fun v hm => ⟨(hp v hm).1.keeps fun b o e _ => (kk b o e).2, (hp v hm).2⟩) hd fun o e => ?_
    have e' : some o = some (seqObj "list" vs.toArray 0) := e.symm.trans ha
    cases e'
    intro c
    exact absurd (Value.type.inj c) (by decide)
  · exact h _ _ out hs hb.perm (fun b o e => sortedAll_old e) (Nat.le_succ _) (sortedAll_at s.heap vs out.toArray)
end
/-- sorted(xs), xs a list of tuples that begin with d ints each; two tuples of like ints are one object, or hold nothing else -/
def rSortedK (K : PySem.W.Frag) : List V → Hp → VK → Prop := fun vs H Q => ∃ (a : Addr) (xs : List V), vs = [V.ref a] ∧ SqL K H a xs ∧ ((∀ t as bs, SqT K H t as → SqT K H t bs → as = bs) → ∃ (k : V → List Int) (f : V → List V) (d : Nat), 0 < d ∧ (∀ x ∈ xs, ∃ t, x = V.ref t ∧ SqT K H t ((k x).map V.int ++ f x) ∧ (k x).length = d) ∧
  (∀ x ∈ xs, ∀ y ∈ xs, k x = k y → x = y ∨ (f x = [] ∧ f y = [])) ∧
  ∀ ys p, ys.Pairwise (fun x y => HT.lexLt (k y) (k x) = false) → ys.Perm xs → H p = none → Q (.ref p) (upd H p (.lst ys)))
theorem vals_split : ∀ {xs ys : List V} {us : List Value}, Vals (xs ++ ys) us → ∃ u1 u2, us = u1 ++ u2 ∧ Vals xs u1 ∧ Vals ys u2
  | [], ys, us, h => ⟨[], us, rfl, .nil, h⟩
  | x :: xs, ys, _, .cons r t => by
    obtain ⟨u1, u2, e, a, b⟩ := vals_split (xs := xs) t
    exact ⟨_ :: u1, u2, by rw [e]; rfl, .cons r a, b⟩
theorem vals_nil {us : List Value} (h : Vals [] us) : us = [] := by cases h; rfl
section
variable {X : Cx}
theorem cr_sortedK : CallR X (.builtin "sorted") (rSortedK X.K) := by
  intro pins s σ H vs us Q I r h
  obtain ⟨a, xs, rfl, hs, h⟩ := h
  obtain ⟨k, f, d, h0, hx, hd, q⟩ := h fun t as bs h1 h2 => I.tuple_inj h1 h2
  obtain ⟨its, rv, hl, hz⟩ := I.list hs
  obtain ⟨u, rfl, ru⟩ := vals1 r
  obtain rfl : u = Value.ref a := ru
  obtain ⟨e1, e2⟩ := refs_back rv fun x m => by
    obtain ⟨t, e, _⟩ := hx x m
    exact ⟨t, e⟩
  have key : ∀ v ∈ its, ∃ rs, IsTI s.heap v (k (backV v)) rs ∧ Vals (f (backV v)) rs := fun v hv => by
    obtain ⟨t, rfl⟩ := e2 v hv
    have hm : V.ref t ∈ xs := by rw [e1]; exact List.mem_map.mpr ⟨_, hv, rfl⟩
    obtain ⟨t', e, ht, hlen⟩ := hx _ hm
    cases e
    obtain ⟨its2, r2, ⟨o, ho, hc, n, hdt⟩, _⟩ := I.tuple ht
    obtain ⟨u1, u2, e3, ri, rj⟩ := vals_split r2
    exact ⟨u2, ⟨t, o, n, _, u1, rfl, ho, hc, hdt, by rw [← e3], Vals.ints ri⟩, rj⟩
  have key2 : ∃ g : Value → List Value, ∀ v ∈ its, IsTI s.heap v (k (backV v)) (g v) ∧ Vals (f (backV v)) (g v) := by
    classical
    refine ⟨fun v => if h : v ∈ its then (key v h).choose else [], fun v hv => ?_⟩
    simp only [dif_pos hv]
    exact (key v hv).choose_spec
  obtain ⟨g, hg⟩ := key2
  have mem : ∀ v ∈ its, backV v ∈ xs := fun v hv => by rw [e1]; exact List.mem_map.mpr ⟨_, hv, rfl⟩
  refine sorted_ti (k := fun u => k (backV u)) (f := g) (d := d) hl.isList (by rw [← rv.length]; exact hz) h0 (fun v hv => ⟨(hg v hv).1, ?_⟩) (fun v hv u hu e => ?_) fun h' dd out h1 h2 kp hd2 hn => ?_
  · obtain ⟨t', e, ht, hlen⟩ := hx _ (mem v hv)
    exact hlen
  · rcases hd _ (mem v hv) _ (mem u hu) e with z | ⟨z1, z2⟩
    · obtain ⟨t, rfl⟩ := e2 v hv
      obtain ⟨t', rfl⟩ := e2 u hu
      exact .inl (by rw [show t = t' from V.ref.inj z])
    · right
      have g1 := (hg v hv).2
      have g2 := (hg u hu).2
      rw [z1] at g1
      rw [z2] at g2
      exact ⟨vals_nil g1, vals_nil g2⟩
  · have h3 : ∀ u ∈ out, ∃ a, u = Value.ref a := fun u hu => e2 u (h2.mem_iff.mp hu)
    obtain ⟨n, hn⟩ := hn
    have hb : (out.map backV).Perm xs := by
      rw [e1]
      exact h2.map backV
    refine ⟨.ref dd, upd H dd (.lst (out.map backV)), I.laid (t' := s.toks) kp hd2 ⟨?_, out, n, vals_back h3, hn⟩, rfl, q _ dd (List.pairwise_map.mpr (h1.imp fun {x y} z => z)) hb (I.hok.fresh hd2)⟩
    rw [hb.length_eq]
    exact hz
end
section
variable {B : Bx} {H : Hp} {δ : Dn} {ta : TE}
theorem map_int_inj : ∀ {l m : List Int}, l.map V.int = m.map V.int → l = m
  | [], [], _ => rfl
  | [], _ :: _, h => by cases h
  | _ :: _, [], h => by cases h
  | x :: l, y :: m, h => by
    rw [List.map_cons, List.map_cons] at h
    injection h with h1 h2
    injection h1 with h1
    rw [h1, map_int_inj h2]
theorem dts_ints {K : PySem.W.Frag} : ∀ {ns : List Int} {es : List PyData} {xs : List V}, DTs K H xs (ns.map PyData.int ++ es) → ∃ ys, xs = ns.map V.int ++ ys ∧ DTs K H ys es
  | [], _, xs, h => ⟨xs, rfl, h⟩
  | n :: ns, es, _, .cons h t => by
    obtain ⟨ys, e, o⟩ := dts_ints (ns := ns) t
    exact ⟨ys, by rw [h.int_inv, e]; rfl, o⟩
theorem dts_nil {K : PySem.W.Frag} {xs : List V} (h : DTs K H xs []) : xs = [] := by cases h; rfl
theorem dts_perm {K : PySem.W.Frag} {ys xs : List V} (h : ys.Perm xs) : ∀ {ds : List PyData}, DTs K H xs ds → ∃ ms, DTs K H ys ms ∧ ms.Perm ds := by
  induction h with
  | nil => intro ds t; exact ⟨ds, t, .refl _⟩
  | cons x _ ih =>
    intro ds t
    cases t with
    | cons h t =>
      obtain ⟨ms, t2, p⟩ := ih t
      exact ⟨_ :: ms, .cons h t2, p.cons _⟩
  | swap x y l =>
    intro ds t
    cases t with
    | cons h t =>
      cases t with
      | cons h2 t => exact ⟨_, .cons h2 (.cons h t), .swap _ _ _⟩
  | trans _ _ ih1 ih2 =>
    intro ds t
    obtain ⟨ms, t2, p⟩ := ih2 t
    obtain ⟨ms2, t3, p2⟩ := ih1 t2
    exact ⟨ms2, t3, p2.trans p⟩
theorem dts_mem {K : PySem.W.Frag} {x : V} : ∀ {xs : List V} {ds : List PyData}, DTs K H xs ds → x ∈ xs → ∃ e ∈ ds, DT K H x e
  | _, _, .cons h t, m => by
    rcases List.mem_cons.mp m with rfl | m
    · exact ⟨_, List.mem_cons_self, h⟩
    · obtain ⟨e, he, o⟩ := dts_mem t m
      exact ⟨e, List.mem_cons_of_mem _ he, o⟩
theorem dts_pw {K : PySem.W.Frag} {R : V → V → Prop} {S : PyData → PyData → Prop} : ∀ {xs : List V} {ds : List PyData}, DTs K H xs ds → (∀ x y d e, d ∈ ds → e ∈ ds → DT K H x d → DT K H y e → R x y → S d e) → xs.Pairwise R → ds.Pairwise S
  | _, _, .nil, _, _ => .nil
  | _, d :: ds, .cons h t, f, p => by
    obtain ⟨p1, p2⟩ := List.pairwise_cons.mp p
    refine List.pairwise_cons.mpr ⟨fun e he => ?_, dts_pw t (fun x y d e hd he => f x y d e (List.mem_cons_of_mem _ hd) (List.mem_cons_of_mem _ he)) p2⟩
    obtain ⟨i, hi, rfl⟩ := List.getElem_of_mem he
    obtain ⟨v, hv, o⟩ := t.get (List.getElem?_eq_getElem hi)
    exact f _ v _ _ List.mem_cons_self (List.mem_cons_of_mem _ he) h o (p1 v (List.mem_of_getElem? hv))
/-- sorted of tuples that begin with d ints: one tuple per key, or nothing but the key -/
theorem evl_sortedK {ds : List PyData} {k : PyData → List Int} {f : PyData → List PyData} {d : Nat} (h0 : 0 < d) (ha : EvS B ta δ (· = .lst ds)) (hk : ∀ e ∈ ds, e = .tuple ((k e).map PyData.int ++ f e) ∧ (k e).length = d)
    (hd : (∀ e ∈ ds, f e = []) ∨ ds.Pairwise (fun e e' => k e ≠ k e')) : EvL B (tCB (rSortedK B.K) (tCons ta tNil)) δ (fun ms => ms.Perm ds ∧ ms.Pairwise (fun e e' => HT.lexLt (k e') (k e) = false)) := fun σ H st Q q => ha σ H st _ fun v H1 s r1 h1 o1 p1 => by
  subst p1
  obtain ⟨a, xs, rfl, na, hl, t⟩ := o1
  refine ⟨a, xs, rfl, .inl (.inl hl), fun det => ?_⟩
  classical
  have key : ∀ x ∈ xs, ∃ e, e ∈ ds ∧ DT B.K H1 x e := fun x hx => by
    obtain ⟨e, he, o⟩ := dts_mem t hx
    exact ⟨e, he, o⟩
  have uni : ∀ x e e', e ∈ ds → e' ∈ ds → DT B.K H1 x e → DT B.K H1 x e' → k e = k e' := fun x e e' he he' o o' => by
    obtain ⟨e1, l1⟩ := hk e he
    obtain ⟨e2, l2⟩ := hk e' he'
    rw [e1] at o
    rw [e2] at o'
    obtain ⟨c, ys, rfl, q1, t1⟩ := o.tup_inv
    obtain ⟨c', ys', z, q2, t2⟩ := o'.tup_inv
    cases z
    obtain ⟨y1, w1, _⟩ := dts_ints t1
    obtain ⟨y2, w2, _⟩ := dts_ints t2
    have := det _ _ _ q1 q2
    rw [w1, w2] at this
    refine map_int_inj (List.append_inj this ?_).1
    rw [List.length_map, List.length_map, l1, l2]
  obtain ⟨κ, hκ⟩ : ∃ κ : V → PyData, ∀ x ∈ xs, κ x ∈ ds ∧ DT B.K H1 x (κ x) := ⟨fun x => if h : x ∈ xs then (key x h).choose else .none, fun x hx => by simp only [dif_pos hx]; exact (key x hx).choose_spec⟩
  have tl : ∀ x ∈ xs, ∃ (c : Addr) (ys : List V), x = .ref c ∧ SqT B.K H1 c ((k (κ x)).map V.int ++ ys) ∧ DTs B.K H1 ys (f (κ x)) := fun x hx => by
    obtain ⟨m, o⟩ := hκ x hx
    obtain ⟨e1, _⟩ := hk _ m
    rw [e1] at o
    obtain ⟨c, zs, rfl, q1, t1⟩ := o.tup_inv
    obtain ⟨ys, w1, o2⟩ := dts_ints t1
    rw [w1] at q1
    exact ⟨c, ys, rfl, q1, o2⟩
  obtain ⟨φ, hφ⟩ : ∃ φ : V → List V, ∀ x ∈ xs, ∃ c, x = .ref c ∧ SqT B.K H1 c ((k (κ x)).map V.int ++ φ x) ∧ DTs B.K H1 (φ x) (f (κ x)) := ⟨fun x => if h : x ∈ xs then (tl x h).choose_spec.choose else [], fun x hx => by simp only [dif_pos hx]; exact ⟨_, (tl x hx).choose_spec.choose_spec⟩⟩
  refine ⟨fun x => k (κ x), φ, d, h0, fun x hx => ?_, fun x hx y hy e => ?_, fun ys p hs hp hf => ?_⟩
  · obtain ⟨c, e, q1, _⟩ := hφ x hx
    exact ⟨c, e, q1, (hk _ (hκ x hx).1).2⟩
  · rcases hd with hd | hd
    · right
      obtain ⟨_, _, _, t1⟩ := hφ x hx
      obtain ⟨_, _, _, t2⟩ := hφ y hy
      rw [hd _ (hκ x hx).1] at t1
      rw [hd _ (hκ y hy).1] at t2
      constructor
      · exact dts_nil t1
      · exact dts_nil t2
    · left
      obtain ⟨i, hi, rfl⟩ := List.getElem_of_mem hx
      obtain ⟨j, hj, rfl⟩ := List.getElem_of_mem hy
      obtain ⟨di, e1, o1⟩ := t.getV (List.getElem?_eq_getElem hi)
      obtain ⟨dj, e2, o2⟩ := t.getV (List.getElem?_eq_getElem hj)
      have k1 := uni _ _ _ (hκ _ hx).1 (List.mem_of_getElem? e1) (hκ _ hx).2 o1
      have k2 := uni _ _ _ (hκ _ hy).1 (List.mem_of_getElem? e2) (hκ _ hy).2 o2
      have kk : k di = k dj := by rw [← k1, ← k2]; exact e
      obtain ⟨hi', e1'⟩ := List.getElem?_eq_some_iff.mp e1
      obtain ⟨hj', e2'⟩ := List.getElem?_eq_some_iff.mp e2
      rcases Nat.lt_trichotomy i j with lt | eq | gt
      · exact absurd (by rw [e1', e2']; exact kk) (List.pairwise_iff_getElem.mp hd i j hi' hj' lt)
      · subst eq; rfl
      · exact absurd (by rw [e1', e2']; exact kk.symm) (List.pairwise_iff_getElem.mp hd j i hj' hi' gt)
  · obtain ⟨ms, t2, pm⟩ := dts_perm hp t
    have r2 : Rel B.hd H1 (upd H1 p (.lst ys)) := .new hf
    refine q p ys ms _ (r1.trans r2) (h1.new hf) (free_back h1 r1 hf) upd_same (DTs.mono (fun _ _ => sqT_rel h1 r2) _ _ t2) ⟨pm, ?_⟩
    have : ∀ x ∈ ys, ∀ y ∈ ys, True := fun _ _ _ _ => trivial
    have hs2 : ys.Pairwise (fun x y => (x ∈ xs ∧ y ∈ xs) ∧ HT.lexLt (k (κ y)) (k (κ x)) = false) := by
      refine List.Pairwise.imp_of_mem (fun {x y} hx hy z => ⟨⟨hp.mem_iff.mp hx, hp.mem_iff.mp hy⟩, z⟩) hs
    refine dts_pw t2 (fun x y dx dy hx hy ox oy z => ?_) hs2
    have m1 := uni _ _ _ (hκ _ z.1.1).1 (pm.mem_iff.mp hx) (hκ _ z.1.1).2 ox
    have m2 := uni _ _ _ (hκ _ z.1.2).1 (pm.mem_iff.mp hy) (hκ _ z.1.2).2 oy
    rw [← m1, ← m2]
    exact z.2
end
end K32
/-! Layer D, part 4: dicts and mutable instances of the def's own. -/
namespace K32
open PySem PySem.Spec PyProof.Rows L2
section
variable {B : Bx} {H H' H1 : Hp} {σ : L2.St} {δ : Dn} {te tv : TE} {t u : TS} {N : PD} {i : Nat} {p : Addr} {kvs : List (Key × V)}
theorem q_dnew (k : ∀ p, B.H0 p = none → SX B u (δ.set i (some (.obj p (.dK [])))) N) : SX B (tSeq (tAsg tDNewK (gName i)) u) δ N := fun σ H st D g p hp => by
  have st1 := st.mono (.new (o := .dK []) hp) (st.hh.new hp)
  exact k p (st.h0_free hp) _ _ (st1.set i (s := .obj p (.dK [])) ⟨rfl, upd_same, rfl⟩ rfl) D g
theorem evs_din {n : Int} (hi : δ[i]? = some (some (.obj p (.dK kvs)))) (h : EvS B te δ (Is (.int n))) : EvS B (tDIn te (tVar i)) δ (Is (.bool (valV kvs (.inl n)).isSome)) := fun σ H st Q k => h σ H st _ fun v H1 s r1 h1 o1 e => by
  subst e
  cases o1.int_inv
  obtain ⟨w, e1, rfl, hp, _⟩ := (st.mono r1 h1).ok i _ hi
  exact ⟨_, e1, p, _, rfl, .k (k := .inl n) hp, k.dat r1 h1 (DT.bl _) rfl⟩
theorem evs_dget {n : Int} {d : PyData} (hi : δ[i]? = some (some (.obj p (.dK kvs)))) (h : EvS B te δ (Is (.int n))) (hv : valV kvs (.inl n) = some (vOf d)) (fd : flatD d = true) : EvS B (tDGet (tVar i) te) δ (Is d) := fun σ H st Q k => by
  obtain ⟨w, e1, rfl, hp, _⟩ := st.ok i _ hi
  refine ⟨_, e1, h σ H st _ fun v H1 s r1 h1 o1 e => ?_⟩
  subst e
  cases o1.int_inv
  obtain ⟨w, e2, rfl, hp1, _⟩ := (st.mono r1 h1).ok i _ hi
  exact ⟨p, _, rfl, by rw [← hv]; exact .k (k := .inl n) hp1, k.dat r1 h1 (DT.of_flat fd) rfl⟩
theorem sx_dput {n : Int} {d : PyData} (h0 : B.H0 p = none) (hi : δ[i]? = some (some (.obj p (.dK kvs)))) (h : EvS B te δ (Is (.int n))) (hv : EvS B tv δ (Is d)) (fd : flatD d = true) (hz : kvs.length ≤ 1000000) (hc : ∀ (j : Nat) (s : Sv), j ≠ i → δ[j]? = some (some s) → s.calm = true)
    (k : N.nx (δ.set i (some (.obj p (.dK (putK kvs (.inl n) (vOf d))))))) : SX B (sDPut (tVar i) te tv) δ N := fun σ H st D g => hv σ H st _ fun v H1 s r1 h1 o1 e => by
  subst e
  have ev := o1.flat fd
  subst ev
  have st1 := st.mono r1 h1
  obtain ⟨w, e1, rfl, hp, _⟩ := st1.ok i _ hi
  refine ⟨_, e1, h σ H1 st1 _ fun y H2 s2 r2 h2 o2 e => ?_⟩
  subst e
  cases o2.int_inv
  have st2 := st1.mono r2 h2
  obtain ⟨w, e2, rfl, hp2, _⟩ := st2.ok i _ hi
  refine ⟨p, _, rfl, .k (k := .inl n) hp2 (Nat.lt_of_le_of_lt hz (by decide)), g.nx _ _ _ (st2.put h0 hi rfl (fun b u hb e => by rw [upd_ne hb]; exact e) upd_same hc) k⟩
theorem putK_len (k : Key) (v : V) : (putK kvs k v).length ≤ kvs.length + 1 := by
  unfold putK
  split
  · rw [List.length_map]; exact Nat.le_succ _
  · rw [List.length_append]; exact Nat.le_refl _
end
end K32
/-! Rules by items; the data of records. -/
namespace K32
open PySem PySem.Spec PyProof.Rows L2
theorem hu65 {k : Nat} {A : Around} (r : Room k A) : A.units + 65 < cLine := by have := r.un; omega
theorem hu_of {k : Nat} {A : Around} (r : Room k A) : A.units + 1 < cLine := by have := r.units; omega
section
variable {B : Bx} {H H' H1 : Hp} {σ : L2.St} {δ : Dn} {te ta tb : TE} {S P R : Sv → Prop} {tt : TT} {t u w : TS} {N M : PD} {wi : TI} {g : TG} {j : Nat} {α : Type} {L : List α} {F : α → PyData}
/-- an iterable that yields known items into one slot -/
abbrev EvY (B : Bx) (wi : TI) (δ : Dn) (g : TG) (j : Nat) (ds : List PyData) : Prop := EvI B wi δ g [j] (fun n put => n = ds.length ∧ put = putN j ds)
theorem putN_at {i : Nat} (hi : i < L.length) (δ : Dn) : putN j (L.map F) i δ = δ.set j (some (.dat (F L[i]))) := by
  unfold putN
  rw [getD_of (show (L.map F)[i]? = some (F L[i]) by rw [List.getElem?_map, List.getElem?_eq_getElem hi]; rfl)]
theorem evi_newY {ds : List PyData} (h : EvL B te δ (· = ds)) : EvY B (iList B.K te) δ (gName j) j ds := fun σ H st R k => evi_new (P := (· = ds)) (j := j) h σ H st R fun J H' γ n put r hh s sr ⟨es, e, e1, e2⟩ => by
  subst e
  exact k J H' γ n put r hh s sr ⟨e1, e2⟩
theorem evl_mapL {f : α → PyData} (h : EvY B wi δ g j (L.map F)) (hz : L.length ≤ 1000000) (he : ∀ γ x, x ∈ L → EvS (B.add γ) te ((wipeD δ [j]).set j (some (.dat (F x)))) (Is (f x))) : EvL B (tLc wi g tYes te [j]) δ (· = L.map f) := evl_lc h fun m p ⟨e1, e2⟩ => by
  subst e1 e2
  rw [List.length_map]
  refine ⟨hz, fun i acc => acc = (L.take i).map f, rfl, fun γ i acc hi e => ⟨(· = true), evt_yes, fun _ => ?_, fun q => Bool.noConfusion (show false = true from q)⟩, fun acc e => ?_⟩
  · rw [putN_at hi]
    refine (he γ L[i] (List.getElem_mem hi)).imp fun s e2 => ⟨f L[i], e2, ?_⟩
    show acc ++ [f L[i]] = (L.take (i + 1)).map f
    rw [show acc = (L.take i).map f from e, List.take_succ, List.getElem?_eq_getElem hi, List.map_append]; rfl
  · rw [show acc = (L.take L.length).map f from e, List.take_length]
/-- what is made satisfies P -/
theorem evl_mapP {Q : PyData → Prop} (h : EvY B wi δ g j (L.map F)) (hz : L.length ≤ 1000000) (he : ∀ γ x, x ∈ L → EvS (B.add γ) te ((wipeD δ [j]).set j (some (.dat (F x)))) (fun s => ∃ d, s = .dat d ∧ Q d)) : EvL B (tLc wi g tYes te [j]) δ (fun ds => ds.length = L.length ∧ ∀ d ∈ ds, Q d) := evl_lc h fun m p ⟨e1, e2⟩ => by
  subst e1 e2
  rw [List.length_map]
  refine ⟨hz, fun i acc => acc.length = i ∧ ∀ d ∈ acc, Q d, ⟨rfl, fun d hd => (nomatch hd)⟩, fun γ i acc hi e => ⟨(· = true), evt_yes, fun _ => ?_, fun q => Bool.noConfusion (show false = true from q)⟩, fun acc e => e⟩
  rw [putN_at hi]
  refine (he γ L[i] (List.getElem_mem hi)).imp fun s ⟨d, e2, qd⟩ => ⟨d, e2, by rw [List.length_append, e.1]; rfl, fun x hx => ?_⟩
  rcases List.mem_append.mp hx with hx | hx
  · exact e.2 x hx
  · rw [List.mem_singleton.mp hx]; exact qd
theorem evl_fmL {f : α → Option PyData} (h : EvY B wi δ g j (L.map F)) (hz : L.length ≤ 1000000) (ht : ∀ γ x, x ∈ L → EvT (B.add γ) tt ((wipeD δ [j]).set j (some (.dat (F x)))) (· = (f x).isSome))
    (he : ∀ γ x d, x ∈ L → f x = some d → EvS (B.add γ) te ((wipeD δ [j]).set j (some (.dat (F x)))) (Is d)) : EvL B (tLc wi g tt te [j]) δ (· = L.filterMap f) := evl_lc h fun m p ⟨e1, e2⟩ => by
  subst e1 e2
  rw [List.length_map]
  refine ⟨hz, fun i acc => acc = (L.take i).filterMap f, rfl, fun γ i acc hi e => ⟨_, by rw [putN_at hi]; exact ht γ L[i] (List.getElem_mem hi), fun q => ?_, fun q => ?_⟩, fun acc e => ?_⟩
  · rw [putN_at hi]
    obtain ⟨d, ed⟩ := Option.isSome_iff_exists.mp (show (f L[i]).isSome = true from q.symm)
    refine (he γ L[i] d (List.getElem_mem hi) ed).imp fun s e2 => ⟨d, e2, ?_⟩
    show acc ++ [d] = (L.take (i + 1)).filterMap f
    rw [show acc = (L.take i).filterMap f from e, List.take_succ, List.getElem?_eq_getElem hi, List.filterMap_append]
    simp [ed]
  · show acc = (L.take (i + 1)).filterMap f
    have ed : f L[i] = none := by
      cases z : f L[i] with
      | none => rfl
      | some d => rw [z] at q; cases q
    rw [show acc = (L.take i).filterMap f from e, List.take_succ, List.getElem?_eq_getElem hi, List.filterMap_append]
    simp [ed]
  · rw [show acc = (L.take L.length).filterMap f from e, List.take_length]
theorem evs_allL (h : EvY B wi δ g j (L.map F)) (hz : L.length ≤ 1000000) (he : ∀ γ x, x ∈ L → EvS (B.add γ) te ((wipeD δ [j]).set j (some (.dat (F x)))) (Is (.bool true))) : EvS B (tCB (rAll B.K) (tCons (tLc wi g tYes te [j]) tNil)) δ (Is (.bool true)) := evs_allLc h fun n put ⟨e1, e2⟩ => by
  subst e1 e2
  rw [List.length_map]
  exact ⟨hz, fun γ i hi => by rw [putN_at hi]; exact he γ L[i] (List.getElem_mem hi)⟩
theorem sx_forL {tb : TS} (G : List α → Dn → Prop) (h : EvY B wi δ g j (L.map F)) (g0 : G [] δ)
    (gs : ∀ γ pre x post δ', L = pre ++ x :: post → G pre δ' → SX (B.add γ) tb (δ'.set j (some (.dat (F x)))) { nx := G (pre ++ [x]), ct := G (pre ++ [x]), bk := N.nx, rt := N.rt }) (ge : ∀ δ', G L δ' → N.nx δ') : SX B (tFor wi g tb) δ N := sx_for h fun n put ⟨e1, e2⟩ => by
  subst e1 e2
  rw [List.length_map]
  refine ⟨fun i => G (L.take i), g0, fun γ i δ' hi gd => ?_, fun δ' gd => ge δ' (by have q : G (L.take L.length) δ' := gd; rwa [List.take_length] at q)⟩
  have e : L = L.take i ++ L[i] :: L.drop (i + 1) := by rw [List.getElem_cons_drop, List.take_append_drop]
  have e2 : L.take (i + 1) = L.take i ++ [L[i]] := by rw [List.take_succ, List.getElem?_eq_getElem hi]; rfl
  rw [putN_at hi]
  show SX (B.add γ) tb _ { nx := G (L.take (i + 1)), rt := N.rt, bk := N.nx, ct := G (L.take (i + 1)) }
  rw [e2]
  exact gs γ _ _ _ δ' e gd
/-- an own list is only read from now on -/
theorem StB.share (st : StB B H σ δ) {i : Nat} {ds : List PyData} (hi : δ[i]? = some (some (.own ds))) : StB B H σ (δ.set i (some (.lst ds))) := by
  refine ⟨st.rel, st.h0, st.hh, by rw [List.length_set]; exact st.len, fun j s e => ?_, st.gh, fun j es a f1 f2 => ?_⟩
  · rcases getSet e with ⟨rfl, e'⟩ | ⟨n, e'⟩
    · cases e'
      obtain ⟨v, h1, h2⟩ := st.ok j _ hi
      exact ⟨v, h1, h2⟩
    · exact st.ok j s e'
  · rcases getSet f1 with ⟨rfl, e'⟩ | ⟨n, e'⟩
    · cases e'
    · obtain ⟨a1, a2, a3⟩ := st.own j es a e' f2
      refine ⟨a1, fun k s hk g1 g2 => ?_, a3⟩
      rcases getSet g1 with ⟨rfl, e''⟩ | ⟨m, e''⟩
      · cases e''
        exact absurd (a2 k _ hk hi g2) (fun q => Bool.noConfusion (show true = false from q))
      · exact a2 k s hk e'' g2
theorem sx_share {i : Nat} {ds : List PyData} (hi : δ[i]? = some (some (.own ds))) (h : SX B t (δ.set i (some (.lst ds))) N) : SX B t δ N := fun σ H st D g => h σ H (st.share hi) D g
/-- one statement by the rules, the rest by hand -/
theorem raw_seq {D : Ends} {G : Dn → Prop} (h : SX B t δ { nx := G }) (st : StB B H σ δ) (k : ∀ σ' H' δ', StB B H' σ' δ' → G δ' → u D σ' H') : tSeq t u D σ H :=
  h σ H st _ ⟨fun σ' H' δ' s q => k σ' H' δ' s q, fun _ _ _ _ _ _ _ q => q.elim, fun _ _ _ _ q => q.elim, fun _ _ _ _ q => q.elim⟩
theorem raw_if {D : Ends} (h : EvT B tt δ (· = false)) (st : StB B H σ δ) (k : ∀ H1, StB B H1 σ δ → u D σ H1) : tSeq (tIfS tt t tNext) u D σ H := h σ H st _ fun b H1 r1 hh1 e => by
  subst e
  exact iteF (k H1 (st.mono r1 hh1))
end
section
variable {B : Bx} {δ : Dn} {te : TE} {tt tu : TT}
theorem evs_is {b c : Bool} (h : EvS B te δ (Is (.bool b))) (e : b = c) : EvS B te δ (Is (.bool c)) := by rw [← e]; exact h
theorem evt_orF (h1 : EvT B tt δ (· = false)) (h2 : EvT B tu δ (· = false)) : EvT B (tOr tt tu) δ (· = false) := evt_or1 h1 fun _ => h2
theorem evt_notT (h : EvT B tt δ (· = true)) : EvT B (tNot tt) δ (· = false) := evt_not h
theorem evt_notF (h : EvT B tt δ (· = false)) : EvT B (tNot tt) δ (· = true) := evt_not h
theorem evt_andF (h1 : EvT B tt δ (· = false)) : EvT B (tAnd tt tu) δ (· = false) := fun σ H st Q k => h1 σ H st _ fun b H1 r1 hh1 p1 => by
  subst p1
  exact iteF (k false H1 r1 hh1 rfl)
theorem evt_andF2 (h1 : EvT B tt δ (· = true)) (h2 : EvT B tu δ (· = false)) : EvT B (tAnd tt tu) δ (· = false) := evt_and1 h1 fun _ => h2
theorem evt_andT (h1 : EvT B tt δ (· = true)) (h2 : EvT B tu δ (· = true)) : EvT B (tAnd tt tu) δ (· = true) := evt_and1 h1 fun _ => h2
theorem evt_orT (h1 : EvT B tt δ (· = true)) : EvT B (tOr tt tu) δ (· = true) := fun σ H st Q k => h1 σ H st _ fun b H1 r1 hh1 p1 => by
  subst p1
  exact iteT (k true H1 r1 hh1 rfl)
theorem evt_orT2 (h1 : EvT B tt δ (· = false)) (h2 : EvT B tu δ (· = true)) : EvT B (tOr tt tu) δ (· = true) := evt_or1 h1 fun _ => h2
end
theorem perm_map_inv {β : Type} {F : β → PyData} {l m : List PyData} (h : l.Perm m) : ∀ a : List β, m = a.map F → ∃ ms : List β, l = ms.map F ∧ ms.Perm a := by
  induction h with
  | nil =>
    intro a e
    cases a with
    | nil => exact ⟨[], rfl, .refl _⟩
    | cons x a => cases e
  | cons x _ ih =>
    intro a e
    cases a with
    | nil => cases e
    | cons y a =>
      rw [List.map_cons] at e
      injection e with e1 e2
      obtain ⟨ms, q, p⟩ := ih a e2
      exact ⟨y :: ms, by rw [List.map_cons, e1, q], p.cons _⟩
  | swap x y l =>
    intro a e
    match a, e with
    | p :: q :: a, e =>
      rw [List.map_cons, List.map_cons] at e
      injection e with e1 e2
      injection e2 with e2 e3
      exact ⟨q :: p :: a, by rw [List.map_cons, List.map_cons, e1, e2, e3], .swap _ _ _⟩
  | trans _ _ ih1 ih2 =>
    intro a e
    obtain ⟨ms, q, p⟩ := ih2 a e
    obtain ⟨ns, q2, p2⟩ := ih1 ms q
    exact ⟨ns, q2, p2.trans p⟩
/-! ### calls of a record -/
inductive Wh where
  | put (v : Nat) | look (l : List (Option Nat))
structure Call where
  hand : Nat
  what : Wh
  b : Nat
  e : Option Nat
def optD : Option Nat → PyData
  | none => .none
  | some n => natD n
def Wh.word : Wh → Str
  | .put _ => "put"
  | .look _ => "look"
def Wh.d : Wh → PyData
  | .put v => natD v
  | .look l => .tuple (l.map optD)
def Call.l (c : Call) : List PyData := [.str c.what.word, natD c.hand, c.what.d, natD c.b, optD c.e]
def Call.d (c : Call) : PyData := .tuple c.l
def Call.okAt (many : Nat) (c : Call) : Prop := c.hand < many ∧ (∀ x, c.e = some x → c.b < x) ∧ match c.what with
  | .put _ => True
  | .look l => (∃ x, c.e = some x) ∧ l.length = many
def putV (c : Call) : Option (Nat × Nat) := match c.what with
  | .put v => some (c.hand, v)
  | .look _ => none
structure RecOk (many : Nat) (cs : List Call) : Prop where
  lo : 1 ≤ many
  hi : many ≤ 8
  len : cs.length ≤ 300
  each : ∀ c ∈ cs, c.okAt many
  rise : cs.Pairwise (fun c c' => c.b < c'.b)
  unlike : (cs.map (·.b) ++ cs.filterMap (·.e)).Nodup
  clear : cs.Pairwise (fun c c' => c.hand = c'.hand → ∃ x, c.e = some x ∧ x ≤ c'.b)
  vals : (cs.filterMap putV).Nodup
abbrev callsD (cs : List Call) : PyData := .tuple (cs.map Call.d)
def recD (r : Nat × List Call) : List (Str × PyData) := [("many", natD r.1), ("calls", callsD r.2)]
def isRec (fs : List (Str × PyData)) : Prop := ∃ r : Nat × List Call, RecOk r.1 r.2 ∧ fs = recD r
theorem lay_opt (o : Option Nat) : Lay 0 (optD o) := by cases o <;> first | exact .none | exact .int
theorem lay_what (x : Wh) : Lay 1 x.d := by
  cases x with
  | put v => exact .int
  | look l =>
    refine .tup fun e he => ?_
    obtain ⟨o, _, rfl⟩ := List.mem_map.mp he
    exact lay_opt o
theorem ok_word (x : Wh) : PyData.strOk x.word = true := by
  cases x with
  | put v => exact ok_put
  | look l => exact ok_look
theorem Lay.up {n m : Nat} {d : PyData} (h : Lay n d) (hn : n ≤ m) : Lay m d := ⟨h.1, Nat.le_trans h.2 hn⟩
theorem lay_call (c : Call) : Lay 2 c.d := .tup (.cons (.str (ok_word _)) (.cons .int (.cons (lay_what _) (.cons .int (.cons ((lay_opt _).up (by decide)) fun _ => .nil)))))
theorem lay_calls (cs : List Call) : Lay 3 (callsD cs) := .tup fun e he => by
  obtain ⟨c, _, rfl⟩ := List.mem_map.mp he
  exact lay_call c
theorem flat_opt (o : Option Nat) : flatD (optD o) = true := by cases o <;> rfl
theorem isN_opt (o : Option Nat) : isN (.dat (optD o)) = o.isNone := by cases o <;> rfl
end K32
/-! Texts: words, lines, closed rows. -/
namespace K32
open PySem PySem.Spec PyProof.Rows L2 TL
abbrev num (n : Nat) : Str := toString ((n : Nat) : Int)
theorem tl_n (n : Nat) : tl (num n) = numL n := tl_num n
theorem num_len {n : Nat} (h : n < 10 ^ 20) : (num n).length ≤ 20 := by rw [len_tl, tl_n]; exact numL_len (by decide) h
theorem num_pos (n : Nat) : 1 ≤ (num n).length := by
  rw [len_tl, tl_n]
  cases h : numL n with
  | nil => exact absurd h (numL_ne n)
  | cons x l => simp
theorem num_val {n : Nat} (h : n < 10 ^ 20) : intText? (num n) = some (n : Int) := int_num (Nat.le_trans (numL_len (by decide) h) (by decide))
theorem numL_head {n : Nat} (h : 0 < n) : ∃ c l, numL n = c :: l ∧ c ≠ 48 := by
  induction n using Nat.strongRecOn with
  | _ n ih =>
    by_cases h2 : n < 10
    · exact ⟨48 + n, [], numL_lt h2, by omega⟩
    · obtain ⟨c, l, e, ne⟩ := ih (n / 10) (by omega) (by omega)
      exact ⟨c, l ++ [48 + n % 10], by rw [numL_step (by omega), e]; rfl, ne⟩
theorem log_lt {n : Nat} (h : n < 10 ^ 20) : n.log2 < 1920 := by
  by_cases h0 : n = 0
  · subst h0; decide
  · refine (Nat.log2_lt h0).mpr (Nat.lt_of_lt_of_le h ?_)
    exact Nat.le_trans (by decide : 10 ^ 20 ≤ 2 ^ 70) (Nat.pow_le_pow_right (by decide) (by decide))
/-- the word of an integer -/
theorem int_word (i : Int) : (∃ n : Nat, i = n ∧ (toString i : Str) = num n) ∨ ∃ n : Nat, i = -((n + 1 : Nat) : Int) ∧ tl (toString i : Str) = 45 :: numL (n + 1) := by
  cases i with
  | ofNat n => exact .inl ⟨n, rfl, rfl⟩
  | negSucc n =>
    refine .inr ⟨n, rfl, ?_⟩
    show tl (Str.ofString (toString (Int.negSucc n))) = _
    have e : (toString (Int.negSucc n)) = "-" ++ toString (n + 1) := rfl
    rw [e, tl_ofString, String.toList_append, List.map_append]
    have := tl_num (n + 1)
    rw [tl_ofString] at this
    rw [← this]
    rfl
/-- free of blanks and line feeds, short -/
def WordOk (x : Str) : Prop := 32 ∉ tl x ∧ 10 ∉ tl x ∧ x.length ≤ 30
theorem wordOk_num {n : Nat} (h : n < 10 ^ 20) : WordOk (num n) := ⟨by rw [tl_n]; exact numL_free (.inl (by decide)), by rw [tl_n]; exact numL_free (.inl (by decide)), Nat.le_trans (num_len h) (by decide)⟩
theorem wordOk_int {i : Int} (h : -1000 ≤ i ∧ i ≤ 1000) : WordOk (toString i) := by
  rcases int_word i with ⟨n, e, q⟩ | ⟨n, e, q⟩
  · rw [q]; exact wordOk_num (by omega)
  · have hn : n + 1 < 10 ^ 20 := by omega
    refine ⟨by rw [q]; simp [numL_free], by rw [q]; simp [numL_free], ?_⟩
    rw [len_tl, q, List.length_cons]
    exact Nat.succ_le_of_lt (Nat.lt_of_le_of_lt (numL_len (by decide) hn) (by decide))
/-! ### lines -/
def BL : Str := " "
def NLs : Str := "\n"
theorem tl_BL : tl BL = [32] := by decide +kernel
theorem tl_NL : tl NLs = [10] := by decide +kernel
def lineS (ws : List Str) : Str := Txt.join BL ws
def closedS (rows : List Str) : Str := Txt.join "" (rows.map (· ++ NLs))
theorem tl_empty : tl ("" : Str) = [] := by decide +kernel
theorem tl_line (ws : List Str) : tl (lineS ws) = joinL [32] (ws.map tl) := by rw [lineS, join_eq, tl_join, tl_BL]
theorem joinL_nil : ∀ ls : List (List Nat), joinL [] ls = ls.flatten
  | [] => rfl
  | [p] => by show p = _; simp
  | p :: q :: r => by
    show p ++ ([] ++ joinL [] (q :: r)) = _
    rw [joinL_nil (q :: r)]
    simp
theorem tl_closed (rows : List Str) : tl (closedS rows) = (rows.map fun r => tl r ++ [10]).flatten := by
  rw [closedS, join_eq, tl_join, tl_empty, joinL_nil, List.map_map]
  congr 1
  refine List.map_congr_left fun r _ => ?_
  show tl (r ++ NLs) = _
  rw [tl_append, tl_NL]
theorem joinL_snoc : ∀ rows : List Str, joinL [10] ((rows ++ [Str.empty]).map tl) = (rows.map fun r => tl r ++ [10]).flatten
  | [] => rfl
  | [r] => by
    show tl r ++ ([10] ++ []) = (tl r ++ [10]) ++ []
    simp
  | r :: q :: rows => by
    show tl r ++ ([10] ++ joinL [10] (((q :: rows) ++ [Str.empty]).map tl)) = (tl r ++ [10]) ++ ((q :: rows).map fun r => tl r ++ [10]).flatten
    rw [joinL_snoc (q :: rows), List.append_assoc]
theorem closed_join (rows : List Str) : closedS rows = Txt.join NLs (rows ++ [Str.empty]) := by
  refine ext_tl ?_
  rw [tl_closed, join_eq, tl_join, tl_NL, joinL_snoc]
theorem split_closed {rows : List Str} (h : ∀ r ∈ rows, 10 ∉ tl r) : Txt.split (closedS rows) NLs = rows ++ [Str.empty] := by
  rw [closed_join]
  refine split_join tl_NL (by decide +kernel) (by simp) fun p hp => ?_
  rcases List.mem_append.mp hp with hp | hp
  · exact h p hp
  · rw [List.mem_singleton.mp hp]; decide +kernel
theorem split_line {ws : List Str} (h0 : ws ≠ []) (h : ∀ x ∈ ws, 32 ∉ tl x) : Txt.split (lineS ws) BL = ws := split_join tl_BL (by decide +kernel) h0 h
theorem joinL_mem {s : Nat} : ∀ {ls : List (List Nat)}, s ≠ 32 → (∀ l ∈ ls, s ∉ l) → s ∉ joinL [32] ls
  | [], _, _, m => nomatch m
  | [p], _, h, m => h p (List.mem_singleton.mpr rfl) m
  | p :: q :: r, n, h, m => by
    have m' : s ∈ p ++ ([32] ++ joinL [32] (q :: r)) := m
    rcases List.mem_append.mp m' with m | m
    · exact h p List.mem_cons_self m
    · rcases List.mem_append.mp m with m | m
      · exact n (List.mem_singleton.mp m)
      · exact joinL_mem (ls := q :: r) n (fun l hl => h l (List.mem_cons_of_mem _ hl)) m
theorem line_free {ws : List Str} (h : ∀ x ∈ ws, WordOk x) : 10 ∉ tl (lineS ws) := by
  rw [tl_line]
  refine joinL_mem (by decide) fun l hl => ?_
  obtain ⟨x, hx, rfl⟩ := List.mem_map.mp hl
  exact (h x hx).2.1
theorem joinL_len : ∀ ls : List (List Nat), (∀ l ∈ ls, l.length ≤ 30) → (joinL [32] ls).length ≤ 31 * ls.length
  | [], _ => Nat.zero_le _
  | [p], h => by
    have := h p (List.mem_singleton.mpr rfl)
    show p.length ≤ 31 * 1
    omega
  | p :: q :: r, h => by
    have h1 := h p List.mem_cons_self
    have h2 := joinL_len (q :: r) fun l hl => h l (List.mem_cons_of_mem _ hl)
    show (p ++ ([32] ++ joinL [32] (q :: r))).length ≤ _
    rw [List.length_append, List.length_append, List.length_cons]
    simp only [List.length_cons, List.length_nil] at *
    omega
theorem line_len {ws : List Str} (h : ∀ x ∈ ws, WordOk x) : (lineS ws).length ≤ 31 * ws.length := by
  rw [len_tl, tl_line]
  have := joinL_len (ws.map tl) fun l hl => by
    obtain ⟨x, hx, rfl⟩ := List.mem_map.mp hl
    rw [← len_tl]; exact (h x hx).2.2
  rwa [List.length_map] at this
theorem sum_le : ∀ {l : List Nat} {k : Nat}, (∀ x ∈ l, x ≤ k) → l.sum ≤ k * l.length
  | [], _, _ => Nat.zero_le _
  | x :: l, k, h => by
    have h1 := h x List.mem_cons_self
    have h2 := sum_le (l := l) (k := k) fun y hy => h y (List.mem_cons_of_mem _ hy)
    rw [List.sum_cons, List.length_cons, Nat.mul_succ]
    omega
theorem closed_len {rows : List Str} {k : Nat} (h : ∀ r ∈ rows, r.length ≤ k) : (closedS rows).length ≤ (k + 1) * rows.length := by
  rw [len_tl, tl_closed, List.length_flatten, List.map_map]
  have := sum_le (l := rows.map (List.length ∘ fun r => tl r ++ [10])) (k := k + 1) fun x hx => by
    obtain ⟨r, hr, rfl⟩ := List.mem_map.mp hx
    show (tl r ++ [10]).length ≤ _
    rw [List.length_append, ← len_tl]
    exact Nat.succ_le_succ (h r hr)
  rwa [List.length_map] at this
/-- two words, three -/
theorem line_two (a b : Str) : lineS [a, b] = a ++ BL ++ b := by
  refine ext_tl ?_
  rw [tl_line, tl_append, tl_append, tl_BL, List.append_assoc]
  rfl
/-! ### the lines of a play -/
def deedW : Deed → List PyData
  | .see => [.str "see"]
  | .put v => [.str "put", natD v]
def rowW : Inp → List (List PyData)
  | .man _ ss => ss.map fun s => s.flatMap deedW
  | .lev vs => vs.map fun v => [natD v]
  | .nam vs => vs.map fun v => [natD v]
  | .near _ vs => vs.map fun v => [PyData.int v]
  | .cha ls => ls.map fun l => l.map natD
def headW : Inp → List (List PyData)
  | .near r _ => [[.str "rounds", natD r]]
  | _ => []
def plW (i : Inp) : List (List PyData) := [.str "kind", .str i.kind] :: (headW i ++ (rowW i).map (.str "hand" :: ·))
def LineOk (l : List PyData) : Prop := l ≠ [] ∧ l.length ≤ 100 ∧ ∀ d ∈ l, wordOk d ∧ WordOk (wordD d)
def lineD (l : List PyData) : Str := lineS (l.map wordD)
def textD (ls : List (List PyData)) : Str := closedS (ls.map lineD)
theorem LineOk.ws {l : List PyData} (h : LineOk l) : ∀ x ∈ l.map wordD, WordOk x := fun x hx => by
  obtain ⟨d, hd, rfl⟩ := List.mem_map.mp hx
  exact (h.2.2 d hd).2
theorem LineOk.len {l : List PyData} (h : LineOk l) : (lineD l).length ≤ 3100 := by
  have := line_len h.ws
  rw [List.length_map] at this
  have h2 := h.2.1
  unfold lineD
  omega
theorem LineOk.split {l : List PyData} (h : LineOk l) : Txt.split (lineD l) BL = l.map wordD := split_line (fun e => h.1 (List.map_eq_nil_iff.mp e)) fun x hx => (h.ws x hx).1
theorem text_len {ls : List (List PyData)} (h : ∀ l ∈ ls, LineOk l) : (textD ls).length ≤ 3101 * ls.length := by
  have := closed_len (rows := ls.map lineD) (k := 3100) fun r hr => by
    obtain ⟨l, hl, rfl⟩ := List.mem_map.mp hr
    exact (h l hl).len
  rwa [List.length_map] at this
theorem text_split {ls : List (List PyData)} (h : ∀ l ∈ ls, LineOk l) : Txt.split (textD ls) NLs = ls.map lineD ++ [Str.empty] := split_closed fun r hr => by
  obtain ⟨l, hl, rfl⟩ := List.mem_map.mp hr
  exact line_free (h l hl).ws
def OkW (d : PyData) : Prop := wordOk d ∧ WordOk (wordD d)
theorem okw_nat {n : Nat} (h : n < 10 ^ 20) : OkW (natD n) := ⟨by show (n : Int).natAbs.log2 < 1920; rw [Int.natAbs_natCast]; exact log_lt h, wordOk_num h⟩
theorem okw_int {i : Int} (h : -1000 ≤ i ∧ i ≤ 1000) : OkW (.int i) := ⟨by show i.natAbs.log2 < 1920; exact log_lt (by omega), wordOk_int h⟩
theorem okw_str {x : Str} (h : WordOk x) : OkW (.str x) := ⟨trivial, h⟩
def wordB (x : Str) : Bool := decide (32 ∉ tl x) && decide (10 ∉ tl x) && decide (x.length ≤ 30)
theorem wordB_ok {x : Str} (h : wordB x = true) : WordOk x := by
  unfold wordB at h
  rw [Bool.and_eq_true, Bool.and_eq_true] at h
  exact ⟨of_decide_eq_true h.1.1, of_decide_eq_true h.1.2, of_decide_eq_true h.2⟩
theorem okw_hand : OkW (.str "hand") := okw_str (wordB_ok (by decide +kernel))
theorem okw_kind : OkW (.str "kind") := okw_str (wordB_ok (by decide +kernel))
theorem okw_rounds : OkW (.str "rounds") := okw_str (wordB_ok (by decide +kernel))
theorem okw_put : OkW (.str "put") := okw_str (wordB_ok (by decide +kernel))
theorem okw_see : OkW (.str "see") := okw_str (wordB_ok (by decide +kernel))
theorem okw_look : OkW (.str "look") := okw_str (wordB_ok (by decide +kernel))
theorem okw_hands : OkW (.str "hands") := okw_str (wordB_ok (by decide +kernel))
theorem okw_weaving : OkW (.str "weaving") := okw_str (wordB_ok (by decide +kernel))
theorem okw_dash : OkW (.str "-") := okw_str (wordB_ok (by decide +kernel))
theorem okw_kindOf (i : Inp) : OkW (.str i.kind) := by
  refine okw_str (wordB_ok ?_)
  cases i with
  | man k ss => show wordB k.s = true; cases k <;> decide +kernel
  | lev vs => show wordB "levels" = true; decide +kernel
  | nam vs => show wordB "names" = true; decide +kernel
  | near r vs => show wordB "near" = true; decide +kernel
  | cha vs => show wordB "chain" = true; decide +kernel
theorem deedW_ok {x : Deed} (h : x.ok) : ∀ d ∈ deedW x, OkW d := by
  cases x with
  | see => intro d hd; rw [List.mem_singleton.mp hd]; exact okw_see
  | put v =>
    intro d hd
    rcases List.mem_cons.mp hd with rfl | hd
    · exact okw_put
    · rw [List.mem_singleton.mp hd]
      have : v < 1000 := h
      exact okw_nat (by omega)
theorem deedW_len (x : Deed) : (deedW x).length ≤ 2 := by cases x <;> simp [deedW]
theorem flat_len : ∀ s : List Deed, (s.flatMap deedW).length ≤ 2 * s.length
  | [] => Nat.zero_le _
  | x :: s => by
    have := deedW_len x
    have := flat_len s
    rw [List.flatMap_cons, List.length_append, List.length_cons]
    omega
theorem rowW_ok {i : Inp} (h : i.ok) : ∀ l ∈ rowW i, l.length ≤ 20 ∧ ∀ d ∈ l, OkW d := by
  obtain ⟨_, h⟩ := h
  cases i with
  | man k ss =>
    intro l hl
    obtain ⟨s, hs, rfl⟩ := List.mem_map.mp hl
    obtain ⟨h1, h2⟩ := h s hs
    refine ⟨by have := flat_len s; omega, fun d hd => ?_⟩
    obtain ⟨x, hx, hd⟩ := List.mem_flatMap.mp hd
    exact deedW_ok (h2 x hx) d hd
  | lev vs =>
    intro l hl
    obtain ⟨v, hv, rfl⟩ := List.mem_map.mp hl
    have := h v hv
    exact ⟨show 1 ≤ 20 by decide, fun d hd => by rw [List.mem_singleton.mp hd]; exact okw_nat (by omega)⟩
  | nam vs =>
    intro l hl
    obtain ⟨v, hv, rfl⟩ := List.mem_map.mp hl
    have := h.1 v hv
    exact ⟨show 1 ≤ 20 by decide, fun d hd => by rw [List.mem_singleton.mp hd]; exact okw_nat (by omega)⟩
  | near r vs =>
    intro l hl
    obtain ⟨v, hv, rfl⟩ := List.mem_map.mp hl
    exact ⟨show 1 ≤ 20 by decide, fun d hd => by rw [List.mem_singleton.mp hd]; exact okw_int (h.2 v hv)⟩
  | cha ls =>
    intro l hl
    obtain ⟨s, hs, rfl⟩ := List.mem_map.mp hl
    refine ⟨by rw [List.length_map]; exact (h s hs).len, fun d hd => ?_⟩
    obtain ⟨n, hn, rfl⟩ := List.mem_map.mp hd
    have := (h s hs).2 n hn
    exact okw_nat (by omega)
theorem lineOk_cons {d : PyData} {l : List PyData} (h : OkW d) (hl : l.length ≤ 99) (hw : ∀ e ∈ l, OkW e) : LineOk (d :: l) := ⟨by simp, by rw [List.length_cons]; omega, fun e he => by
  rcases List.mem_cons.mp he with rfl | he
  · exact h
  · exact hw e he⟩
theorem plW_ok {i : Inp} (h : i.ok) : ∀ l ∈ plW i, LineOk l := by
  intro l hl
  rcases List.mem_cons.mp hl with rfl | hl
  · exact lineOk_cons okw_kind (show 1 ≤ 99 by decide) fun e he => by rw [List.mem_singleton.mp he]; exact okw_kindOf i
  · rcases List.mem_append.mp hl with hl | hl
    · cases i with
      | near r vs =>
        rw [List.mem_singleton.mp hl]
        have : 1 ≤ r ∧ r ≤ 6 := h.2.1
        exact lineOk_cons okw_rounds (show 1 ≤ 99 by decide) fun e he => by rw [List.mem_singleton.mp he]; exact okw_nat (by omega)
      | _ => cases hl
    · obtain ⟨r, hr, rfl⟩ := List.mem_map.mp hl
      obtain ⟨h1, h2⟩ := rowW_ok h r hr
      exact lineOk_cons okw_hand (by omega) h2
theorem rowW_len (i : Inp) : (rowW i).length = i.rows.length := by cases i <;> simp [rowW, Inp.rows]
theorem plW_len {i : Inp} (h : i.ok) : (plW i).length ≤ 7 := by
  have h1 := h.1.2
  have h2 : (headW i).length ≤ 1 := by cases i <;> simp [headW]
  unfold plW
  rw [List.length_cons, List.length_append, List.length_map, rowW_len]
  omega
/-! ### of a record -/
def optW : Option Nat → PyData
  | none => .str "-"
  | some n => natD n
def callW (c : Call) : List PyData := match c.what with
  | .put v => [.str "put", natD c.hand, natD v, natD c.b, optW c.e]
  | .look l => .str "look" :: natD c.hand :: natD c.b :: optW c.e :: l.map optW
def reW (m : Nat) (cs : List Call) : List (List PyData) := [.str "hands", natD m] :: cs.map callW
/-- all its numbers have twenty figures at most -/
def Call.short (c : Call) : Prop := c.b < 10 ^ 20 ∧ (∀ x, c.e = some x → x < 10 ^ 20) ∧ match c.what with
  | .put v => v < 10 ^ 20
  | .look l => ∀ x, some x ∈ l → x < 10 ^ 20
theorem okw_opt {o : Option Nat} (h : ∀ x, o = some x → x < 10 ^ 20) : OkW (optW o) := by
  cases o with
  | none => exact okw_dash
  | some n => exact okw_nat (h n rfl)
theorem callW_ok {m : Nat} {c : Call} (hm : m ≤ 8) (h : c.okAt m) (hs : c.short) : LineOk (callW c) := by
  obtain ⟨hand, what, b, e⟩ := c
  obtain ⟨h1, h2, h3⟩ := h
  obtain ⟨s1, s2, s3⟩ := hs
  have hh : hand < 10 ^ 20 := by have : hand < m := h1; omega
  cases what with
  | put v =>
    refine lineOk_cons okw_put (show 4 ≤ 99 by decide) fun d hd => ?_
    rcases List.mem_cons.mp hd with rfl | hd
    · exact okw_nat hh
    rcases List.mem_cons.mp hd with rfl | hd
    · exact okw_nat s3
    rcases List.mem_cons.mp hd with rfl | hd
    · exact okw_nat s1
    rw [List.mem_singleton.mp hd]
    exact okw_opt s2
  | look l =>
    have hl : l.length = m := h3.2
    refine lineOk_cons okw_look (by simp only [List.length_cons, List.length_map]; omega) fun d hd => ?_
    rcases List.mem_cons.mp hd with rfl | hd
    · exact okw_nat hh
    rcases List.mem_cons.mp hd with rfl | hd
    · exact okw_nat s1
    rcases List.mem_cons.mp hd with rfl | hd
    · exact okw_opt s2
    obtain ⟨o, ho, rfl⟩ := List.mem_map.mp hd
    exact okw_opt fun x e => s3 x (e ▸ ho)
theorem reW_ok {m : Nat} {cs : List Call} (h : RecOk m cs) (hs : ∀ c ∈ cs, c.short) : ∀ l ∈ reW m cs, LineOk l := by
  intro l hl
  rcases List.mem_cons.mp hl with rfl | hl
  · have := h.hi
    exact lineOk_cons okw_hands (show 1 ≤ 99 by decide) fun e he => by rw [List.mem_singleton.mp he]; exact okw_nat (by omega)
  · obtain ⟨c, hc, rfl⟩ := List.mem_map.mp hl
    exact callW_ok h.hi (h.each c hc) (hs c hc)
end K32
/-! Rules for what is read: the first item taken, two names at once. -/
namespace K32
open PySem PySem.Spec PyProof.Rows L2 TL
section
variable {B : Bx} {H H' H1 : Hp} {σ : L2.St} {δ : Dn} {te ta tb : TE} {S P R : Sv → Prop} {tt : TT} {t u w : TS} {N M : PD} {i j : Nat} {d : PyData} {ds : List PyData}
/-- xs.pop(0), xs of the def's own -/
theorem pop0 (st : StB B H σ δ) (hi : δ[i]? = some (some (.own (d :: ds)))) {Q : VK} (k : ∀ v H', DT B.K H' v d → Hands B.hd H' → StB B H' σ (δ.set i (some (.own ds))) → Q v H') : tBM B.K "list" rPopAt (tVar i) (tCons (tC (.int 0)) tNil) σ H Q := by
  obtain ⟨v, e, a, xs, rfl, n, q, t⟩ := st.ok i _ hi
  cases t with
  | @cons x xs _ _ o t =>
    refine ⟨_, e, .inl ⟨rfl, x :: xs, SqL.of q⟩, ⟨a, x :: xs, 0, 0, x, rfl, rfl, q, by decide, by decide, ?_, rfl, ?_⟩⟩
    · unfold seqIndex?
      simp
    · have st2 := st.upd_own hi e t
      have hT : ∀ c ys, SqT B.K H c ys → SqT B.K (upd H a (.lst xs)) c ys := fun _ _ => sqT_updL q
      exact k x _ (DT.mono hT _ _ o) st2.hh st2
theorem q_pop (hi : δ[i]? = some (some (.own (d :: ds)))) (hij : i ≠ j) (k : SX B u ((δ.set i (some (.own ds))).set j (some (.dat d))) N) : SX B (tSeq (tAsg (tBM B.K "list" rPopAt (tVar i) (tCons (tC (.int 0)) tNil)) (gName j)) u) δ N := fun σ H st D g =>
  pop0 st hi fun v H' o hh st2 => k _ _ (st2.set j (s := .dat d) o rfl) D g
/-- y = f(xs.pop(0)) if c else None, c true -/
theorem q_popCall {α : Type} {arg : α → List Sv} {pre : α → Prop} {res : α → Sv → Prop} {E : XK} (a : α) {e : PyData} (hi : δ[i]? = some (some (.own (d :: ds)))) (ht : EvT B tt δ (· = true)) (ha : arg a = [.dat d]) (hp : pre a) (hr : ∀ s, res a s → s = .dat e) (k : SX B u ((δ.set i (some (.own ds))).set j (some (.dat e))) N) :
    SX B (tSeq (tAsg (tIf tt (tCall (spS B.K arg pre res) [] E (tCons (tBM B.K "list" rPopAt (tVar i) (tCons (tC (.int 0)) tNil)) tNil)) tb) (gName j)) u) δ N := fun σ H st D g => ht σ H st _ fun b H1 r1 hh1 p1 => by
  subst p1
  refine iteT (pop0 (st.mono r1 hh1) hi fun v H2 o hh2 st2 => ?_)
  show spS B.K arg pre res ([v] ++ []) H2 _ E
  refine ⟨a, by rw [ha]; exact .cons (SvOk.bare (hd := B.hd) (s := .dat d) o) .nil, hp, fun x H3 s sm o3 f rs => ?_⟩
  have es := hr s rs
  subst es
  exact k _ _ ((st2.mono (.same sm) (st2.hh.same sm)).set j (s := .dat e) (o3.of_bare fun hl _ _ => by cases hl) rfl) D g
/-- a, b = x, y -/
theorem q_par {s1 s2 : Sv} (h1 : EvS B ta δ (· = s1)) (h2 : EvS B tb δ (· = s2)) (l1 : s1.isL = false) (l2 : s2.isL = false) (k : SX B u ((δ.set i (some s1)).set j (some s2)) N) : SX B (tSeq (tPar i j (tCons ta (tCons tb tNil))) u) δ N := fun σ H st D g =>
  h1 σ H st _ fun v H1 s r1 hh1 o1 e1 => by
    subst e1
    refine h2 σ H1 (st.mono r1 hh1) _ fun w H2 s' r2 hh2 o2 e2 => ?_
    subst e2
    have st2 := (st.mono r1 hh1).mono r2 hh2
    exact ⟨v, w, rfl, k _ _ ((st2.set i (o1.mono hh1 r2) l1).set j o2 l2) D g⟩
theorem q_parL {s1 : Sv} {es : List PyData} (h1 : EvS B ta δ (· = s1)) (h2 : EvL B tb δ (· = es)) (l1 : s1.isL = false) (hij : i ≠ j) (k : SX B u ((δ.set i (some s1)).set j (some (.own es))) N) : SX B (tSeq (tPar i j (tCons ta (tCons tb tNil))) u) δ N := fun σ H st D g =>
  h1 σ H st _ fun v H1 s r1 hh1 o1 e1 => by
    subst e1
    refine h2 σ H1 (st.mono r1 hh1) _ fun a xs ds H2 r2 hh2 ha hl t e2 => ?_
    subst e2
    have st1 := ((st.mono r1 hh1).set i o1 l1)
    exact ⟨v, _, rfl, k _ _ (st1.set_new j ha r2 hh2 hl t) D g⟩
end
/-! ### strings that may stand in data -/
theorem strOk_small {x : Str} (h : ∀ c ∈ tl x, c < 128) : PyData.strOk x = true := by
  unfold PyData.strOk
  rw [← Array.all_toList, List.all_eq_true]
  intro c hc
  have := h c hc
  exact decide_eq_true (by omega)
theorem ok_num (n : Nat) : PyData.strOk (num n) = true := strOk_small fun c hc => by
  rw [tl_n] at hc
  have := numL_digits n c hc
  omega
theorem num_ne {n : Nat} {x : Str} (h : ∃ c ∈ tl x, c < 48 ∨ 57 < c) : num n ≠ x := fun e => by
  obtain ⟨c, hc, hb⟩ := h
  rw [← e, tl_n] at hc
  exact numL_free hb hc
end K32
/-! Rules for a reader: an instance that holds a list of lines and a number, which changes. -/
namespace K32
open PySem PySem.Spec PyProof.Rows L2 TL
def rdF (q : Addr) (k : Nat) : List (Str × V) := [("lines_told", .ref q), ("at", .int (k : Nat))]
abbrev rdO (C dx q : Addr) (k : Nat) : HO := .ins C dx (rdF q k)
theorem seq_al : (("at" : Str) == "lines_told") = false := by decide +kernel
theorem rdF_at (q : Addr) (k : Nat) : (rdF q k).lookup ("at" : Str) = some (.int (k : Nat)) := by rw [rdF, List.lookup_cons, seq_al, List.lookup_cons, seq_self]
theorem rdF_lines (q : Addr) (k : Nat) : (rdF q k).lookup ("lines_told" : Str) = some (.ref q) := by rw [rdF, List.lookup_cons, seq_self]
theorem rdF_no {q : Addr} {k : Nat} {m : Str} (h1 : (m == "lines_told") = false) (h2 : (m == "at") = false) : (rdF q k).lookup m = none := by rw [rdF, List.lookup_cons, h1, List.lookup_cons, h2]; rfl
theorem at_ne : ¬ (("lines_told" : Str) = "at") := by decide +kernel
theorem rdF_put (q : Addr) (k n : Nat) : putF "at" (.int (n : Nat)) (rdF q k) = rdF q n := by
  show (if ("lines_told" : Str) = "at" then _ else (("lines_told" : Str), V.ref q) :: (if ("at" : Str) = "at" then (("at" : Str), V.int (n : Nat)) :: [] else _)) = _
  rw [if_neg at_ne, if_pos rfl]
  rfl
def calmBut (δ : Dn) (i : Nat) : Prop := ∀ (j : Nat) (s : Sv), j ≠ i → δ[j]? = some (some s) → s.calm = true
/-- what a method of a reader promises -/
def spR (K : PySem.W.Frag) (C : Addr) {α : Type} (arg : α → List Sv) (pre : α → List Str → Nat → Prop) (res : α → List Str → Nat → Nat → Sv → Prop) : Sp := fun vs H Q _ => ∃ (a : α) (p dx q : Addr) (ls : List Str) (k : Nat) (ws : List V), vs = .ref p :: ws ∧ H p = some (rdO C dx q k) ∧ H q = some (.lst (ls.map V.str)) ∧ Paired (SvOk K none H) ws (arg a) ∧ pre a ls k ∧
  ∀ v H' s k', (∀ b o, b ≠ p → H b = some o → H' b = some o) → H' p = some (rdO C dx q k') → SvOk K none H' v s → Fresh H v s → res a ls k k' s → Q v H'
/-- an expression that may change what a slot's object holds -/
def EvM (B : Bx) (te : TE) (δ : Dn) (R : Sv → Dn → Prop) : Prop := ∀ σ H, StB B H σ δ → ∀ Q : VK, (∀ v H' s δ', StB B H' σ δ' → SvOk B.K B.hd H' v s → s.isL = false → R s δ' → Q v H') → te σ H Q
section
variable {B : Bx} {H H' H1 : Hp} {σ : L2.St} {δ : Dn} {te ta tb : TE} {S P : Sv → Prop} {R : Sv → Dn → Prop} {tt : TT} {t u w : TS} {N M : PD} {i j : Nat} {C p dx q : Addr} {k : Nat} {ls : List Str}
theorem evs_rdA (hc : Cls B.K C) (hn : NoAttr B.K C "at") (hi : δ[i]? = some (some (.obj p (rdO C dx q k)))) : EvS B (tFld B.K (tVar i) "at") δ (Is (natD k)) := fun σ H st Q kk => by
  obtain ⟨v, e, rfl, hp, _⟩ := st.ok i _ hi
  exact ⟨_, e, p, C, dx, _, _, rfl, hp, hc, hn, rdF_at q k, kk.dat .refl st.hh (DT.int _) rfl⟩
theorem evs_rdL (hc : Cls B.K C) (hn : NoAttr B.K C "lines_told") (hg : (V.ref q, Sv.lst (ls.map PyData.str)) ∈ B.gh) (hi : δ[i]? = some (some (.obj p (rdO C dx q k)))) : EvS B (tFld B.K (tVar i) "lines_told") δ (· = .lst (ls.map PyData.str)) := fun σ H st Q kk => by
  obtain ⟨v, e, rfl, hp, _⟩ := st.ok i _ hi
  exact ⟨_, e, p, C, dx, _, _, rfl, hp, hc, hn, rdF_lines q k, kk _ _ (.lst (ls.map PyData.str)) .refl st.hh (st.gh _ _ hg rfl) rfl⟩
theorem evm_meth {α : Type} {arg : α → List Sv} {pre : α → List Str → Nat → Prop} {res : α → List Str → Nat → Nat → Sv → Prop} {E : XK} {m : Str} {ta : TA} (a : α) (h0 : B.H0 p = none) (hg : (V.ref q, Sv.lst (ls.map PyData.str)) ∈ B.gh) (hi : δ[i]? = some (some (.obj p (rdO C dx q k)))) (hc : calmBut δ i)
    (h1 : (m == "lines_told") = false) (h2 : (m == "at") = false) (ha : EvA B ta δ (· = arg a)) (hp : pre a ls k) (hs : ∀ k' s, res a ls k k' s → s.isL = false) :
    EvM B (tMeth C m (spR B.K C arg pre res) [] E (tVar i) ta) δ (fun s δ' => ∃ k', res a ls k k' s ∧ δ' = δ.set i (some (.obj p (rdO C dx q k')))) := fun σ H st Q kk => by
  obtain ⟨v, e, rfl, hp1, _⟩ := st.ok i _ hi
  refine ⟨_, e, p, dx, _, rfl, hp1, rdF_no h1 h2, ha σ H st _ fun vs H2 ss r2 hh2 o2 e2 => ?_⟩
  subst e2
  have st2 := st.mono r2 hh2
  obtain ⟨v, e', rfl, hp2, _⟩ := st2.ok i _ hi
  obtain ⟨b, xs, eb, _, hq, t⟩ := st2.gh _ _ hg rfl
  cases eb
  have ex : xs = ls.map V.str := DTs.strs t
  subst ex
  refine ⟨a, p, dx, q, ls, k, vs, by rw [List.append_nil], hp2, hq, paired_imp o2 fun _ _ => SvOk.bare, hp, fun v H' s k' mm hp' o f rs => ?_⟩
  have st3 := st2.put h0 hi rfl mm hp' hc
  exact kk v H' s _ st3 (o.of_bare fun hl _ _ => by rw [hs k' s rs] at hl; cases hl) (hs k' s rs) ⟨k', rs, rfl⟩
/-- one that changes nothing -/
theorem meth_same {α : Type} {arg : α → List Sv} {pre : α → List Str → Nat → Prop} {res : α → List Str → Nat → Nat → Sv → Prop} {E : XK} {m : Str} {ta : TA} (a : α) (hg : (V.ref q, Sv.lst (ls.map PyData.str)) ∈ B.gh) (hi : δ[i]? = some (some (.obj p (rdO C dx q k))))
    (h1 : (m == "lines_told") = false) (h2 : (m == "at") = false) (ha : EvA B ta δ (· = arg a)) (hp : pre a ls k) (hs : ∀ k' s, res a ls k k' s → k' = k) (st : StB B H σ δ) {Q : VK} (kk : ∀ v H' s, Rel B.hd H H' → Hands B.hd H' → SvOk B.K none H' v s → Fresh H v s → res a ls k k s → Q v H') : tMeth C m (spR B.K C arg pre res) [] E (tVar i) ta σ H Q := by
  obtain ⟨v, e, rfl, hp1, _⟩ := st.ok i _ hi
  refine ⟨_, e, p, dx, _, rfl, hp1, rdF_no h1 h2, ha σ H st _ fun vs H2 ss r2 hh2 o2 e2 => ?_⟩
  subst e2
  have st2 := st.mono r2 hh2
  obtain ⟨v, e', rfl, hp2, _⟩ := st2.ok i _ hi
  obtain ⟨b, xs, eb, _, hq, t⟩ := st2.gh _ _ hg rfl
  cases eb
  have ex : xs = ls.map V.str := DTs.strs t
  subst ex
  refine ⟨a, p, dx, q, ls, k, vs, by rw [List.append_nil], hp2, hq, paired_imp o2 fun _ _ => SvOk.bare, hp, fun v H' s k' mm hp' o f rs => ?_⟩
  have ek := hs k' s rs
  subst ek
  have sm : Same H2 H' := fun b u eb => by
    by_cases hb : b = p
    · rw [hb, hp2] at eb; cases eb; rw [hb]; exact hp'
    · exact mm b u hb eb
  refine kk v H' s (r2.trans (.same sm)) (hh2.same sm) o (fun hl c e => ?_) rs
  exact free_back hh2 r2 (f hl c e)
theorem evs_meth {α : Type} {arg : α → List Sv} {pre : α → List Str → Nat → Prop} {res : α → List Str → Nat → Nat → Sv → Prop} {E : XK} {m : Str} {ta : TA} (a : α) (hg : (V.ref q, Sv.lst (ls.map PyData.str)) ∈ B.gh) (hi : δ[i]? = some (some (.obj p (rdO C dx q k))))
    (h1 : (m == "lines_told") = false) (h2 : (m == "at") = false) (ha : EvA B ta δ (· = arg a)) (hp : pre a ls k) (hs : ∀ k' s, res a ls k k' s → k' = k ∧ P s) : EvS B (tMeth C m (spR B.K C arg pre res) [] E (tVar i) ta) δ P := fun σ H st Q kk =>
  meth_same a hg hi h1 h2 ha hp (fun k' s r => (hs k' s r).1) st fun v H' s r hh o f rs => kk v H' s r hh (o.of_bare fun hl a e => st.hh.ne_free (f hl a e)) (hs k s rs).2
theorem evl_meth {L : List PyData → Prop} {α : Type} {arg : α → List Sv} {pre : α → List Str → Nat → Prop} {res : α → List Str → Nat → Nat → Sv → Prop} {E : XK} {m : Str} {ta : TA} (a : α) (hg : (V.ref q, Sv.lst (ls.map PyData.str)) ∈ B.gh) (hi : δ[i]? = some (some (.obj p (rdO C dx q k))))
    (h1 : (m == "lines_told") = false) (h2 : (m == "at") = false) (ha : EvA B ta δ (· = arg a)) (hp : pre a ls k) (hs : ∀ k' s, res a ls k k' s → k' = k ∧ ∃ ds, s = .lst ds ∧ L ds) : EvL B (tMeth C m (spR B.K C arg pre res) [] E (tVar i) ta) δ L := fun σ H st Q kk =>
  meth_same a hg hi h1 h2 ha hp (fun k' s r => (hs k' s r).1) st fun v H' s r hh o f rs => by
    obtain ⟨_, ds, e, l⟩ := hs k s rs
    subst e
    obtain ⟨b, xs, rfl, _, hl, t⟩ := o
    exact kk b xs ds H' r hh (f rfl b rfl) hl t l
theorem EvS.evm (h : EvS B te δ P) (hs : ∀ s, P s → s.isL = false) : EvM B te δ (fun s δ' => P s ∧ δ' = δ) := fun σ H st Q k => h σ H st _ fun v H1 s r1 h1 o1 p1 => k v H1 s δ (st.mono r1 h1) o1 (hs s p1) ⟨p1, rfl⟩
theorem EvM.imp {R' : Sv → Dn → Prop} (h : EvM B te δ R) (f : ∀ s δ', R s δ' → R' s δ') : EvM B te δ R' := fun σ H st Q k => h σ H st _ fun v H1 s δ' st' o l r => k v H1 s δ' st' o l (f s δ' r)
theorem evm_if {b : Bool} (h : EvT B tt δ (· = b)) (h1 : b = true → EvM B ta δ R) (h2 : b = false → EvM B tb δ R) : EvM B (tIf tt ta tb) δ R := fun σ H st Q k => h σ H st _ fun c H1 r1 hh1 p1 => by
  subst p1
  cases c with
  | true => exact iteT (h1 rfl σ H1 (st.mono r1 hh1) Q k)
  | false => exact iteF (h2 rfl σ H1 (st.mono r1 hh1) Q k)
/-- y = e; y[0] of what is a tuple of one -/
theorem evm_ix0 {G : PyData → Dn → Prop} (h : EvM B te δ (fun s δ' => ∃ d, s = .dat (.tuple [d]) ∧ G d δ')) : EvM B (tOp (rIxT B.K) te (tC (.int 0))) δ (fun s δ' => ∃ d, s = .dat d ∧ G d δ') := fun σ H st Q k => h σ H st _ fun v H1 s δ' st' o l ⟨d, e, g⟩ => by
  subst e
  obtain ⟨a, xs, rfl, sq, t⟩ := DT.tup_inv o
  cases t with
  | cons ox t =>
    cases t
    exact ⟨a, _, 0, _, rfl, rfl, sq, rfl, k _ _ (.dat d) δ' st' ox rfl ⟨d, rfl, g⟩⟩
theorem q_asgM (h : EvM B te δ R) (k : ∀ s δ', R s δ' → SX B u (δ'.set j (some s)) N) : SX B (tSeq (tAsg te (gName j)) u) δ N := fun σ H st D g => h σ H st _ fun v H1 s δ' st' o l r => k s δ' r _ _ (st'.set j o l) D g
theorem q_dropM (h : EvM B te δ R) (k : ∀ s δ', R s δ' → SX B u δ' N) : SX B (tSeq (tDrop te) u) δ N := fun σ H st D g => h σ H st _ fun v H1 s δ' st' o l r => k s δ' r _ _ st' D g
/-- y = [e] -/
theorem q_lstM {G : PyData → Dn → Prop} (h : EvM B te δ (fun s δ' => ∃ d, s = .dat d ∧ G d δ')) (k : ∀ d δ', G d δ' → SX B u (δ'.set j (some (.own [d]))) N) : SX B (tSeq (tAsg (tLst (tCons te tNil)) (gName j)) u) δ N := fun σ H st D g => h σ H st _ fun v H1 s δ' st' o l ⟨d, e, r⟩ => by
  subst e
  refine ⟨(by show 1 ≤ sizeLine; decide), fun a ha => ?_⟩
  have r2 : Rel B.hd H1 (upd H1 a (.lst [v])) := .new ha
  exact k d δ' r _ _ (st'.set_new j ha r2 (st'.hh.new ha) upd_same (.cons (DT.mono (fun _ _ => sqT_rel st'.hh r2) _ _ o) .nil)) D g
/-- xs.append(e), last in a loop's body -/
theorem sx_appM {G : PyData → Dn → Prop} {ds : List PyData} (hi : δ[j]? = some (some (.own ds))) (h : EvM B te δ (fun s δ' => ∃ d, s = .dat d ∧ G d δ')) (hj : ∀ d δ', G d δ' → δ'[j]? = some (some (.own ds))) (hz : ds.length ≤ 1000000) (k : ∀ d δ', G d δ' → N.nx (δ'.set j (some (.own (ds ++ [d]))))) :
    SX B (tDrop (tBM B.K "list" rAppend (tVar j) (tCons te tNil))) δ N := fun σ H st D g => by
  obtain ⟨v, e, a, xs, rfl, n, q, t⟩ := st.ok j _ hi
  refine ⟨_, e, .inl ⟨rfl, xs, SqL.of q⟩, h σ H st _ fun w H1 s δ' st1 o1 l1 ⟨d, p1, p2⟩ => ?_⟩
  subst p1
  have hj1 := hj d δ' p2
  obtain ⟨v1, e1, a1, xs1, rfl, n1, q1, t1⟩ := st1.ok j _ hj1
  rw [e] at e1
  cases e1
  refine ⟨a, xs1, w, rfl, rfl, q1, by rw [t1.length]; exact Nat.lt_of_le_of_lt hz (by decide), ?_⟩
  exact g.nx _ _ _ (st1.upd_own hj1 e (t1.append (.cons o1 .nil))) (k d δ' p2)
end
/-! ### bodies of a reader's methods -/
def BX (B : Bx) (C p dx q : Addr) (t : TS) (δ : Dn) (R : Nat → Sv → Prop) : Prop := ∀ σ H, StB B H σ δ → ∀ D : Ends, (∀ v H' s σ' δ' k', StB B H' σ' δ' → δ'[0]? = some (some (.obj p (rdO C dx q k'))) → SvOk B.K B.hd H' v s → Fresh B.H0 v s → R k' s → D.rt v H') →
  (∀ σ' H' δ' k', StB B H' σ' δ' → δ'[0]? = some (some (.obj p (rdO C dx q k'))) → R k' (.dat .none) → D.nx σ' H') → t D σ H
section
variable {B : Bx} {δ : Dn} {te : TE} {tt : TT} {t u w : TS} {C p dx q : Addr} {k : Nat} {R : Nat → Sv → Prop}
theorem bx_seq {G : Dn → Prop} (h : SX B t δ { nx := G }) (k : ∀ δ', G δ' → BX B C p dx q u δ' R) : BX B C p dx q (tSeq t u) δ R := fun σ H st D h1 h2 => raw_seq h st fun σ' H' δ' st' g => k δ' g σ' H' st' D h1 h2
theorem bx_no (h : EvT B tt δ (· = false)) (k : BX B C p dx q u δ R) : BX B C p dx q (tSeq (tIfS tt t tNext) u) δ R := fun σ H st D h1 h2 => raw_if h st fun H1 st1 => k σ H1 st1 D h1 h2
theorem bx_end (h : EvT B tt δ (· = false)) (h0 : δ[0]? = some (some (.obj p (rdO C dx q k)))) (r : R k (.dat .none)) : BX B C p dx q (tIfS tt t tNext) δ R := fun σ H st D h1 h2 => h σ H st _ fun b H1 r1 hh1 e => by
  subst e
  exact iteF (h2 σ H1 δ k (st.mono r1 hh1) h0 r)
theorem bx_ret {s : Sv} (h : EvS B te δ (· = s)) (hs : s.isL = false) (h0 : δ[0]? = some (some (.obj p (rdO C dx q k)))) (r : R k s) : BX B C p dx q (tRet te) δ R := fun σ H st D h1 h2 => h σ H st _ fun v H1 s r1 hh1 o e => by
  subst e
  exact h1 v H1 s σ δ k (st.mono r1 hh1) h0 o (fun q => by rw [hs] at q; cases q) r
theorem bx_retL {L : List PyData → Prop} (h : EvL B te δ L) (h0 : δ[0]? = some (some (.obj p (rdO C dx q k)))) (r : ∀ ds, L ds → R k (.lst ds)) : BX B C p dx q (tRet te) δ R := fun σ H st D h1 h2 => h σ H st _ fun a xs ds H1 r1 hh1 ha hl t l =>
  h1 _ H1 (.lst ds) σ δ k (st.mono r1 hh1) h0 ⟨a, xs, rfl, st.hh.ne_free ha, hl, t⟩ (fun _ b e => by cases e; exact st.h0_free ha) (r ds l)
theorem bx_retM (h : EvM B te δ (fun s δ' => ∃ k', δ'[0]? = some (some (.obj p (rdO C dx q k'))) ∧ R k' s)) : BX B C p dx q (tRet te) δ R := fun σ H st D h1 h2 => h σ H st _ fun v H1 s δ' st' o l ⟨k', e, r⟩ => h1 v H1 s σ δ' k' st' e o (fun q => by rw [l] at q; cases q) r
/-- self.at += 1 -/
theorem bx_inc (hc : Cls B.K C) (hn : NoAttr B.K C "at") (h0 : B.H0 p = none) (hi : δ[0]? = some (some (.obj p (rdO C dx q k)))) (hcm : calmBut δ 0) (kk : BX B C p dx q u (δ.set 0 (some (.obj p (rdO C dx q (k + 1))))) R) : BX B C p dx q (tSeq (sFldAug B.K (tVar 0) (tC (.int 1)) rAdd "at") u) δ R := fun σ H st D h1 h2 => by
  obtain ⟨v, e, rfl, hp, _⟩ := st.ok 0 _ hi
  refine ⟨_, e, p, C, dx, _, _, rfl, hp, hc, hn, rdF_at q k, ?_⟩
  refine ⟨(k : Int), 1, rfl, rfl, dx, _, hp, (by show 2 < 1000; decide), ?_⟩
  have e2 : ((k : Int) + 1) = ((k + 1 : Nat) : Int) := by omega
  rw [e2, rdF_put]
  exact kk _ _ (st.put h0 hi rfl (fun b u hb e => by rw [upd_ne hb]; exact e) upd_same hcm) D h1 h2
end
section
variable {P : Program} {w : World} {K : PySem.W.Frag} {mg : Str → Option Value} {base : Heap}
/-- the slots and the ghosts of a method's body -/
abbrev rdB (K : PySem.W.Frag) (H : Hp) (p q : Addr) (ls : List Str) : Bx := ⟨K, none, fun b => if b = p then none else H b, [(V.ref q, Sv.lst (ls.map PyData.str))]⟩
theorem fnR {m qual : Str} {st : Stmt} {f C : Addr} {fd : FuncData} {N ps : List Str} {k : Nat} {α : Type} {arg : α → List Sv} {pre : α → List Str → Nat → Prop} {res : α → List Str → Nat → Nat → Sv → Prop} (F : FunD K m qual (defArgs st) (defBody st) (defScope st) [] [] f fd) (S : FnScope N ps (defScope st))
    (hl : ∀ a, (arg a).length + 1 = ps.length) (hno : ∀ a, ∀ s ∈ arg a, ∀ ds, s ≠ .own ds) (hcm : ∀ a, ∀ s ∈ arg a, s.calm = true)
    (hbody : ∀ (cdv : Value) (A : Around) (outer : List Env) (s : Shared) (H : Hp) (E : XK) (a : α) (p dx q : Addr) (ls : List Str) (n : Nat), Room k (A.deeper (envOfC qual (defScope st) s.heap.objs.size f cdv)) → pre a ls n →
      ∃ t, PSs (cxOf CX0 P w K mg base N qual (defScope st) f cdv A outer s H E).nox (defBody st) t ∧ BX (rdB K H p q ls) C p dx q t (slots N (.obj p (rdO C dx q n) :: arg a)) (res a ls n)) :
    FnOk P w K mg base CX0 (k + 1) f fd ps (spR K C arg pre res) := by
  refine F.ok S (fun vs H Q E h => ?_) (fun cdv A outer s H vs Q E hr h => ?_)
  · obtain ⟨a, p, dx, q, ls, n, ws, rfl, _, _, o, _⟩ := h
    rw [List.length_cons, paired_len o, hl]
  · obtain ⟨a, p, dx, q, ls, n, ws, rfl, hp, hq, o, pa, hk⟩ := h
    obtain ⟨t, h1, h2⟩ := hbody cdv A outer s H E a p dx q ls n hr pa
    have nq : q ≠ p := fun z => by rw [z, hp] at hq; cases hq
    have st0 : StB ⟨K, none, H, []⟩ H (start N (.ref p :: ws)) (slots N (.obj p (rdO C dx q n) :: arg a)) := stb_start .of_none (.cons ⟨rfl, hp, rfl⟩ o) fun s m ds => by
      rcases List.mem_cons.mp m with rfl | m
      · intro z; cases z
      · exact hno a s m ds
    have noown : ∀ (i : Nat) (ds : List PyData), (slots N (.obj p (rdO C dx q n) :: arg a))[i]? ≠ some (some (.own ds)) := fun i ds e => by
      have m := List.mem_of_getElem? (getApp e)
      rcases List.mem_cons.mp m with z | m
      · cases z
      · exact hno a _ m ds rfl
    have st : StB (rdB K H p q ls) H (start N (.ref p :: ws)) (slots N (.obj p (rdO C dx q n) :: arg a)) := by
      refine ⟨fun c u _ e => ?_, .of_none, .of_none, st0.len, st0.ok, fun v s m c => ?_, fun i ds a e1 e2 => absurd e1 (noown i ds)⟩
      · have e' : (if c = p then none else H c) = some u := e
        by_cases hc : c = p
        · rw [if_pos hc] at e'; cases e'
        · rw [if_neg hc] at e'; exact e'
      · rw [List.mem_singleton] at m; cases m
        exact ⟨q, _, rfl, fun _ _ z => (nomatch z), hq, DTs.of_strs ls⟩
    have back : ∀ {H' : Hp}, Rel none (rdB K H p q ls).H0 H' → ∀ b o, b ≠ p → H b = some o → H' b = some o := fun r b o hb e => r b o (fun _ _ z => nomatch z) (by show (if b = p then none else H b) = _; rw [if_neg hb]; exact e)
    refine ⟨t, PSs.nox h1, h2 _ _ st _ (fun v H' s σ' δ' k' st' e0 o' f r => ?_) fun σ' H' δ' k' st' e0 r => ?_⟩
    · obtain ⟨v0, f0, rfl, hp', _⟩ := st'.ok 0 _ e0
      refine hk v H' s k' (back st'.rel) hp' o' (fun hl b eb => ?_) r
      have z : (if b = p then none else H b) = none := f hl b eb
      by_cases hb : b = p
      · subst hb eb
        obtain ⟨b', xs, e', hb'⟩ := o'.isL_at hl
        cases e'
        rw [hp'] at hb'; cases hb'
      · rw [if_neg hb] at z; exact z
    · obtain ⟨v0, f0, rfl, hp', _⟩ := st'.ok 0 _ e0
      exact hk .non H' (.dat .none) k' (back st'.rel) hp' DT.non (fun q => by cases q) r
end
end K32
/-! Rules for comprehensions of which only a property is told. -/
namespace K32
open PySem PySem.Spec PyProof.Rows L2
section
variable {B : Bx} {δ : Dn} {te ta : TE} {tt : TT} {wi : TI} {g : TG} {i j : Nat} {ds : List PyData} {Q : PyData → Prop}
theorem evl_enumP (h : EvS B ta δ (Is (.tuple ds))) (hz : ds.length ≤ 1000000) (he : ∀ γ k (hk : k < ds.length), ∃ P : Bool → Prop, EvT (B.add γ) tt (putL [i, j] [.int (k : Nat), ds[k]] (wipeD δ [i, j])) P ∧ (P true → EvS (B.add γ) te (putL [i, j] [.int (k : Nat), ds[k]] (wipeD δ [i, j])) (fun s => ∃ d, s = .dat d ∧ Q d))) :
    EvL B (tLc (iEnumT B.K (tCons ta tNil)) (gTup B.K 2 (gNames [i, j])) tt te [i, j]) δ (fun out => out.length ≤ ds.length ∧ ∀ d ∈ out, Q d) := evl_lc (evi_enumT1 h) fun n put e => by
  obtain ⟨e1, e2⟩ := e
  subst e1 e2
  refine ⟨hz, fun k acc => acc.length ≤ k ∧ ∀ d ∈ acc, Q d, ⟨Nat.le_refl _, fun d hd => (nomatch hd)⟩, fun γ k acc hk ga => ?_, fun acc ga => ga⟩
  obtain ⟨P, h1, h2⟩ := he γ k hk
  have ed : ds.getD k .none = ds[k] := getD_of (List.getElem?_eq_getElem hk)
  refine ⟨P, ?_, fun p => ?_, fun p => ⟨Nat.le_succ_of_le ga.1, ga.2⟩⟩
  · show EvT _ tt (putL [i, j] [.int (k : Nat), ds.getD k .none] (wipeD δ [i, j])) P
    rw [ed]; exact h1
  · show EvS _ te (putL [i, j] [.int (k : Nat), ds.getD k .none] (wipeD δ [i, j])) _
    rw [ed]
    refine (h2 p).imp fun s ⟨d, e, q⟩ => ⟨d, e, by rw [List.length_append]; exact Nat.succ_le_succ ga.1, fun x hx => ?_⟩
    rcases List.mem_append.mp hx with hx | hx
    · exact ga.2 x hx
    · rw [List.mem_singleton.mp hx]; exact q
theorem evl_eachP (h : EvY B wi δ g j ds) (hz : ds.length ≤ 1000000) (he : ∀ γ k (hk : k < ds.length), ∃ P : Bool → Prop, EvT (B.add γ) tt ((wipeD δ [j]).set j (some (.dat ds[k]))) P ∧ (P true → EvS (B.add γ) te ((wipeD δ [j]).set j (some (.dat ds[k]))) (fun s => ∃ d, s = .dat d ∧ Q d))) :
    EvL B (tLc wi g tt te [j]) δ (fun out => out.length ≤ ds.length ∧ ∀ d ∈ out, Q d) := evl_lc h fun n put e => by
  obtain ⟨e1, e2⟩ := e
  subst e1 e2
  refine ⟨hz, fun k acc => acc.length ≤ k ∧ ∀ d ∈ acc, Q d, ⟨Nat.le_refl _, fun d hd => (nomatch hd)⟩, fun γ k acc hk ga => ?_, fun acc ga => ga⟩
  obtain ⟨P, h1, h2⟩ := he γ k hk
  have ed : putN j ds k (wipeD δ [j]) = (wipeD δ [j]).set j (some (.dat ds[k])) := by
    unfold putN
    rw [show ds.getD k .none = ds[k] from getD_of (List.getElem?_eq_getElem hk)]
  refine ⟨P, by rw [ed]; exact h1, fun p => ?_, fun p => ⟨Nat.le_succ_of_le ga.1, ga.2⟩⟩
  rw [ed]
  refine (h2 p).imp fun s ⟨d, e, q⟩ => ⟨d, e, by rw [List.length_append]; exact Nat.succ_le_succ ga.1, fun x hx => ?_⟩
  rcases List.mem_append.mp hx with hx | hx
  · exact ga.2 x hx
  · rw [List.mem_singleton.mp hx]; exact q
/-- a test of which nothing is asked -/
theorem evt_any {b : Bool} (h : EvS B te δ (Is (.bool b))) : EvT B (tTest te) δ (fun _ => True) := (evt_test h).imp fun _ _ => trivial
theorem evs_ixD {k : Nat} {d : PyData} (ha : EvS B ta δ (Is (.tuple ds))) (hb : EvS B te δ (Is (natD k))) (h : ds[k]? = some d) : EvS B (tOp (rIxT B.K) ta te) δ (Is d) := evs_ixT ha hb (by rw [atI_nat]; exact h)
theorem evs_tupQ {t : TA} {ds : List PyData} {S : Sv → Prop} (h : EvA B t δ (· = ds.map Sv.dat)) (hz : ds.length ≤ 1000) (q : S (.dat (.tuple ds))) : EvS B (tTup t) δ S := (evs_tup h hz).imp fun s e => by rw [e]; exact q
end
end K32
/-! Walks: records. -/
namespace K32
open PySem PySem.Spec PyProof.Rows L2
local macro_rules | `(tactic| walk_at "ev") => `(tactic| first
  | exact evs_var rfl | exact evs_own rfl | exact evs_int | exact evs_str | exact evs_bl | exact evs_non
  | exact eva_nil | (apply eva_c <;> walk_at "ev")
  | exact evs_isi (evs_var rfl) rfl kit_int_int | exact evs_isi (evs_var rfl) rfl kit_int_bool | exact evs_isi (evs_var rfl) rfl kit_tuple_tuple | exact evs_isi (evs_var rfl) rfl kit_str_str
  | exact evs_ixT (evs_var rfl) evs_int rfl
  | (apply evs_I0 <;> walk_at "ev") | (apply evs_B0 <;> walk_at "ev")
  | (apply evs_andV <;> walk_at "ev") | (apply evs_orV <;> walk_at "ev") | (apply evs_notV; walk_at "ev")
  | (apply evs_chain <;> walk_at "ev")
  | (apply evs_neg; walk_at "ev")
  | (apply evt_test; walk_at "ev") | (apply evt_B; walk_at "ev") | (apply evt_not; walk_at "ev")
  | (apply evt_and1 <;> walk_at "ev") | (apply evt_or1 <;> walk_at "ev")
  | (intro _; walk_at "ev"))
local macro_rules | `(tactic| walk_at "ret") => `(tactic| (apply sx_ret; walk_at "ev"))
section
variable {P : Program} {w : World} {K : PySem.W.Frag} {mg : Str → Option Value} {base : Heap}
abbrev N_is_number : List Str := ["thing"]
theorem sc_is_number : FnScope N_is_number ["thing"] (defScope (top 48)) := ⟨rfl, rfl, rfl, by decide +kernel, rfl, by decide +kernel, by decide +kernel⟩
theorem c_is_number (T : TX K mg) : C8.Cal P w K mg base 2 "is_number" (spS K (fun i : Nat => [.dat (natD i)]) (fun _ => True) (fun _ => Is (.bool true))) [] := by
  refine cal_of T.d_is_number (fun F => F.bindsN (ps := ["thing"]) fun _ _ _ _ _ _ us hl => match us, hl with | [_], _ => rfl) fun F => fnS F sc_is_number (fun _ => rfl) (by intro a s hs ds z; subst z; simp at hs) fun cdv A outer s H E a hr ha => ?_
  refine ⟨_, (pss_one (ps_ret (pe_and (C8.pe_c (c_is_integer T) hr (by decide) rfl (pa_cons (pv 0) pa_nil)) (pe_one (pe_cmpR op_ge (pv 0) pe_int (nomark _)))))), ?_⟩
  refine sx_ret (evs_andV (evs_call1 (a : Int) (by walk_at "ev") trivial) fun _ => evs_B0 (i := (a : Int)) (evs_var rfl) evs_int) ?_
  show Sv.dat (.bool (true && decide ((a : Int) ≥ 0))) = _
  rw [decide_eq_true (show (a : Int) ≥ 0 by omega)]
  rfl
abbrev N_is_picture : List Str := ["many", "thing", "item"]
theorem sc_is_picture : FnScope N_is_picture ["many", "thing"] (defScope (top 49)) := ⟨rfl, rfl, rfl, by decide +kernel, rfl, by decide +kernel, by decide +kernel⟩
theorem c_is_picture (T : TX K mg) : C8.Cal P w K mg base 3 "is_picture" (spS K (fun l : List (Option Nat) => [.dat (natD l.length), .dat (.tuple (l.map optD))]) (fun l => l.length ≤ 300) (fun _ => Is (.bool true))) [] := by
  refine cal_of T.d_is_picture (fun F => F.bindsN (ps := ["many", "thing"]) fun _ _ _ _ _ _ us hl => match us, hl with | [_, _], _ => rfl) fun F => fnS F sc_is_picture (fun _ => rfl) (by intro a s hs ds z; subst z; simp at hs) fun cdv A outer s H E a hr ha => ?_
  refine ⟨_, (pss_one (ps_ret (pe_and (C8.pe_c (c_is_sized T) hr (by decide) rfl (pa_cons (pv 1) (pa_cons (pv 0) (pa_cons (pv 0) pa_nil)))) (pe_one (pe_callB (cr_all rfl) (by rfl) T.n_all bt_all (pa_cons (pe_lc (own := [("item", 2)]) (g := gName 2) (by rfl) sc_is_picture.nd (pi_tup (pv 1)) (blkOk_by (own := [("item", 2)]) (N := N_is_picture) (sc := defScope (top 49)) (by decide +kernel)) (fun _ _ _ _ _ => (pg_name (i := 2) sc_is_picture.nd rfl (Or.inl rfl))) (fun _ _ _ _ _ => pts_nil) (fun _ _ _ _ _ => (pe_or (pe_cmpR o_isN (pv 2) pe_non (nomark _)) (pe_one (C8.pe_c (c_is_number T) hr (by decide) rfl (pa_cons (pv 2) pa_nil)))))) pa_nil)))))), ?_⟩
  have hl : (a.map optD).length = a.length := List.length_map _
  refine sx_ret (evs_andV (evs_call1 (a.map optD, (a.length : Int), (a.length : Int)) (by walk_at "ev") (by show (a.map optD).length ≤ _; omega)) fun _ => evs_allL (evi_tup1 (evs_var rfl)) (by omega) fun γ x hx => ?_) ?_
  · cases x with
    | none =>
      refine (evs_orV (a := true) (b := true) (evs_isN (s := .dat .none) (evs_var rfl)) fun e => Bool.noConfusion (show true = false from e)).imp fun s e => ?_
      rw [e]; rfl
    | some n =>
      refine (evs_orV (evs_isN (s := .dat (natD n)) (evs_var rfl)) fun e => evs_call1 n (eva_c (evs_var rfl) eva_nil) trivial).imp fun s e => ?_
      rw [e]; rfl
  · show Sv.dat (.bool ((decide ((a.length : Int) ≤ ((a.map optD).length : Int)) && decide (((a.map optD).length : Int) ≤ (a.length : Int))) && true)) = _
    rw [hl, decide_eq_true (Int.le_refl _)]
    rfl
abbrev N_is_call : List Str := ["many", "thing", "word", "hand", "what", "begin", "end"]
theorem sc_is_call : FnScope N_is_call ["many", "thing"] (defScope (top 50)) := ⟨rfl, rfl, rfl, by decide +kernel, rfl, by decide +kernel, by decide +kernel⟩
theorem c_is_call (T : TX K mg) : C8.Cal P w K mg base 4 "is_call" (spS K (fun x : Nat × Call => [.dat (natD x.1), .dat x.2.d]) (fun x => x.2.okAt x.1 ∧ x.1 ≤ 8) (fun _ => Is (.bool true))) [] := by
  refine cal_of T.d_is_call (fun F => F.bindsN (ps := ["many", "thing"]) fun _ _ _ _ _ _ us hl => match us, hl with | [_, _], _ => rfl) fun F => fnS F sc_is_call (fun _ => rfl) (by intro a s hs ds z; subst z; simp at hs) fun cdv A outer s H E a hr ha => ?_
  refine ⟨_, (pss_cons (ps_if (PW.pt (pw_or (pt_not (pt_val (C8.pe_c (c_is_sized T) hr (by decide) rfl (pa_cons (pv 1) (pa_cons pe_int (pa_cons pe_int pa_nil)))))) (pw_or (pt_not (pt_val (pe_callB b_isi (by rfl) T.n_isinstance bt_isinstance (pa_cons (pe_ix ix_tup (pv 1) pe_int (fun _ _ => rfl)) (pa_cons (pe_bltn (v := .ty "str") (by rfl) T.n_str bt_str rfl) pa_nil))))) (pw_or1 (pt_not (pt_val (C8.pe_c (c_is_below T) hr (by decide) rfl (pa_cons (pe_ix ix_tup (pv 1) pe_int (fun _ _ => rfl)) (pa_cons (pv 0) pa_nil))))))))) (pss_one (ps_ret pe_bl)) pss_nil) (pss_cons (ps_asg (pv 1) (pg_is (is := [2, 3, 4, 5, 6]) (pg_tup rfl (pgs_cons (pg_name (i := 2) sc_is_call.nd rfl (Or.inl rfl)) (pgs_cons (pg_name (i := 3) sc_is_call.nd rfl (Or.inl rfl)) (pgs_cons (pg_name (i := 4) sc_is_call.nd rfl (Or.inl rfl)) (pgs_cons (pg_name (i := 5) sc_is_call.nd rfl (Or.inl rfl)) (pgs_cons (pg_name (i := 6) sc_is_call.nd rfl (Or.inl rfl)) pgs_nil)))))))) (pss_cons (ps_if (PW.pt (pw_or (pt_not (pt_val (C8.pe_c (c_is_number T) hr (by decide) rfl (pa_cons (pv 5) pa_nil)))) (pw_or1 (PW.pt (pw_and (pt_cmpR o_notN (pv 6) pe_non (nomark _)) (pw_and1 (PW.pt (pw_or (pt_not (pt_val (C8.pe_c (c_is_number T) hr (by decide) rfl (pa_cons (pv 6) pa_nil)))) (pw_or1 (pt_cmpR op_le (pv 6) (pv 5) (nomark _))))))))))) (pss_one (ps_ret pe_bl)) pss_nil) (pss_cons (ps_if (pt_cmpR op_eq (pv 2) (C8.pe_gc rfl T.c_PUT_records) (nomark _)) (pss_one (ps_ret (C8.pe_c (c_is_number T) hr (by decide) rfl (pa_cons (pv 4) pa_nil)))) pss_nil) (pss_one (ps_ret (pe_and (pe_cmpR op_eq (pv 2) (C8.pe_gc rfl T.c_LOOK_records) (nomark _)) (pe_and (pe_cmpR o_notN (pv 6) pe_non (nomark _)) (pe_one (C8.pe_c (c_is_picture T) hr (by decide) rfl (pa_cons (pv 0) (pa_cons (pv 4) pa_nil)))))))))))), ?_⟩
  obtain ⟨m, c⟩ := a
  obtain ⟨⟨h1, h2, h3⟩, h4⟩ := ha
  refine q_no (evt_orF (evt_notT (evt_B (evs_is (evs_call1 (c.l, 5, 5) (by walk_at "ev") (show 5 ≤ 16000000 by decide)) rfl))) (evt_orF (evt_notT (evt_B (evs_isi (evs_ixT (evs_var rfl) evs_int rfl) rfl kit_str_str))) (evt_notT (evt_B (evs_call1 ((c.hand : Int), (m : Int)) (eva_c (evs_ixT (evs_var rfl) evs_int rfl) (eva_c (evs_var rfl) eva_nil)) ⟨Int.natCast_nonneg _, by show (c.hand : Int) < (m : Int); have : c.hand < m := h1; omega⟩))))) ?_
  refine q_unp (ds := c.l) (evs_var rfl) rfl rfl ?_
  refine q_no (evt_orF (evt_notT (evt_B (evs_call1 c.b (eva_c (evs_var rfl) eva_nil) trivial))) ?a) ?b
  case a =>
    obtain ⟨hand, what, b, e⟩ := c
    cases e with
    | none => exact evt_andF (evt_test (evs_notN (s := .dat .none) (evs_var rfl)))
    | some n =>
      have hb : b < n := h2 n rfl
      refine evt_andF2 (evt_test (evs_notN (s := .dat (natD n)) (evs_var rfl))) (evt_orF (evt_notT (evt_B (evs_call1 n (eva_c (evs_var rfl) eva_nil) trivial))) (evt_test (evs_is (evs_B0 (i := (n : Int)) (j := (b : Int)) (evs_var rfl) (evs_var rfl)) ?_)))
      exact decide_eq_false (by omega)
  obtain ⟨hand, what, b, e⟩ := c
  cases what with
  | put v => exact sx_seq (G := fun _ => False) (sx_yes (evt_test (evs_eqT (d := .str "put") (evs_var rfl) evs_str rfl rfl)) (sx_ret (evs_call1 v (eva_c (evs_var rfl) eva_nil) trivial) rfl)) fun _ q => q.elim
  | look l =>
    obtain ⟨⟨x, hx⟩, hl⟩ := h3
    have hx' : e = some x := hx
    have hl' : l.length = m := hl
    subst hx' hl'
    refine q_no (evt_test (evs_eqF (d := .str "look") (e := .str "put") (evs_var rfl) evs_str rfl rfl rfl (str_ne (by decide +kernel)))) ?_
    exact sx_ret (evs_andV (evs_eqT (d := .str "look") (evs_var rfl) evs_str rfl rfl) fun _ => evs_andV (evs_notN (evs_var rfl)) fun _ => evs_call1 l (eva_c (evs_var rfl) (eva_c (evs_var rfl) eva_nil)) (by show l.length ≤ 300; omega)) rfl
end
end K32
/-! Walks: records, the making. -/
namespace K32
open PySem PySem.Spec PyProof.Rows L2
local macro_rules | `(tactic| walk_at "ev") => `(tactic| first
  | exact evs_var rfl | exact evs_own rfl | exact evs_int | exact evs_str | exact evs_bl | exact evs_non
  | exact eva_nil | (apply eva_c <;> walk_at "ev")
  | exact evs_isi (evs_var rfl) rfl kit_int_int | exact evs_isi (evs_var rfl) rfl kit_int_bool | exact evs_isi (evs_var rfl) rfl kit_tuple_tuple | exact evs_isi (evs_var rfl) rfl kit_str_str
  | exact evs_ixT (evs_var rfl) evs_int rfl
  | (apply evs_I0 <;> walk_at "ev") | (apply evs_B0 <;> walk_at "ev")
  | (apply evs_andV <;> walk_at "ev") | (apply evs_orV <;> walk_at "ev") | (apply evs_notV; walk_at "ev")
  | (apply evs_chain <;> walk_at "ev")
  | (apply evs_neg; walk_at "ev")
  | (apply evt_test; walk_at "ev") | (apply evt_B; walk_at "ev") | (apply evt_not; walk_at "ev")
  | (apply evt_and1 <;> walk_at "ev") | (apply evt_or1 <;> walk_at "ev")
  | (intro _; walk_at "ev"))
local macro_rules | `(tactic| walk_at "ret") => `(tactic| (apply sx_ret; walk_at "ev"))
/-- neighbours differ -/
theorem zip_tail_ne {β : Type} {l : List β} (h : l.Nodup) {i : Nat} {x y : β} (hx : l[i]? = some x) (hy : (l.drop 1)[i]? = some y) : x ≠ y := by
  rw [List.getElem?_drop] at hy
  obtain ⟨h1, rfl⟩ := List.getElem?_eq_some_iff.mp hx
  obtain ⟨h2, rfl⟩ := List.getElem?_eq_some_iff.mp hy
  exact List.pairwise_iff_getElem.mp h i (1 + i) h1 h2 (by omega)
section
variable {B : Bx} {δ : Dn} {ta tb : TE}
/-- any([one == other for one, other in zip(l, l[1:])]) of unlike data -/
theorem evs_noLike {l i j : Nat} {β : Type} {F : β → PyData} {xs : List β} {n : Nat} (hn : n ≤ 64) (hlay : ∀ x, Lay n (F x)) (hne : ∀ x y, x ≠ y → PyData.eqv (F x) (F y) = false) (h : δ[l]? = some (some (.lst (xs.map F)))) (hi : i ≠ j) (hid : i < δ.length) (hjd : j < δ.length) (nd : xs.Nodup) (hz : xs.length ≤ 1000000) :
    EvS B (tCB (rAny B.K) (tCons (tLc (RZ.iZipA B.K (tCons (tVar l) (tCons (tSl (rSlL B.K) (tVar l) (tPart (tC (.int 1))) tNoPart) tNil))) (gTup B.K 2 (gNames [i, j])) tYes (tOp (rEqD B.K) (tVar i) (tVar j)) [i, j]) tNil)) δ (Is (.bool false)) := by
  refine evs_anyLc (evi_zipN (s := .lst []) h (evl_slL (evs_var h) (evo_some evs_int) evo_none)) fun m put ⟨es, e0, e1, e2⟩ => ?_
  have e0' : es = (xs.drop 1).map F := by rw [show es = cutD (xs.map F) (some ((1 : Nat) : Int)) none from e0, cutD_from, List.map_drop]
  subst e1 e2 e0'
  rw [List.length_map, List.length_map, List.length_drop]
  refine ⟨by omega, fun γ k hk => ?_⟩
  have h1 : k < xs.length := by omega
  have h2 : k < (xs.drop 1).length := by rw [List.length_drop]; omega
  unfold putZ
  rw [getD_of (show (xs.map F)[k]? = some (F xs[k]) by rw [List.getElem?_map, List.getElem?_eq_getElem h1]; rfl), getD_of (show ((xs.drop 1).map F)[k]? = some (F (xs.drop 1)[k]) by rw [List.getElem?_map, List.getElem?_eq_getElem h2]; rfl)]
  have w : (wipeD δ [i, j]).length = δ.length := wipeD_length _
  have v1 : (((wipeD δ [i, j]).set i (some (.dat (F xs[k])))).set j (some (.dat (F (xs.drop 1)[k]))))[i]? = some (some (Sv.dat (F xs[k]))) := by rw [List.getElem?_set_ne (Ne.symm hi), List.getElem?_set, if_pos rfl, if_pos (by rw [w]; exact hid)]
  have v2 : (((wipeD δ [i, j]).set i (some (.dat (F xs[k])))).set j (some (.dat (F (xs.drop 1)[k]))))[j]? = some (some (Sv.dat (F (xs.drop 1)[k]))) := by rw [List.getElem?_set, if_pos rfl, if_pos (by rw [List.length_set, w]; exact hjd)]
  refine evs_is (evs_eqD (s := .dat (F xs[k])) (u := .dat (F (xs.drop 1)[k])) (evs_var v1) (evs_var v2) rfl rfl ((hlay _).shaped hn) ((hlay _).shaped hn)) (hne _ _ (zip_tail_ne nd (List.getElem?_eq_getElem h1) (List.getElem?_eq_getElem h2)))
end
theorem eqv_int_ne {x y : Int} (h : x ≠ y) : PyData.eqv (.int x) (.int y) = false := by rw [PyData.eqv]; exact decide_eq_false h
def pairD (p : Nat × Nat) : PyData := .tuple [natD p.1, natD p.2]
theorem eqv_pair_ne {x y : Nat × Nat} (h : x ≠ y) : PyData.eqv (pairD x) (pairD y) = false := by
  obtain ⟨a, b⟩ := x
  obtain ⟨c, d⟩ := y
  have : ¬ (a = c ∧ b = d) := fun ⟨p, q⟩ => h (by rw [p, q])
  simp only [pairD, natD, PyData.eqv, PyData.eqvAll, Bool.and_true, Bool.and_eq_false_iff]
  by_cases e : a = c
  · right; simp; omega
  · left; simp; omega
theorem lay_pair (p : Nat × Nat) : Lay 1 (pairD p) := .tup (.cons .int (.cons .int fun _ => .nil))
section
variable {P : Program} {w : World} {K : PySem.W.Frag} {mg : Str → Option Value} {base : Heap}
abbrev N_has_like : List Str := ["things", "found", "one", "other"]
theorem sc_has_like : FnScope N_has_like ["things"] (defScope (top 51)) := ⟨rfl, rfl, rfl, by decide +kernel, rfl, by decide +kernel, by decide +kernel⟩
theorem c_has_like (T : TX K mg) : C8.Cal P w K mg base 1 "has_like" (spS K (fun l : List Int => [.lst (l.map PyData.int)]) (fun l => l.Nodup ∧ l.length ≤ 1000) (fun _ => Is (.bool false))) [] := by
  refine cal_of T.d_has_like (fun F => F.bindsN (ps := ["things"]) fun _ _ _ _ _ _ us hl => match us, hl with | [_], _ => rfl) fun F => fnS F sc_has_like (fun _ => rfl) (by intro a s hs ds z; subst z; simp at hs) fun cdv A outer s H E a hr ha => ?_
  refine ⟨_, (pss_cons (ps_set (i := 1) sc_has_like.nd rfl (Or.inl rfl) (pe_callB cr_sortedI (by rfl) T.n_sorted bt_sorted (pa_cons (pv 0) pa_nil))) (pss_one (ps_ret (pe_callB (cr_any rfl) (by rfl) T.n_any bt_any (pa_cons (pe_lc (own := [("one", 2), ("other", 3)]) (g := gTup K 2 (gNames [2, 3])) (by rfl) sc_has_like.nd (RZ.pi_zipA (by rfl) T.n_zip (pa_cons (pv 1) (pa_cons (pe_slice sl_list (pv 1) (po_some pe_int) po_none) pa_nil))) (blkOk_by (own := [("one", 2), ("other", 3)]) (N := N_has_like) (sc := defScope (top 51)) (by decide +kernel)) (fun _ _ _ _ _ => (pg_is (is := [2, 3]) (pg_tup rfl (pgs_cons (pg_name (i := 2) sc_has_like.nd rfl (Or.inl rfl)) (pgs_cons (pg_name (i := 3) sc_has_like.nd rfl (Or.inl rfl)) pgs_nil))))) (fun _ _ _ _ _ => pts_nil) (fun _ _ _ _ _ => (pe_cmpR (op_eqDk (K := K) rfl hr.units) (pv 2) (pv 3) (nomark _)))) pa_nil))))), ?_⟩
  refine q_asgL (evl_sortedI (evs_var rfl)) fun ds ⟨ms, e, pm, _⟩ => ?_
  subst e
  refine sx_share (i := 1) rfl ?_
  exact sx_ret (evs_noLike (xs := ms) (F := PyData.int) (n := 0) (by decide) (fun _ => .int) (fun _ _ => eqv_int_ne) rfl (by decide) (show 2 < 4 by decide) (show 3 < 4 by decide) (pm.nodup_iff.mpr ha.1) (by rw [pm.length_eq]; omega)) rfl
theorem c_has_likeP (T : TX K mg) : C8.Cal P w K mg base 1 "has_like" (spS K (fun l : List (Nat × Nat) => [.lst (l.map pairD)]) (fun l => l.Nodup ∧ l.length ≤ 1000) (fun _ => Is (.bool false))) [] := by
  refine cal_of T.d_has_like (fun F => F.bindsN (ps := ["things"]) fun _ _ _ _ _ _ us hl => match us, hl with | [_], _ => rfl) fun F => fnS F sc_has_like (fun _ => rfl) (by intro a s hs ds z; subst z; simp at hs) fun cdv A outer s H E a hr ha => ?_
  refine ⟨_, (pss_cons (ps_set (i := 1) sc_has_like.nd rfl (Or.inl rfl) (pe_callB cr_sortedK (by rfl) T.n_sorted bt_sorted (pa_cons (pv 0) pa_nil))) (pss_one (ps_ret (pe_callB (cr_any rfl) (by rfl) T.n_any bt_any (pa_cons (pe_lc (own := [("one", 2), ("other", 3)]) (g := gTup K 2 (gNames [2, 3])) (by rfl) sc_has_like.nd (RZ.pi_zipA (by rfl) T.n_zip (pa_cons (pv 1) (pa_cons (pe_slice sl_list (pv 1) (po_some pe_int) po_none) pa_nil))) (blkOk_by (own := [("one", 2), ("other", 3)]) (N := N_has_like) (sc := defScope (top 51)) (by decide +kernel)) (fun _ _ _ _ _ => (pg_is (is := [2, 3]) (pg_tup rfl (pgs_cons (pg_name (i := 2) sc_has_like.nd rfl (Or.inl rfl)) (pgs_cons (pg_name (i := 3) sc_has_like.nd rfl (Or.inl rfl)) pgs_nil))))) (fun _ _ _ _ _ => pts_nil) (fun _ _ _ _ _ => (pe_cmpR (op_eqDk (K := K) rfl hr.units) (pv 2) (pv 3) (nomark _)))) pa_nil))))), ?_⟩
  refine q_asgL (evl_sortedK (k := fun d => match d with | .tuple [.int x, .int y] => [x, y] | _ => []) (f := fun _ => []) (d := 2) (by decide) (evs_var rfl) (fun e he => ?_) (.inl fun _ _ => rfl)) fun ds ⟨pm, _⟩ => ?_
  · obtain ⟨p, _, rfl⟩ := List.mem_map.mp he
    exact ⟨rfl, rfl⟩
  obtain ⟨ms, em, pm2⟩ := perm_map_inv pm a rfl
  subst em
  refine sx_share (i := 1) rfl ?_
  exact sx_ret (evs_noLike (xs := ms) (F := pairD) (n := 1) (by decide) lay_pair (fun _ _ => eqv_pair_ne) rfl (by decide) (show 2 < 4 by decide) (show 3 < 4 by decide) (pm2.nodup_iff.mpr ha.1) (by rw [pm2.length_eq]; omega)) rfl
abbrev N_moments_of : List Str := ["calls", "call"]
theorem sc_moments_of : FnScope N_moments_of ["calls"] (defScope (top 52)) := ⟨rfl, rfl, rfl, by decide +kernel, rfl, by decide +kernel, by decide +kernel⟩
def momL (cs : List Call) : List Nat := cs.map (·.b) ++ cs.filterMap (·.e)
theorem c_moments_of (T : TX K mg) : C8.Cal P w K mg base 1 "moments_of" (spS K (fun cs : List Call => [.dat (callsD cs)]) (fun cs => cs.length ≤ 300) (fun cs s => s = .lst ((momL cs).map natD))) [] := by
  refine cal_of T.d_moments_of (fun F => F.bindsN (ps := ["calls"]) fun _ _ _ _ _ _ us hl => match us, hl with | [_], _ => rfl) fun F => fnS F sc_moments_of (fun _ => rfl) (by intro a s hs ds z; subst z; simp at hs) fun cdv A outer s H E a hr ha => ?_
  refine ⟨_, (pss_one (ps_ret (pe_op op_cat (pe_lc (own := [("call", 1)]) (g := gName 1) (by rfl) sc_moments_of.nd (pi_tup (pv 0)) (blkOk_by (own := [("call", 1)]) (N := N_moments_of) (sc := defScope (top 52)) (by decide +kernel)) (fun _ _ _ _ _ => (pg_name (i := 1) sc_moments_of.nd rfl (Or.inl rfl))) (fun _ _ _ _ _ => pts_nil) (fun _ _ _ _ _ => (pe_ix (ix_tupK (K := K) rfl) (pv 1) pe_int (fun _ _ => rfl)))) (pe_lc (own := [("call", 1)]) (g := gName 1) (by rfl) sc_moments_of.nd (pi_tup (pv 0)) (blkOk_by (own := [("call", 1)]) (N := N_moments_of) (sc := defScope (top 52)) (by decide +kernel)) (fun _ _ _ _ _ => (pg_name (i := 1) sc_moments_of.nd rfl (Or.inl rfl))) (fun _ _ _ _ _ => (pts_one (pt_cmpR o_notN (pe_ix (ix_tupK (K := K) rfl) (pv 1) pe_int (fun _ _ => rfl)) pe_non (nomark _)))) (fun _ _ _ _ _ => (pe_ix (ix_tupK (K := K) rfl) (pv 1) pe_int (fun _ _ => rfl))))))), ?_⟩
  have hf : ((a.filterMap fun c => c.e).map natD).length ≤ a.length := by rw [List.length_map]; exact List.length_filterMap_le _ _
  have e2 : a.filterMap (fun c => c.e.map natD) = (a.filterMap fun c => c.e).map natD := by rw [List.map_filterMap]
  refine sx_retL (P := (· = (momL a).map natD)) ((evl_cat (EvL.evs1 (evl_mapL (L := a) (F := Call.d) (f := fun c => natD c.b) (evi_tup1 (evs_var rfl)) (by omega) fun γ c _ => evs_ixT (ds := c.l) (evs_var rfl) evs_int rfl)) (EvL.evs1 (evl_fmL (L := a) (F := Call.d) (f := fun c => c.e.map natD) (evi_tup1 (evs_var rfl)) (by omega) (fun γ c _ => evt_test (evs_is (evs_notN (s := .dat (optD c.e)) (evs_ixT (ds := c.l) (evs_var rfl) evs_int rfl)) ?a)) fun γ c d _ e => ?b)) ?_).imp fun ds e => ?_) fun ds e => by rw [e]
  case a => rw [isN_opt]; cases c.e <;> rfl
  case b =>
    refine (evs_ixT (ds := c.l) (i := 4) (evs_var rfl) evs_int rfl).imp fun s es => ?_
    rw [es]
    cases he : c.e with
    | none => rw [he] at e; cases e
    | some n => rw [he] at e; cases e; rfl
  · rw [e2, List.length_map]; omega
  · rw [e, e2, momL, List.map_append, List.map_map]; rfl
/-- the end of the last call of a hand -/
def lastE : List Call → Nat → Option (Option Nat)
  | [], _ => none
  | c :: cs, h => match lastE cs h with
    | some e => some e
    | none => if c.hand = h then some c.e else none
theorem lastE_snoc (c : Call) (h : Nat) : ∀ cs : List Call, lastE (cs ++ [c]) h = if c.hand = h then some c.e else lastE cs h
  | [] => rfl
  | d :: cs => by
    show (match lastE (cs ++ [c]) h with | some e => some e | none => _) = _
    rw [lastE_snoc c h cs]
    by_cases e : c.hand = h
    · rw [if_pos e, if_pos e]
    · rw [if_neg e, if_neg e]; rfl
theorem lastE_some {h : Nat} {e : Option Nat} : ∀ {cs : List Call}, lastE cs h = some e → ∃ c ∈ cs, c.hand = h ∧ c.e = e
  | [], q => by cases q
  | c :: cs, q => by
    unfold lastE at q
    cases z : lastE cs h with
    | some e' =>
      rw [z] at q; cases q
      obtain ⟨d, m, r⟩ := lastE_some z
      exact ⟨d, List.mem_cons_of_mem _ m, r⟩
    | none =>
      rw [z] at q
      by_cases eh : c.hand = h
      · rw [if_pos eh] at q; cases q; exact ⟨c, List.mem_cons_self, eh, rfl⟩
      · rw [if_neg eh] at q; cases q
def clearP (cs : List Call) : Prop := cs.Pairwise (fun c c' => c.hand = c'.hand → ∃ x, c.e = some x ∧ x ≤ c'.b)
abbrev N_are_hands_clear : List Str := ["calls", "last", "call", "hand"]
theorem sc_are_hands_clear : FnScope N_are_hands_clear ["calls"] (defScope (top 53)) := ⟨rfl, rfl, rfl, by decide +kernel, rfl, by decide +kernel, by decide +kernel⟩
theorem c_are_hands_clear (T : TX K mg) : C8.Cal P w K mg base 1 "are_hands_clear" (spS K (fun cs : List Call => [.dat (callsD cs)]) (fun cs => cs.length ≤ 300 ∧ clearP cs) (fun _ => Is (.bool true))) [] := by
  refine cal_of T.d_are_hands_clear (fun F => F.bindsN (ps := ["calls"]) fun _ _ _ _ _ _ us hl => match us, hl with | [_], _ => rfl) fun F => fnS F sc_are_hands_clear (fun _ => rfl) (by intro a s hs ds z; subst z; simp at hs) fun cdv A outer s H E a hr ha => ?_
  refine ⟨_, (pss_cons (ps_set (i := 1) sc_are_hands_clear.nd rfl (Or.inl rfl) pe_dnewK) (pss_cons (ps_for PassesOwn.never rfl (pi_tup (pv 0)) (pg_name (i := 2) sc_are_hands_clear.nd rfl (Or.inl rfl)) (pss_cons (ps_set (i := 3) sc_are_hands_clear.nd rfl (Or.inl rfl) (pe_ix ix_tup (pv 2) pe_int (fun _ _ => rfl))) (pss_cons (ps_if (PW.pt (pw_and (pt_cmp (pc_din (hu_of hr) (pv 3) (pv 1))) (pw_and1 (PW.pt (pw_or (pt_cmpR o_isN (pe_dget (hu_of hr) (pv 1) (pv 3) (fun _ _ => rfl)) pe_non (nomark _)) (pw_or1 (pt_cmpR op_gt (pe_dget (hu_of hr) (pv 1) (pv 3) (fun _ _ => rfl)) (pe_ix ix_tup (pv 2) pe_int (fun _ _ => rfl)) (nomark _)))))))) (pss_one (ps_ret pe_bl)) pss_nil) (pss_one (ps_dput (hu_of hr) (pv 1) (pv 3) (pe_ix ix_tup (pv 2) pe_int (fun _ _ => rfl)) rfl))))) (pss_one (ps_ret pe_bl)))), ?_⟩
  obtain ⟨hz, hc⟩ := ha
  refine q_dnew fun p h0 => ?_
  let I : List Call → Dn → Prop := fun pre δ => ∃ kvs x y, δ = [some (.dat (callsD a)), some (.obj p (.dK kvs)), x, y] ∧ (∀ s, x = some s → s.calm = true) ∧ (∀ s, y = some s → s.calm = true) ∧ kvs.length ≤ pre.length ∧ ∀ h : Nat, valV kvs (.inl (h : Int)) = (lastE pre h).map fun e => vOf (optD e)
  refine sx_seq (G := I a) (sx_forL (L := a) (F := Call.d) I (evi_tup1 (evs_var rfl)) ⟨[], none, none, rfl, (fun _ q => by cases q), (fun _ q => by cases q), Nat.le_refl _, fun _ => rfl⟩ (fun γ pre c post δ' el ⟨kvs, x, y, e, hx, hy, hl, hv⟩ => ?_) fun δ' q => q) fun δ' ⟨kvs, x, y, e, _⟩ => ?_
  · subst e
    refine q_asg1 (s := .dat (natD c.hand)) (evs_ixT (ds := c.l) (evs_var rfl) evs_int rfl) rfl ?_
    have hlen : pre.length ≤ 300 := by rw [el, List.length_append] at hz; omega
    refine q_no ?_ (sx_dput (d := optD c.e) (n := (c.hand : Int)) h0 rfl (evs_var rfl) (evs_ixT (ds := c.l) (evs_var rfl) evs_int rfl) (flat_opt _) (by omega) ?_ ⟨_, _, _, rfl, fun s q => by cases q; rfl, fun s q => by cases q; rfl, ?_, fun h => ?_⟩)
    · cases hle : lastE pre c.hand with
      | none =>
        have hvn := hv c.hand
        rw [hle] at hvn
        exact evt_andF (evt_test (evs_is (evs_din (n := (c.hand : Int)) rfl (evs_var rfl)) (by rw [hvn]; rfl)))
      | some e =>
        have hvs := hv c.hand
        rw [hle] at hvs
        obtain ⟨c0, m0, hh, he⟩ := lastE_some hle
        rw [el] at hc
        obtain ⟨t, ht, hle2⟩ := (List.pairwise_append.mp hc).2.2 c0 m0 c List.mem_cons_self hh
        rw [he] at ht
        subst ht
        have dg := fun i (B : Bx) (δ : Dn) (q : δ[1]? = some (some (.obj p (.dK kvs)))) (q2 : δ[i]? = some (some (.dat (natD c.hand)))) => evs_dget (B := B) (δ := δ) (te := tVar i) (n := (c.hand : Int)) (d := natD t) q (evs_var q2) hvs rfl
        refine evt_andF2 (evt_test (evs_is (evs_din (n := (c.hand : Int)) rfl (evs_var rfl)) (by rw [hvs]; rfl))) (evt_orF (evt_test (evs_isN (s := .dat (natD t)) (dg 3 _ _ rfl rfl))) (evt_test (evs_is (evs_B0 (i := (t : Int)) (j := (c.b : Int)) (dg 3 _ _ rfl rfl) (evs_ixT (ds := c.l) (evs_var rfl) evs_int rfl)) ?_)))
        exact decide_eq_false (by omega)
    · intro j s hj q
      match j, hj, q with
      | 0, _, q => cases q; rfl
      | 1, hj, _ => exact absurd rfl hj
      | 2, _, q => cases q; rfl
      | 3, _, q => cases q; rfl
      | (j + 4), _, q => cases q
    · rw [List.length_append]
      exact Nat.le_trans (putK_len _ _) (Nat.succ_le_succ hl)
    · rw [valV_put, lastE_snoc]
      by_cases e : c.hand = h
      · rw [if_pos e, if_pos (by rw [e])]; rfl
      · rw [if_neg e, if_neg (fun q => e (by injection q with q; omega))]
        exact hv h
  · subst e
    exact sx_ret evs_bl rfl
end
end K32
/-! Walks: the class Record. -/
namespace K32
open PySem PySem.Spec PyProof.Rows L2
local macro_rules | `(tactic| walk_at "ev") => `(tactic| first
  | exact evs_var rfl | exact evs_own rfl | exact evs_int | exact evs_str | exact evs_bl | exact evs_non
  | exact eva_nil | (apply eva_c <;> walk_at "ev")
  | exact evs_isi (evs_var rfl) rfl kit_int_int | exact evs_isi (evs_var rfl) rfl kit_int_bool | exact evs_isi (evs_var rfl) rfl kit_tuple_tuple | exact evs_isi (evs_var rfl) rfl kit_str_str
  | exact evs_ixT (evs_var rfl) evs_int rfl
  | (apply evs_I0 <;> walk_at "ev") | (apply evs_B0 <;> walk_at "ev")
  | (apply evs_andV <;> walk_at "ev") | (apply evs_orV <;> walk_at "ev") | (apply evs_notV; walk_at "ev")
  | (apply evs_chain <;> walk_at "ev")
  | (apply evs_neg; walk_at "ev")
  | (apply evt_test; walk_at "ev") | (apply evt_B; walk_at "ev") | (apply evt_not; walk_at "ev")
  | (apply evt_and1 <;> walk_at "ev") | (apply evt_or1 <;> walk_at "ev")
  | (intro _; walk_at "ev"))
local macro_rules | `(tactic| walk_at "ret") => `(tactic| (apply sx_ret; walk_at "ev"))
theorem mc_ : ¬ (("many" : Str) = "calls") := by decide +kernel
theorem seq_cm : (("calls" : Str) == "many") = false := by decide +kernel
theorem rec_fs (x y : V) : putF "calls" y (putF "many" x []) = ([("many", x), ("calls", y)] : List (Str × V)) := by
  show (if ("many" : Str) = "calls" then _ else (("many" : Str), x) :: [(("calls" : Str), y)]) = _
  rw [if_neg mc_]
theorem look_many (r : Nat × List Call) : (recD r).lookup ("many" : Str) = some (natD r.1) := by rw [recD, List.lookup_cons, seq_self]
theorem look_calls (r : Nat × List Call) : (recD r).lookup ("calls" : Str) = some (callsD r.2) := by rw [recD, List.lookup_cons, seq_cm, List.lookup_cons, seq_self]
abbrev recA (r : Nat × List Call) : List Sv := [.dat (natD r.1), .dat (callsD r.2)]
theorem natD_inj {a b : Nat} (h : natD a = natD b) : a = b := by injection h with h; omega
section
variable {P : Program} {w : World} {K : PySem.W.Frag} {mg : Str → Option Value} {base : Heap}
abbrev N_Record_initx : List Str := ["self", "many", "calls", "index", "call"]
theorem sc_Record_initx : FnScope N_Record_initx ["self", "many", "calls"] (defScope (inClass (top 54) 0)) := ⟨rfl, rfl, rfl, by decide +kernel, rfl, by decide +kernel, by decide +kernel⟩
theorem k_Record (T : TX K mg) : C8.Mak P w K mg base 5 "Record" (He.ga K "Record") (spMk K (He.ga K "Record") recA (fun r => RecOk r.1 r.2) recD) [] := by
  obtain ⟨fd, F⟩ := T.d_Record_initx
  refine ⟨_, fd, ["self", "many", "calls"], [], T.mk_Record, F.ok sc_Record_initx (fun vs H Q E h => ?_) (fun cdv A outer s H vs Q E hr h => ?_), T.g_Record, (fun F => F.bindsN (ps := ["self", "many", "calls"]) fun _ _ _ _ _ _ us hl => match us, hl with | [_, _, _], _ => rfl) F, .nil⟩
  · obtain ⟨i, p, dx, ws, rfl, o, _⟩ := h
    obtain ⟨v, u, rfl, _⟩ := paired2 o
    rfl
  obtain ⟨a, p, dx, ws, rfl, o2, ok, hp, k⟩ := h
  obtain ⟨v0, v, rfl, o0, o⟩ := paired2 o2
  have o0' : v0 = .int (a.1 : Nat) := o0.int_inv
  subst o0'
  obtain ⟨m, cs⟩ := a
  obtain ⟨h1, h2, h3, h4, h5, h6, h7, h8⟩ := ok
  have h3 : cs.length ≤ 300 := h3
  have h2 : m ≤ 8 := h2
  have h1 : 1 ≤ m := h1
  have h5 : cs.Pairwise (fun c c' => c.b < c'.b) := h5
  refine ⟨_, PSs.nox (pss_cons (ps_expr (C8.pe_c (c_check_within T) hr (by decide) rfl (pa_cons (pv 1) (pa_cons pe_int (pa_cons (C8.pe_gc rfl T.c_MOST_HANDS_records) pa_nil))))) (pss_cons (ps_if (pt_not (pt_val (C8.pe_c (c_is_sized T) hr (by decide) rfl (pa_cons (pv 2) (pa_cons pe_int (pa_cons (C8.pe_gc rfl T.c_MOST_CALLS) pa_nil)))))) (pss_one ps_never) pss_nil) (pss_cons (ps_for PassesOwn.never rfl (pi_enumT (by rfl) T.n_enumerate (pa_cons (pv 2) pa_nil)) (pg_is (is := [3, 4]) (pg_tup rfl (pgs_cons (pg_name (i := 3) sc_Record_initx.nd rfl (Or.inl rfl)) (pgs_cons (pg_name (i := 4) sc_Record_initx.nd rfl (Or.inl rfl)) pgs_nil)))) (pss_one (ps_if (PW.pt (pw_or (pt_not (pt_val (C8.pe_c (c_is_call T) hr (by decide) rfl (pa_cons (pv 1) (pa_cons (pv 4) pa_nil))))) (pw_or1 (PW.pt (pw_and (pt_cmpR op_gt (pv 3) pe_int (nomark _)) (pw_and1 (pt_cmpR op_le (pe_ix ix_tup (pv 4) pe_int (fun _ _ => rfl)) (pe_ix ix_tup (pe_ix ix_tup (pv 2) (pe_op op_sub (pv 3) pe_int) (fun _ _ => rfl)) pe_int (fun _ _ => rfl)) (nomark _)))))))) (pss_one ps_never) pss_nil))) (pss_cons (ps_if (pt_val (C8.pe_c (c_has_like T) hr (by decide) rfl (pa_cons (C8.pe_c (c_moments_of T) hr (by decide) rfl (pa_cons (pv 2) pa_nil)) pa_nil))) (pss_one ps_never) pss_nil) (pss_cons (ps_if (pt_not (pt_val (C8.pe_c (c_are_hands_clear T) hr (by decide) rfl (pa_cons (pv 2) pa_nil)))) (pss_one ps_never) pss_nil) (pss_cons (ps_if (pt_val (C8.pe_c (c_has_likeP T) hr (by decide) rfl (pa_cons (pe_lc (own := [("call", 4)]) (g := gName 4) (by rfl) sc_Record_initx.nd (pi_tup (pv 2)) (blkOk_by (own := [("call", 4)]) (N := N_Record_initx) (sc := defScope (inClass (top 54) 0)) (by decide +kernel)) (fun _ _ _ _ _ => (pg_name (i := 4) sc_Record_initx.nd rfl (Or.inl rfl))) (fun _ _ _ _ _ => (pts_one (pt_cmpR op_eq (pe_ix (ix_tupK (K := K) rfl) (pv 4) pe_int (fun _ _ => rfl)) (C8.pe_gc rfl T.c_PUT_records) (nomark _)))) (fun _ _ _ _ _ => (pe_tup (pa_cons (pe_ix (ix_tupK (K := K) rfl) (pv 4) pe_int (fun _ _ => rfl)) (pa_cons (pe_ix (ix_tupK (K := K) rfl) (pv 4) pe_int (fun _ _ => rfl)) pa_nil))))) pa_nil))) (pss_one ps_never) pss_nil) (pss_cons (ps_fld (pv 0) (pv 1) rfl) (pss_one (ps_fld (pv 0) (pv 2) rfl))))))))), ?_⟩
  have st : StB ⟨K, none, H, []⟩ H (start N_Record_initx [.ref p, .int (m : Nat), v]) (slots N_Record_initx [.val (.ref p), .dat (natD m), .dat (callsD cs)]) := stb_start .of_none (.cons rfl (.cons (DT.int _) (.cons o .nil))) (by intro s hs ds z; subst z; simp at hs)
  let I : Dn → Prop := fun δ => ∃ x y, δ = [some (.val (.ref p)), some (.dat (natD m)), some (.dat (callsD cs)), x, y]
  have hcl : (cs.map Call.d).length = cs.length := List.length_map _
  refine raw_seq (sx_drop (evs_call1 ((m : Int), 1, 8) (by walk_at "ev") ⟨by show (1 : Int) ≤ (m : Int); omega, by show (m : Int) ≤ 8; omega⟩) rfl) st fun σ1 H1 δ1 st1 e1 => ?_
  subst e1
  refine raw_if (evt_notT (evt_B (evs_is (evs_call1 (cs.map Call.d, 0, 300) (by walk_at "ev") (by show (cs.map Call.d).length ≤ _; omega)) ?_))) st1 fun H2 st2 => ?_
  · rw [decide_eq_true (show (0 : Int) ≤ ((cs.map Call.d).length : Int) by omega), decide_eq_true (show ((cs.map Call.d).length : Int) ≤ 300 by omega)]; rfl
  refine raw_seq (G := I) (sx_for (evi_enumT1 (evs_var rfl)) fun n put q => ?_) st2 fun σ3 H3 δ3 st3 q3 => ?_
  · obtain ⟨en, ep⟩ := q
    subst en ep
    refine ⟨fun _ => I, ⟨none, none, rfl⟩, fun γ i δ' hi q => ?_, fun δ' q => q⟩
    obtain ⟨x, y, e⟩ := q
    subst e
    rw [hcl] at hi
    have ed : (cs.map Call.d).getD i .none = (cs[i]).d := getD_of (by rw [List.getElem?_map, List.getElem?_eq_getElem hi]; rfl)
    show SX _ _ (putL [3, 4] [.int (i : Nat), (cs.map Call.d).getD i .none] _) _
    rw [ed]
    refine sx_no (evt_orF (evt_notT (evt_B (evs_call1 (m, cs[i]) (eva_c (evs_var rfl) (eva_c (evs_var rfl) eva_nil)) ⟨h4 _ (List.getElem_mem hi), h2⟩))) ?_) (sx_next ⟨_, _, rfl⟩)
    cases i with
    | zero => exact evt_andF (evt_test (evs_is (evs_B0 (i := (0 : Int)) (evs_var rfl) evs_int) rfl))
    | succ i =>
      have hi0 : i < cs.length := by omega
      refine evt_andF2 (evt_test (evs_is (evs_B0 (i := ((i + 1 : Nat) : Int)) (evs_var rfl) evs_int) (decide_eq_true (show ((i + 1 : Nat) : Int) > 0 by omega)))) (evt_test (evs_is (evs_B0 (i := (cs[i + 1].b : Int)) (j := (cs[i].b : Int)) (evs_ixT (ds := (cs[i + 1]).l) (evs_var rfl) evs_int rfl) (evs_ixT (ds := (cs[i]).l) (evs_ixT (ds := cs.map Call.d) (i := ((i + 1 : Nat) : Int) - 1) (d := (cs[i]).d) (evs_var rfl) (evs_I0 (evs_var rfl) evs_int) ?_) evs_int rfl)) ?_))
      · have : ((i + 1 : Nat) : Int) - 1 = ((i : Nat) : Int) := by omega
        rw [this]
        rw [atI_nat, List.getElem?_map, List.getElem?_eq_getElem hi0]; rfl
      · have := List.pairwise_iff_getElem.mp h5 i (i + 1) hi0 hi (Nat.lt_succ_self i)
        exact decide_eq_false (by omega)
  obtain ⟨x3, y3, e3⟩ := q3
  subst e3
  have hm : (momL cs).length ≤ 1000 := by
    rw [momL, List.length_append, List.length_map]
    have := List.length_filterMap_le (fun c : Call => c.e) cs
    omega
  refine raw_if (evt_test (evs_call1 ((momL cs).map fun n : Nat => (n : Int)) (eva_c (evs_call1 cs (eva_c (evs_var rfl) eva_nil) h3 |>.imp fun s e => ?_) eva_nil) ⟨nodup_int h6, by rw [List.length_map]; exact hm⟩)) st3 fun H4 st4 => ?_
  · rw [e, List.map_map]; rfl
  refine raw_if (evt_notT (evt_B (evs_call1 cs (eva_c (evs_var rfl) eva_nil) ⟨h3, h7⟩))) st4 fun H5 st5 => ?_
  have h8' : (cs.filterMap putV).length ≤ 1000 := Nat.le_trans (List.length_filterMap_le _ _) (by omega)
  refine raw_if (evt_test (evs_call1 (cs.filterMap putV) (eva_c (EvL.evs1 ((evl_fmL (L := cs) (F := Call.d) (f := fun c => (putV c).map pairD) (evi_tup1 (evs_var rfl)) (by omega) (fun γ c _ => ?u1) fun γ c d _ e => ?u2).imp fun ds e => ?u3)) eva_nil) ⟨h8, h8'⟩)) st5 fun H6 st6 => ?_
  case u1 =>
    obtain ⟨hand, what, b, e⟩ := c
    cases what with
    | put v => exact evt_test (evs_eqT (d := .str "put") (evs_ixT (ds := Call.l ⟨hand, .put v, b, e⟩) (evs_var rfl) evs_int rfl) evs_str rfl rfl)
    | look l => exact evt_test (evs_eqF (d := .str "look") (e := .str "put") (evs_ixT (ds := Call.l ⟨hand, .look l, b, e⟩) (evs_var rfl) evs_int rfl) evs_str rfl rfl rfl (str_ne (by decide +kernel)))
  case u2 =>
    obtain ⟨hand, what, b, e'⟩ := c
    cases what with
    | put v =>
      cases e
      exact evs_tup (ds := [natD hand, natD v]) (eva_c (evs_ixT (ds := Call.l ⟨hand, .put v, b, e'⟩) (evs_var rfl) evs_int rfl) (eva_c (evs_ixT (ds := Call.l ⟨hand, .put v, b, e'⟩) (evs_var rfl) evs_int rfl) eva_nil))
    | look l => cases e
  case u3 => rw [e, ← List.map_filterMap]
  · have hp6 : H6 p = some (.ins (He.ga K "Record") dx []) := st6.rel.none_same _ _ hp
    have o6 : DT K H6 v (callsD cs) := DT.mono (fun _ _ => sqT_rel .of_none st6.rel) _ _ o
    obtain ⟨v0, ev0, ov0⟩ := st6.ok 0 _ rfl
    obtain ⟨v1, ev1, ov1⟩ := st6.ok 1 _ rfl
    obtain ⟨v2, ev2, ov2⟩ := st6.ok 2 _ rfl
    have q0 : v0 = .ref p := ov0
    have q1 : v1 = .int (m : Nat) := DT.int_inv ov1
    subst q0 q1
    have o6' : DT K H6 v2 (callsD cs) := ov2
    refine ⟨_, ev1, _, ev0, p, He.ga K "Record", dx, [], rfl, hp6, T.cls_Record, T.no_Record_many, (by decide), ?_⟩
    refine ⟨_, ev2, _, ev0, p, He.ga K "Record", dx, _, rfl, upd_same, T.cls_Record, T.no_Record_calls, (by show 1 < 1000; decide), ?_⟩
    rw [upd_upd]
    refine k _ _ (fun b o hb e => ?_) upd_same ?_
    · rw [upd_ne hb]
      exact st6.rel.none_same _ _ e
    · rw [rec_fs]
      exact .cons ⟨rfl, DT.int _⟩ (.cons ⟨rfl, DT.mono (fun _ _ => sqT_ins hp6) _ _ o6'⟩ .nil)
abbrev N_Record_eqx : List Str := ["self", "other"]
theorem sc_Record_eqx : FnScope N_Record_eqx ["self", "other"] (defScope (inClass (top 54) 1)) := ⟨rfl, rfl, rfl, by decide +kernel, rfl, by decide +kernel, by decide +kernel⟩
theorem q_Record (T : TX K mg) : ∃ fd : FuncData, FnOk P w K mg base CX0 3 (He.ma K (He.ga K "Record") "__eq__") fd ["self", "other"] (spEq (likeI K (He.ga K "Record") isRec)) ∧ Binds K fd ["self", "other"] [] := by
  obtain ⟨fd, F⟩ := T.d_Record_eqx
  refine ⟨fd, F.ok sc_Record_eqx (fun vs H Q E h => ?_) (fun cdv A outer s H vs Q E hr h => ?_), (fun F => F.bindsN (ps := ["self", "other"]) fun _ _ _ _ _ _ us hl => match us, hl with | [_, _], _ => rfl) F⟩
  · obtain ⟨a, b, rfl, _⟩ := h
    rfl
  obtain ⟨x, y, rfl, ⟨fs, dx, dy, gs, es, ⟨a, ok, rfl⟩, h1, h2, h3, h4⟩, k⟩ := h
  refine ⟨_, PSs.nox (pss_one (ps_ret (pe_and (pe_callB (C8.call_isC T.ins_Record) (by rfl) T.n_isinstance bt_isinstance (pa_cons (pv 1) (pa_cons (pe_glob (v := .ref (He.ga K "Record")) rfl T.g_Record rfl) pa_nil))) (pe_one (pe_cmpR (op_eqDk (K := K) rfl hr.units) (pe_tup (pa_cons (pe_fld (pv 0) rfl) (pa_cons (pe_fld (pv 0) rfl) pa_nil))) (pe_tup (pa_cons (pe_fld (pv 1) rfl) (pa_cons (pe_fld (pv 1) rfl) pa_nil))) (nomark _)))))), ?_⟩
  have st : StB ⟨K, none, H, []⟩ H (start N_Record_eqx [.ref x, .ref y]) (slots N_Record_eqx [.ins (He.ga K "Record") (recD a), .ins (He.ga K "Record") (recD a)]) := stb_start .of_none (.cons ⟨x, dx, gs, rfl, h1, h3⟩ (.cons ⟨y, dy, es, rfl, h2, h4⟩ .nil)) (by intro s hs ds z; subst z; simp at hs)
  have fk : ∀ i, (i = 0 ∨ i = 1) → EvS ⟨K, none, H, []⟩ (tTup (tCons (tFld K (tVar i) "many") (tCons (tFld K (tVar i) "calls") tNil))) (slots N_Record_eqx [.ins (He.ga K "Record") (recD a), .ins (He.ga K "Record") (recD a)]) (Is (.tuple [natD a.1, callsD a.2])) := fun i hi => by
    have v : (slots N_Record_eqx [.ins (He.ga K "Record") (recD a), .ins (He.ga K "Record") (recD a)])[i]? = some (some (.ins (He.ga K "Record") (recD a))) := by rcases hi with rfl | rfl <;> rfl
    exact evs_tup (ds := [natD a.1, callsD a.2]) (eva_c (evs_fld (B := ⟨K, none, H, []⟩) (evs_var v) T.cls_Record T.no_Record_many (look_many a)) (eva_c (evs_fld (B := ⟨K, none, H, []⟩) (evs_var v) T.cls_Record T.no_Record_calls (look_calls a)) eva_nil))
  have ly : Lay 4 (.tuple [natD a.1, callsD a.2]) := .tup (.cons .int (.cons (lay_calls a.2) fun _ => .nil))
  have ev := evs_andV (evs_isC (B := ⟨K, none, H, []⟩) (evs_var (i := 1) rfl)) fun _ => evs_eqD (B := ⟨K, none, H, []⟩) (fk 0 (.inl rfl)) (fk 1 (.inr rfl)) rfl rfl ly.shaped ly.shaped
  refine ev _ H st _ fun v G s r hh o e => ?_
  subst e
  rw [ly.self] at o
  cases o
  exact k G r.none_same
end
end K32
/-! Walks: texts that are written. -/
namespace K32
open PySem PySem.Spec PyProof.Rows L2 TL
local macro_rules | `(tactic| walk_at "ev") => `(tactic| first
  | exact evs_var rfl | exact evs_own rfl | exact evs_int | exact evs_str | exact evs_bl | exact evs_non
  | exact eva_nil | (apply eva_c <;> walk_at "ev")
  | exact evs_isi (evs_var rfl) rfl kit_int_int | exact evs_isi (evs_var rfl) rfl kit_int_bool | exact evs_isi (evs_var rfl) rfl kit_tuple_tuple | exact evs_isi (evs_var rfl) rfl kit_str_str
  | exact evs_ixT (evs_var rfl) evs_int rfl
  | (apply evs_I0 <;> walk_at "ev") | (apply evs_B0 <;> walk_at "ev")
  | (apply evs_andV <;> walk_at "ev") | (apply evs_orV <;> walk_at "ev") | (apply evs_notV; walk_at "ev")
  | (apply evs_chain <;> walk_at "ev")
  | (apply evs_neg; walk_at "ev")
  | (apply evt_test; walk_at "ev") | (apply evt_B; walk_at "ev") | (apply evt_not; walk_at "ev")
  | (apply evt_and1 <;> walk_at "ev") | (apply evt_or1 <;> walk_at "ev")
  | (intro _; walk_at "ev"))
local macro_rules | `(tactic| walk_at "ret") => `(tactic| (apply sx_ret; walk_at "ev"))
theorem deedW_l (x : Deed) : deedW x = x.l := by cases x <;> rfl
/-- a row and its words -/
def RowRel : Inp → PyData → List PyData → Prop
  | .man _ _, r, w => ∃ s, r = scrD s ∧ scrOk s ∧ w = s.flatMap deedW
  | .lev _, r, w => ∃ n : Nat, r = natD n ∧ n < 1000 ∧ w = [natD n]
  | .nam _, r, w => ∃ n : Nat, r = natD n ∧ n < 1000 ∧ w = [natD n]
  | .near _ _, r, w => ∃ v : Int, r = .int v ∧ (-1000 ≤ v ∧ v ≤ 1000) ∧ w = [.int v]
  | .cha _, r, w => ∃ l, r = lotD l ∧ lotOk l ∧ w = l.map natD
def rowsP (i : Inp) : List (PyData × List PyData) := match i with
  | .man _ ss => ss.map fun s => (scrD s, s.flatMap deedW)
  | .lev vs => vs.map fun v => (natD v, [natD v])
  | .nam vs => vs.map fun v => (natD v, [natD v])
  | .near _ vs => vs.map fun v => (.int v, [.int v])
  | .cha ls => ls.map fun l => (lotD l, l.map natD)
theorem rowsP_fst (i : Inp) : (rowsP i).map (·.1) = i.rows := by
  cases i <;> (simp only [rowsP, Inp.rows, List.map_map]; exact List.map_congr_left fun _ _ => rfl)
theorem rowsP_snd (i : Inp) : (rowsP i).map (·.2) = rowW i := by
  cases i <;> (simp only [rowsP, rowW, List.map_map]; exact List.map_congr_left fun _ _ => rfl)
theorem rowsP_rel {i : Inp} (h : i.ok) : ∀ p ∈ rowsP i, RowRel i p.1 p.2 := by
  obtain ⟨_, h⟩ := h
  intro p hp
  cases i with
  | man k ss => obtain ⟨s, hs, rfl⟩ := List.mem_map.mp hp; exact ⟨s, rfl, h s hs, rfl⟩
  | lev vs => obtain ⟨s, hs, rfl⟩ := List.mem_map.mp hp; exact ⟨s, rfl, h s hs, rfl⟩
  | nam vs => obtain ⟨s, hs, rfl⟩ := List.mem_map.mp hp; exact ⟨s, rfl, h.1 s hs, rfl⟩
  | near r vs => obtain ⟨s, hs, rfl⟩ := List.mem_map.mp hp; exact ⟨s, rfl, h.2 s hs, rfl⟩
  | cha ls => obtain ⟨s, hs, rfl⟩ := List.mem_map.mp hp; exact ⟨s, rfl, h s hs, rfl⟩
theorem rowsP_len (i : Inp) : (rowsP i).length = i.rows.length := by rw [← rowsP_fst, List.length_map]
theorem rowsP_line {i : Inp} (h : i.ok) : ∀ p ∈ rowsP i, LineOk (.str "hand" :: p.2) := fun p hp => by
  obtain ⟨h1, h2⟩ := rowW_ok h p.2 (by rw [← rowsP_snd]; exact List.mem_map.mpr ⟨p, hp, rfl⟩)
  exact lineOk_cons okw_hand (by omega) h2
section
variable {P : Program} {w : World} {K : PySem.W.Frag} {mg : Str → Option Value} {base : Heap}
abbrev N_line_of : List Str := ["words", "word"]
theorem sc_line_of : FnScope N_line_of ["words"] (defScope (top 71)) := ⟨rfl, rfl, rfl, by decide +kernel, rfl, by decide +kernel, by decide +kernel⟩
theorem c_line_of (T : TX K mg) : C8.Cal P w K mg base 1 "line_of" (spS K (fun ds : List PyData => [.lst ds]) LineOk (fun ds => Is (.str (lineD ds)))) [] := by
  refine cal_of T.d_line_of (fun F => F.bindsN (ps := ["words"]) fun _ _ _ _ _ _ us hl => match us, hl with | [_], _ => rfl) fun F => fnS F sc_line_of (fun _ => rfl) (by intro a s hs ds z; subst z; simp at hs) fun cdv A outer s H E a hr ha => ?_
  refine ⟨_, (pss_one (ps_ret (pe_jn (C8.pe_gc rfl T.c_BLANK) (pe_lc (own := [("word", 1)]) (g := gName 1) (by rfl) sc_line_of.nd (pi_list (pv 0)) (blkOk_by (own := [("word", 1)]) (N := N_line_of) (sc := defScope (top 71)) (by decide +kernel)) (fun _ _ _ _ _ => (pg_name (i := 1) sc_line_of.nd rfl (Or.inl rfl))) (fun _ _ _ _ _ => pts_nil) (fun _ _ _ _ _ => (pe_callTy b_str (by rfl) T.n_str bt_str (pa_cons (pv 1) pa_nil))))))), ?_⟩
  obtain ⟨h1, h2, h3⟩ := ha
  have id0 : a.map (fun d => d) = a := List.map_id' a
  have e1 : (a.map wordD).map PyData.str = a.map fun d => PyData.str (wordD d) := by rw [List.map_map]; rfl
  refine sx_ret (evs_join (x := BL) (ys := a.map wordD) evs_str (EvL.evs1 (by rw [e1]; exact evl_mapL (L := a) (F := fun d => d) (by rw [id0]; exact evi_lst rfl) (by omega) fun γ d hd => evs_str1 (evs_var rfl) (h3 d hd).1)) ?_) rfl
  have : ((a.map wordD).map (·.length)).sum ≤ 30 * (a.map wordD).length := by
    have := sum_le (l := (a.map wordD).map (·.length)) (k := 30) fun x hx => by
      obtain ⟨y, hy, rfl⟩ := List.mem_map.mp hx
      obtain ⟨d, hd, rfl⟩ := List.mem_map.mp hy
      exact (h3 d hd).2.2.2
    rwa [List.length_map (as := a.map wordD)] at this
  rw [show BL.length = 1 by decide +kernel]
  rw [List.length_map] at this ⊢
  omega
abbrev N_closed_rows : List Str := ["rows", "row"]
theorem sc_closed_rows : FnScope N_closed_rows ["rows"] (defScope (top 72)) := ⟨rfl, rfl, rfl, by decide +kernel, rfl, by decide +kernel, by decide +kernel⟩
theorem c_closed_rows (T : TX K mg) : C8.Cal P w K mg base 1 "closed_rows" (spS K (fun rows : List Str => [.lst (rows.map PyData.str)]) (fun rows => rows.length ≤ 400 ∧ ∀ r ∈ rows, r.length ≤ 3100) (fun rows => Is (.str (closedS rows)))) [] := by
  refine cal_of T.d_closed_rows (fun F => F.bindsN (ps := ["rows"]) fun _ _ _ _ _ _ us hl => match us, hl with | [_], _ => rfl) fun F => fnS F sc_closed_rows (fun _ => rfl) (by intro a s hs ds z; subst z; simp at hs) fun cdv A outer s H E a hr ha => ?_
  refine ⟨_, (pss_one (ps_ret (pe_jn pe_str (pe_lc (own := [("row", 1)]) (g := gName 1) (by rfl) sc_closed_rows.nd (pi_list (pv 0)) (blkOk_by (own := [("row", 1)]) (N := N_closed_rows) (sc := defScope (top 72)) (by decide +kernel)) (fun _ _ _ _ _ => (pg_name (i := 1) sc_closed_rows.nd rfl (Or.inl rfl))) (fun _ _ _ _ _ => pts_nil) (fun _ _ _ _ _ => (pe_op o_addS (pv 1) (C8.pe_gc rfl T.c_LINE_END))))))), ?_⟩
  have n1 : NLs.length = 1 := by decide +kernel
  have e1 : (a.map (· ++ NLs)).map PyData.str = a.map fun r => PyData.str (r ++ NLs) := by rw [List.map_map]; rfl
  refine sx_ret (evs_join (x := "") (ys := a.map (· ++ NLs)) evs_str (EvL.evs1 (by rw [e1]; exact evl_mapL (L := a) (F := PyData.str) (evi_lst rfl) (by omega) fun γ r hr => evs_addS (x := r) (y := NLs) (evs_var rfl) evs_str (by have := ha.2 r hr; omega))) ?_) rfl
  have : ((a.map (· ++ NLs)).map (·.length)).sum ≤ 3101 * (a.map (· ++ NLs)).length := by
    have := sum_le (l := (a.map (· ++ NLs)).map (·.length)) (k := 3101) fun x hx => by
      obtain ⟨y, hy, rfl⟩ := List.mem_map.mp hx
      obtain ⟨r, hr, rfl⟩ := List.mem_map.mp hy
      show (r ++ NLs).length ≤ _
      rw [len_tl, tl_append, List.length_append, ← len_tl, ← len_tl, n1]
      have := ha.2 r hr
      omega
    rwa [List.length_map (as := a.map (· ++ NLs))] at this
  rw [show ("" : Str).length = 0 by decide +kernel]
  rw [List.length_map] at this ⊢
  have := ha.1
  omega
abbrev N_deed_words : List Str := ["script", "found", "deed"]
theorem sc_deed_words : FnScope N_deed_words ["script"] (defScope (top 73)) := ⟨rfl, rfl, rfl, by decide +kernel, rfl, by decide +kernel, by decide +kernel⟩
theorem c_deed_words (T : TX K mg) : C8.Cal P w K mg base 1 "deed_words" (spS K (fun s : List Deed => [.dat (scrD s)]) scrOk (fun s x => x = .lst (s.flatMap deedW))) [] := by
  refine cal_of T.d_deed_words (fun F => F.bindsN (ps := ["script"]) fun _ _ _ _ _ _ us hl => match us, hl with | [_], _ => rfl) fun F => fnS F sc_deed_words (fun _ => rfl) (by intro a s hs ds z; subst z; simp at hs) fun cdv A outer s H E a hr ha => ?_
  refine ⟨_, (pss_cons (ps_set (i := 1) sc_deed_words.nd rfl (Or.inl rfl) (pe_lst pa_nil)) (pss_cons (ps_for PassesOwn.never rfl (pi_tup (pv 0)) (pg_name (i := 2) sc_deed_words.nd rfl (Or.inl rfl)) (pss_one (ps_expr (pe_ext (pv 1) (pe_callTy b_listO (by rfl) T.n_list bt_list (pa_cons (pv 2) pa_nil)))))) (pss_one (ps_ret (pv 1))))), ?_⟩
  have hz := ha.1
  refine q_asgL1 (evl_lst (ds := []) eva_nil) ?_
  refine sx_seq (G := fun δ => ∃ x, δ = [some (.dat (scrD a)), some (.own (a.flatMap deedW)), x]) (sx_forL (L := a) (F := Deed.d) (fun pre δ => ∃ x, δ = [some (.dat (scrD a)), some (.own (pre.flatMap deedW)), x]) (evi_tup1 (evs_var rfl)) ⟨none, rfl⟩ (fun γ pre x post δ' el q => ?_) fun δ' q => q) fun δ' q => ?_
  · obtain ⟨y, e⟩ := q
    subst e
    refine sx_ext (i := 1) (P := (· = deedW x)) rfl (evl_list (s := .dat x.d) (evs_var rfl) (.inr (by rw [deedW_l]; rfl))) (fun es e => ?_) fun es e => ?_
    · subst e
      have h1 := flat_len pre
      have h2 := deedW_len x
      have h3 : pre.length ≤ a.length := by rw [el, List.length_append]; omega
      omega
    · subst e
      refine ⟨some (.dat x.d), ?_⟩
      rw [List.flatMap_append]
      simp only [List.flatMap_cons, List.flatMap_nil, List.append_nil]
      rfl
  · obtain ⟨y, e⟩ := q
    subst e
    exact sx_retO (i := 1) rfl rfl
theorem evs_kind {B : Bx} {δ : Dn} {i : Nat} {a : Inp} (T : TX B.K mg) (h : δ[i]? = some (some (.ins (He.ga B.K "Play") (playD a)))) : EvS B (tFld B.K (tVar i) "kind") δ (Is (.str a.kind)) := evs_fld (evs_var h) T.cls_Play T.no_Play_kind (look_kind a)
theorem evs_rows {B : Bx} {δ : Dn} {i : Nat} {a : Inp} (T : TX B.K mg) (h : δ[i]? = some (some (.ins (He.ga B.K "Play") (playD a)))) : EvS B (tFld B.K (tVar i) "rows") δ (Is (.tuple a.rows)) := evs_fld (evs_var h) T.cls_Play T.no_Play_rows (look_rows a)
theorem evs_inputs {B : Bx} {δ : Dn} {i : Nat} {a : Inp} (T : TX B.K mg) (h : δ[i]? = some (some (.ins (He.ga B.K "Play") (playD a)))) : EvS B (tFld B.K (tVar i) "inputs") δ (Is a.inputs) := evs_fld (evs_var h) T.cls_Play T.no_Play_inputs (look_inputs a)
/-- its kind is one of the manners; is near; is chain -/
theorem evs_isMan {B : Bx} {δ : Dn} {te : TE} {a : Inp} (T : TX B.K mg) (h : EvS B te δ (Is (.str a.kind))) : EvS B (tOp (rIn B.K false) te (tC (.ref (He.ga B.K "MANNERS")))) δ (Is (.bool a.isMan)) := evs_is (evs_in h (evs_mann T) rfl rfl (by decide)) (kind_man a)
def Inp.isNear : Inp → Bool
  | .near _ _ => true
  | _ => false
def Inp.isCha : Inp → Bool
  | .cha _ => true
  | _ => false
def Inp.isNam : Inp → Bool
  | .nam _ => true
  | _ => false
def Inp.isLev : Inp → Bool
  | .lev _ => true
  | _ => false
theorem kind_dec (a : Inp) : decide (a.kind = ("near" : Str)) = a.isNear ∧ decide (a.kind = ("chain" : Str)) = a.isCha ∧ decide (a.kind = ("names" : Str)) = a.isNam ∧ decide (a.kind = ("levels" : Str)) = a.isLev := by
  cases a with
  | man k ss =>
    cases k with
    | sweep => exact ⟨decide_eq_false (show ¬ ("sweep" : Str) = "near" by decide +kernel), decide_eq_false (show ¬ ("sweep" : Str) = "chain" by decide +kernel), decide_eq_false (show ¬ ("sweep" : Str) = "names" by decide +kernel), decide_eq_false (show ¬ ("sweep" : Str) = "levels" by decide +kernel)⟩
    | twice => exact ⟨decide_eq_false (show ¬ ("twice" : Str) = "near" by decide +kernel), decide_eq_false (show ¬ ("twice" : Str) = "chain" by decide +kernel), decide_eq_false (show ¬ ("twice" : Str) = "names" by decide +kernel), decide_eq_false (show ¬ ("twice" : Str) = "levels" by decide +kernel)⟩
    | borrow => exact ⟨decide_eq_false (show ¬ ("borrow" : Str) = "near" by decide +kernel), decide_eq_false (show ¬ ("borrow" : Str) = "chain" by decide +kernel), decide_eq_false (show ¬ ("borrow" : Str) = "names" by decide +kernel), decide_eq_false (show ¬ ("borrow" : Str) = "levels" by decide +kernel)⟩
  | lev vs => exact ⟨decide_eq_false (show ¬ ("levels" : Str) = "near" by decide +kernel), decide_eq_false (show ¬ ("levels" : Str) = "chain" by decide +kernel), decide_eq_false (show ¬ ("levels" : Str) = "names" by decide +kernel), decide_eq_true (show  ("levels" : Str) = "levels" by decide +kernel)⟩
  | nam vs => exact ⟨decide_eq_false (show ¬ ("names" : Str) = "near" by decide +kernel), decide_eq_false (show ¬ ("names" : Str) = "chain" by decide +kernel), decide_eq_true (show  ("names" : Str) = "names" by decide +kernel), decide_eq_false (show ¬ ("names" : Str) = "levels" by decide +kernel)⟩
  | near r vs => exact ⟨decide_eq_true (show  ("near" : Str) = "near" by decide +kernel), decide_eq_false (show ¬ ("near" : Str) = "chain" by decide +kernel), decide_eq_false (show ¬ ("near" : Str) = "names" by decide +kernel), decide_eq_false (show ¬ ("near" : Str) = "levels" by decide +kernel)⟩
  | cha vs => exact ⟨decide_eq_false (show ¬ ("chain" : Str) = "near" by decide +kernel), decide_eq_true (show  ("chain" : Str) = "chain" by decide +kernel), decide_eq_false (show ¬ ("chain" : Str) = "names" by decide +kernel), decide_eq_false (show ¬ ("chain" : Str) = "levels" by decide +kernel)⟩
theorem dec_vOf (x y : Str) : decide (vOf (.str x) = vOf (.str y)) = decide (x = y) := by
  by_cases h : x = y
  · rw [decide_eq_true h, decide_eq_true (by rw [h])]
  · rw [decide_eq_false h, decide_eq_false (str_ne h)]
theorem evs_isK {B : Bx} {δ : Dn} {te : TE} {x y : Str} {b : Bool} (h : EvS B te δ (Is (.str x))) (e : decide (x = y) = b) : EvS B (tOp rEq te (tC (.str y))) δ (Is (.bool b)) := evs_is (evs_eq (d := .str x) (e := .str y) h evs_str rfl rfl rfl) (by rw [dec_vOf, e])
abbrev plS (K : PySem.W.Frag) (i : Inp) : Sv := .ins (He.ga K "Play") (playD i)
abbrev N_hand_line : List Str := ["play", "row"]
theorem sc_hand_line : FnScope N_hand_line ["play", "row"] (defScope (top 74)) := ⟨rfl, rfl, rfl, by decide +kernel, rfl, by decide +kernel, by decide +kernel⟩
theorem c_hand_line (T : TX K mg) : C8.Cal P w K mg base 2 "hand_line" (spS K (fun x : Inp × PyData × List PyData => [plS K x.1, .dat x.2.1]) (fun x => RowRel x.1 x.2.1 x.2.2 ∧ LineOk (.str "hand" :: x.2.2)) (fun x => Is (.str (lineD (.str "hand" :: x.2.2))))) [] := by
  refine cal_of T.d_hand_line (fun F => F.bindsN (ps := ["play", "row"]) fun _ _ _ _ _ _ us hl => match us, hl with | [_, _], _ => rfl) fun F => fnS F sc_hand_line (fun _ => rfl) (by intro a s hs ds z; subst z; simp at hs) fun cdv A outer s H E a hr ha => ?_
  refine ⟨_, (pss_cons (ps_if (pt_cmpR op_in_seq (pe_fld (pv 0) rfl) (C8.pe_gc rfl T.c_MANNERS) (by rfl)) (pss_one (ps_ret (C8.pe_c (c_line_of T) hr (by decide) rfl (pa_cons (pe_op op_cat (pe_lst (pa_cons (C8.pe_gc rfl T.c_HAND) pa_nil)) (C8.pe_c (c_deed_words T) hr (by decide) rfl (pa_cons (pv 1) pa_nil))) pa_nil)))) pss_nil) (pss_one (ps_ret (C8.pe_c (c_line_of T) hr (by decide) rfl (pa_cons (pe_op op_cat (pe_lst (pa_cons (C8.pe_gc rfl T.c_HAND) pa_nil)) (pe_ifExp (pt_cmpR op_eq (pe_fld (pv 0) rfl) (C8.pe_gc rfl T.c_CHAIN) (nomark _)) (pe_callTy b_listO (by rfl) T.n_list bt_list (pa_cons (pv 1) pa_nil)) (pe_lst (pa_cons (pv 1) pa_nil)))) pa_nil))))), ?_⟩
  obtain ⟨i, r, ws⟩ := a
  obtain ⟨h1, h2⟩ := ha
  have hm : EvT ⟨K, none, H, []⟩ (tTest (tOp (rIn K false) (tFld K (tVar 0) "kind") (tC (.ref (He.ga K "MANNERS"))))) (slots N_hand_line [plS K i, .dat r]) (· = i.isMan) := evt_test (evs_isMan (B := ⟨K, none, H, []⟩) T (evs_kind (B := ⟨K, none, H, []⟩) T rfl))
  have hk : EvT ⟨K, none, H, []⟩ (tTest (tOp rEq (tFld K (tVar 0) "kind") (tC (.str "chain")))) (slots N_hand_line [plS K i, .dat r]) (· = i.isCha) := evt_test (evs_isK (evs_kind (B := ⟨K, none, H, []⟩) T rfl) (kind_dec i).2.1)
  have hl : ws.length ≤ 100 := by have h3 : (PyData.str "hand" :: ws).length ≤ 100 := h2.2.1; rw [List.length_cons] at h3; omega
  have one : ∀ {te : TE}, EvL ⟨K, none, H, []⟩ te (slots N_hand_line [plS K i, .dat r]) (· = ws) → EvS ⟨K, none, H, []⟩ (tCall (spS K (fun ds : List PyData => [.lst ds]) LineOk (fun ds => Is (.str (lineD ds)))) [] C8.E0 (tCons (tOp rCat (tLst (tCons (tC (.str "hand")) tNil)) te) tNil)) (slots N_hand_line [plS K i, .dat r]) (Is (.str (lineD (.str "hand" :: ws)))) := fun he =>
    evs_call1 (B := ⟨K, none, H, []⟩) (.str "hand" :: ws) (eva_c (EvL.evs1 (evl_cat (ds := [.str "hand"]) (EvL.evs1 (evl_lst (ds := [.str "hand"]) (eva_c evs_str eva_nil))) he.evs1 (by show 1 + ws.length ≤ _; omega))) eva_nil) h2
  cases hman : i.isMan with
  | true =>
    rw [hman] at hm
    obtain ⟨s, rfl, hs, rfl⟩ : ∃ s, r = scrD s ∧ scrOk s ∧ ws = s.flatMap deedW := by cases i <;> first | exact h1 | cases hman
    exact sx_seq (G := fun _ => False) (sx_yes hm (sx_ret (one (evl_call (P := (· = [.dat (scrD s)])) (eva_c (evs_var rfl) eva_nil) fun ss e => ⟨s, e, hs, fun x q => ⟨_, q, rfl⟩⟩)) rfl)) fun _ q => q.elim
  | false =>
    rw [hman] at hm
    refine q_no hm (sx_ret (one (evl_if hk (fun e => ?_) fun e => ?_)) rfl)
    · obtain ⟨l, rfl, hs, rfl⟩ : ∃ l, r = lotD l ∧ lotOk l ∧ ws = l.map natD := by cases i <;> first | exact h1 | cases e
      exact evl_list (s := .dat (lotD l)) (evs_var rfl) (.inr rfl)
    · have : ws = [r] := by
        cases i with
        | man k ss => cases hman
        | lev vs => obtain ⟨n, rfl, _, rfl⟩ := h1; rfl
        | nam vs => obtain ⟨n, rfl, _, rfl⟩ := h1; rfl
        | near k vs => obtain ⟨n, rfl, _, rfl⟩ := h1; rfl
        | cha ls => cases e
      subst this
      exact evl_lst (ds := [r]) (eva_c (evs_var rfl) eva_nil)
end
end K32
/-! Walks: texts that are written, whole. -/
namespace K32
open PySem PySem.Spec PyProof.Rows L2 TL
local macro_rules | `(tactic| walk_at "ev") => `(tactic| first
  | exact evs_var rfl | exact evs_own rfl | exact evs_int | exact evs_str | exact evs_bl | exact evs_non
  | exact eva_nil | (apply eva_c <;> walk_at "ev")
  | exact evs_isi (evs_var rfl) rfl kit_int_int | exact evs_isi (evs_var rfl) rfl kit_int_bool | exact evs_isi (evs_var rfl) rfl kit_tuple_tuple | exact evs_isi (evs_var rfl) rfl kit_str_str
  | exact evs_ixT (evs_var rfl) evs_int rfl
  | (apply evs_I0 <;> walk_at "ev") | (apply evs_B0 <;> walk_at "ev")
  | (apply evs_andV <;> walk_at "ev") | (apply evs_orV <;> walk_at "ev") | (apply evs_notV; walk_at "ev")
  | (apply evs_chain <;> walk_at "ev")
  | (apply evs_neg; walk_at "ev")
  | (apply evt_test; walk_at "ev") | (apply evt_B; walk_at "ev") | (apply evt_not; walk_at "ev")
  | (apply evt_and1 <;> walk_at "ev") | (apply evt_or1 <;> walk_at "ev")
  | (intro _; walk_at "ev"))
local macro_rules | `(tactic| walk_at "ret") => `(tactic| (apply sx_ret; walk_at "ev"))
abbrev reS (K : PySem.W.Frag) (r : Nat × List Call) : Sv := .ins (He.ga K "Record") (recD r)
theorem textD_eq (ls : List (List PyData)) : textD ls = closedS (ls.map lineD) := rfl
theorem text_rows {ls : List (List PyData)} (h : ∀ l ∈ ls, LineOk l) : ∀ r ∈ ls.map lineD, r.length ≤ 3100 := fun r hr => by
  obtain ⟨l, hl, rfl⟩ := List.mem_map.mp hr
  exact (h l hl).len
def weW (ns : List Nat) : List PyData := .str "weaving" :: ns.map natD
theorem weW_ok {ns : List Nat} (h : ns.length ≤ 90) (hn : ∀ n ∈ ns, n < 10 ^ 20) : LineOk (weW ns) := lineOk_cons okw_weaving (by rw [List.length_map]; omega) fun e he => by
  obtain ⟨n, hm, rfl⟩ := List.mem_map.mp he
  exact okw_nat (hn n hm)
section
variable {P : Program} {w : World} {K : PySem.W.Frag} {mg : Str → Option Value} {base : Heap}
abbrev N_play_text : List Str := ["play", "rows", "row"]
theorem sc_play_text : FnScope N_play_text ["play"] (defScope (top 75)) := ⟨rfl, rfl, rfl, by decide +kernel, rfl, by decide +kernel, by decide +kernel⟩
theorem c_play_text (T : TX K mg) : C8.Cal P w K mg base 3 "play_text" (spS K (fun i : Inp => [plS K i]) Inp.ok (fun i => Is (.str (textD (plW i))))) [] := by
  refine cal_of T.d_play_text (fun F => F.bindsN (ps := ["play"]) fun _ _ _ _ _ _ us hl => match us, hl with | [_], _ => rfl) fun F => fnS F sc_play_text (fun _ => rfl) (by intro a s hs ds z; subst z; simp at hs) fun cdv A outer s H E a hr ha => ?_
  refine ⟨_, (pss_cons (ps_set (i := 1) sc_play_text.nd rfl (Or.inl rfl) (pe_lst (pa_cons (C8.pe_c (c_line_of T) hr (by decide) rfl (pa_cons (pe_lst (pa_cons (C8.pe_gc rfl T.c_KIND) (pa_cons (pe_fld (pv 0) rfl) pa_nil))) pa_nil)) pa_nil))) (pss_cons (ps_if (pt_cmpR op_eq (pe_fld (pv 0) rfl) (C8.pe_gc rfl T.c_NEAR) (nomark _)) (pss_one (ps_expr (pe_app (pv 1) (C8.pe_c (c_line_of T) hr (by decide) rfl (pa_cons (pe_lst (pa_cons (C8.pe_gc rfl T.c_ROUNDS) (pa_cons (pe_ix ix_tup (pe_fld (pv 0) rfl) pe_int (fun _ _ => rfl)) pa_nil))) pa_nil))))) pss_nil) (pss_one (ps_ret (C8.pe_c (c_closed_rows T) hr (by decide) rfl (pa_cons (pe_op op_cat (pv 1) (pe_lc (own := [("row", 2)]) (g := gName 2) (by rfl) sc_play_text.nd (pi_tup (pe_fld (pv 0) rfl)) (blkOk_by (own := [("row", 2)]) (N := N_play_text) (sc := defScope (top 75)) (by decide +kernel)) (fun _ _ _ _ _ => (pg_name (i := 2) sc_play_text.nd rfl (Or.inl rfl))) (fun _ _ _ _ _ => pts_nil) (fun _ _ _ _ _ => (C8.pe_c (c_hand_line T) hr (by decide) rfl (pa_cons (pv 0) (pa_cons (pv 2) pa_nil)))))) pa_nil)))))), ?_⟩
  have ok := plW_ok ha
  have hk := ok _ List.mem_cons_self
  refine q_asgL1 (evl_lst (ds := [.str (lineD [.str "kind", .str a.kind])]) (eva_c (evs_call1 (α := List PyData) [.str "kind", .str a.kind] (eva_c (EvL.evs1 (evl_lst (ds := [.str "kind", .str a.kind]) (eva_c evs_str (eva_c (evs_kind (B := ⟨K, none, H, []⟩) T rfl) eva_nil)))) eva_nil) hk) eva_nil)) ?_
  have hn : EvT ⟨K, none, H, []⟩ (tTest (tOp rEq (tFld K (tVar 0) "kind") (tC (.str "near")))) [some (plS K a), some (.own [.str (lineD [.str "kind", .str a.kind])]), none] (· = a.isNear) := evt_test (evs_isK (evs_kind (B := ⟨K, none, H, []⟩) T rfl) (kind_dec a).1)
  refine sx_seq (G := (· = [some (plS K a), some (.own ((lineD [.str "kind", .str a.kind] :: (headW a).map lineD).map PyData.str)), none])) ?f1 fun δ' e => ?f2
  case f1 =>
    cases a with
    | near r vs => exact sx_yes hn (sx_app1 (i := 1) rfl (evs_call1 (α := List PyData) [.str "rounds", natD r] (eva_c (EvL.evs1 (evl_lst (ds := [.str "rounds", natD r]) (eva_c evs_str (eva_c (evs_ixT (ds := [natD r, .tuple (vs.map PyData.int)]) (evs_inputs (B := ⟨K, none, H, []⟩) (a := .near r vs) T rfl) evs_int rfl) eva_nil)))) eva_nil) (ok _ (List.mem_cons_of_mem _ List.mem_cons_self))) (show 1 ≤ 1000000 by decide) rfl)
    | man k ss => exact sx_no hn (sx_next rfl)
    | lev vs => exact sx_no hn (sx_next rfl)
    | nam vs => exact sx_no hn (sx_next rfl)
    | cha vs => exact sx_no hn (sx_next rfl)
  case f2 =>
    subst e
    refine sx_ret (evs_call1 (α := List Str) ((plW a).map lineD) (eva_c (EvL.evs1 ((evl_cat (evs_own rfl) (EvL.evs1 (evl_mapL (L := rowsP a) (F := fun p => p.1) (f := fun p => PyData.str (lineD (.str "hand" :: p.2))) (by rw [rowsP_fst]; exact evi_tup1 (evs_rows (B := ⟨K, none, H, []⟩) T rfl)) (by have := rowsP_len a; have := ha.1.2; omega) fun γ p hp => evs_call1 (B := Bx.add ⟨K, none, H, []⟩ γ) (a, p.1, p.2) (eva_c (evs_var rfl) (eva_c (evs_var rfl) eva_nil)) ⟨rowsP_rel ha p hp, rowsP_line ha p hp⟩)) ?g1).imp fun ds e => ?g2)) eva_nil) ⟨?g3, text_rows ok⟩) rfl
    case g1 =>
      have h1 := plW_len ha
      have h2 := rowsP_len a
      have h3 := ha.1.2
      have h4 : (headW a).length ≤ 1 := by cases a <;> simp [headW]
      simp only [List.length_map, List.length_cons]
      omega
    case g2 =>
      rw [e]
      unfold plW
      rw [List.map_cons, List.map_cons, List.map_cons, List.map_append, List.map_append, ← rowsP_snd, List.map_map, List.map_map, List.map_map, List.map_map]
      rfl
    case g3 =>
      rw [List.length_map]; have := plW_len ha; omega
abbrev N_weaving_text : List Str := ["weaving"]
theorem sc_weaving_text : FnScope N_weaving_text ["weaving"] (defScope (top 76)) := ⟨rfl, rfl, rfl, by decide +kernel, rfl, by decide +kernel, by decide +kernel⟩
theorem c_weaving_text (T : TX K mg) : C8.Cal P w K mg base 2 "weaving_text" (spS K (fun x : List Nat × Bool => [if x.2 then .lst (x.1.map natD) else .dat (.tuple (x.1.map natD))]) (fun x => x.1.length ≤ 90 ∧ ∀ n ∈ x.1, n < 10 ^ 20) (fun x => Is (.str (textD [weW x.1])))) [] := by
  refine cal_of T.d_weaving_text (fun F => F.bindsN (ps := ["weaving"]) fun _ _ _ _ _ _ us hl => match us, hl with | [_], _ => rfl) fun F => fnS F sc_weaving_text (fun _ => rfl) (by intro a s hs ds z; subst z; have := List.mem_singleton.mp hs; split at this <;> cases this) fun cdv A outer s H E a hr ha => ?_
  refine ⟨_, (pss_one (ps_ret (C8.pe_c (c_closed_rows T) hr (by decide) rfl (pa_cons (pe_lst (pa_cons (C8.pe_c (c_line_of T) hr (by decide) rfl (pa_cons (pe_op op_cat (pe_lst (pa_cons (C8.pe_gc rfl T.c_WEAVING) pa_nil)) (pe_callTy b_listO (by rfl) T.n_list bt_list (pa_cons (pv 0) pa_nil))) pa_nil)) pa_nil)) pa_nil)))), ?_⟩
  obtain ⟨ns, b⟩ := a
  obtain ⟨h1, h2⟩ := ha
  have ok := weW_ok h1 h2
  have hl : EvL ⟨K, none, H, []⟩ (tCB (rListO K) (tCons (tVar 0) tNil)) (slots N_weaving_text [if b then .lst (ns.map natD) else .dat (.tuple (ns.map natD))]) (· = ns.map natD) := by
    cases b with
    | true => exact evl_list (B := ⟨K, none, H, []⟩) (s := .lst (ns.map natD)) (evs_var rfl) (.inl rfl)
    | false => exact evl_list (B := ⟨K, none, H, []⟩) (s := .dat (.tuple (ns.map natD))) (evs_var rfl) (.inr rfl)
  exact sx_ret (evs_call1 (α := List Str) [lineD (weW ns)] (eva_c (EvL.evs1 (evl_lst (ds := [.str (lineD (weW ns))]) (eva_c (evs_call1 (α := List PyData) (weW ns) (eva_c (EvL.evs1 (evl_cat (ds := [.str "weaving"]) (EvL.evs1 (evl_lst (ds := [.str "weaving"]) (eva_c evs_str eva_nil))) hl.evs1 (by rw [List.length_map]; show 1 + ns.length ≤ _; have : ns.length ≤ 90 := h1; omega))) eva_nil) ok) eva_nil))) eva_nil) ⟨show 1 ≤ 400 by decide, text_rows (ls := [weW ns]) (fun l hl => by rw [List.mem_singleton.mp hl]; exact ok)⟩) rfl
abbrev N_told_word : List Str := ["thing"]
theorem sc_told_word : FnScope N_told_word ["thing"] (defScope (top 77)) := ⟨rfl, rfl, rfl, by decide +kernel, rfl, by decide +kernel, by decide +kernel⟩
theorem c_told_word (T : TX K mg) : C8.Cal P w K mg base 1 "told_word" (spS K (fun o : Option Nat => [.dat (optD o)]) (fun o => ∀ x, o = some x → x < 10 ^ 20) (fun o => Is (.str (wordD (optW o))))) [] := by
  refine cal_of T.d_told_word (fun F => F.bindsN (ps := ["thing"]) fun _ _ _ _ _ _ us hl => match us, hl with | [_], _ => rfl) fun F => fnS F sc_told_word (fun _ => rfl) (by intro a s hs ds z; subst z; simp at hs) fun cdv A outer s H E a hr ha => ?_
  refine ⟨_, (pss_one (ps_ret (pe_ifExp (pt_cmpR o_isN (pv 0) pe_non (nomark _)) (C8.pe_gc rfl T.c_NOTHING) (pe_callTy b_str (by rfl) T.n_str bt_str (pa_cons (pv 0) pa_nil))))), ?_⟩
  cases a with
  | none => exact sx_ret (evs_ifT (evt_test (evs_isN (s := .dat .none) (evs_var rfl))) evs_str) rfl
  | some n => exact sx_ret (evs_ifF (evt_test (evs_isN (s := .dat (natD n)) (evs_var rfl))) (evs_str1 (d := natD n) (evs_var rfl) (okw_nat (ha n rfl)).1)) rfl
theorem optW_word {o : Option Nat} : wordD (.str (wordD (optW o))) = wordD (optW o) := rfl
abbrev N_call_line : List Str := ["call", "word", "hand", "what", "begin", "end", "item"]
theorem sc_call_line : FnScope N_call_line ["call"] (defScope (top 78)) := ⟨rfl, rfl, rfl, by decide +kernel, rfl, by decide +kernel, by decide +kernel⟩
theorem c_call_line (T : TX K mg) : C8.Cal P w K mg base 2 "call_line" (spS K (fun c : Call => [.dat c.d]) (fun c => (∃ m, m ≤ 8 ∧ c.okAt m) ∧ c.short) (fun c => Is (.str (lineD (callW c))))) [] := by
  refine cal_of T.d_call_line (fun F => F.bindsN (ps := ["call"]) fun _ _ _ _ _ _ us hl => match us, hl with | [_], _ => rfl) fun F => fnS F sc_call_line (fun _ => rfl) (by intro a s hs ds z; subst z; simp at hs) fun cdv A outer s H E a hr ha => ?_
  refine ⟨_, (pss_cons (ps_asg (pv 0) (pg_is (is := [1, 2, 3, 4, 5]) (pg_tup rfl (pgs_cons (pg_name (i := 1) sc_call_line.nd rfl (Or.inl rfl)) (pgs_cons (pg_name (i := 2) sc_call_line.nd rfl (Or.inl rfl)) (pgs_cons (pg_name (i := 3) sc_call_line.nd rfl (Or.inl rfl)) (pgs_cons (pg_name (i := 4) sc_call_line.nd rfl (Or.inl rfl)) (pgs_cons (pg_name (i := 5) sc_call_line.nd rfl (Or.inl rfl)) pgs_nil)))))))) (pss_cons (ps_if (pt_cmpR op_eq (pv 1) (C8.pe_gc rfl T.c_PUT_plays) (nomark _)) (pss_one (ps_ret (C8.pe_c (c_line_of T) hr (by decide) rfl (pa_cons (pe_lst (pa_cons (C8.pe_gc rfl T.c_PUT_plays) (pa_cons (pv 2) (pa_cons (pv 3) (pa_cons (pv 4) (pa_cons (C8.pe_c (c_told_word T) hr (by decide) rfl (pa_cons (pv 5) pa_nil)) pa_nil)))))) pa_nil)))) pss_nil) (pss_one (ps_ret (C8.pe_c (c_line_of T) hr (by decide) rfl (pa_cons (pe_op op_cat (pe_lst (pa_cons (C8.pe_gc rfl T.c_LOOK_records) (pa_cons (pv 2) (pa_cons (pv 4) (pa_cons (pv 5) pa_nil))))) (pe_lc (own := [("item", 6)]) (g := gName 6) (by rfl) sc_call_line.nd (pi_tup (pv 3)) (blkOk_by (own := [("item", 6)]) (N := N_call_line) (sc := defScope (top 78)) (by decide +kernel)) (fun _ _ _ _ _ => (pg_name (i := 6) sc_call_line.nd rfl (Or.inl rfl))) (fun _ _ _ _ _ => pts_nil) (fun _ _ _ _ _ => (C8.pe_c (c_told_word T) hr (by decide) rfl (pa_cons (pv 6) pa_nil))))) pa_nil)))))), ?_⟩
  obtain ⟨⟨m, hm, hok⟩, hs⟩ := ha
  have lok := callW_ok hm hok hs
  refine q_unp (ds := a.l) (evs_var rfl) rfl rfl ?_
  obtain ⟨hand, what, b, e⟩ := a
  obtain ⟨s1, s2, s3⟩ := hs
  cases what with
  | put v =>
    have lok2 : LineOk [.str "put", natD hand, natD v, natD b, .str (wordD (optW e))] := ⟨by simp, show 5 ≤ 100 by decide, fun d hd => by
      have := lok.2.2
      rcases List.mem_cons.mp hd with rfl | hd
      · exact okw_put
      rcases List.mem_cons.mp hd with rfl | hd
      · exact this _ (List.mem_cons_of_mem _ List.mem_cons_self)
      rcases List.mem_cons.mp hd with rfl | hd
      · exact this _ (List.mem_cons_of_mem _ (List.mem_cons_of_mem _ List.mem_cons_self))
      rcases List.mem_cons.mp hd with rfl | hd
      · exact this _ (List.mem_cons_of_mem _ (List.mem_cons_of_mem _ (List.mem_cons_of_mem _ List.mem_cons_self)))
      rw [List.mem_singleton.mp hd]
      exact okw_str (okw_opt s2).2⟩
    exact sx_seq (G := fun _ => False) (sx_yes (evt_test (evs_eqT (d := .str "put") (evs_var rfl) evs_str rfl rfl)) (sx_ret (evs_call1 (α := List PyData) [.str "put", natD hand, natD v, natD b, .str (wordD (optW e))] (eva_c (EvL.evs1 (evl_lst (ds := [.str "put", natD hand, natD v, natD b, .str (wordD (optW e))]) (eva_c evs_str (eva_c (evs_var rfl) (eva_c (evs_var rfl) (eva_c (evs_var rfl) (eva_c (evs_call1 e (eva_c (evs_var rfl) eva_nil) s2) eva_nil))))))) eva_nil) lok2) rfl)) fun _ q => q.elim
  | look l =>
    obtain ⟨⟨x, hx⟩, hl⟩ := hok.2.2
    have hx' : e = some x := hx
    subst hx'
    have hl' : l.length = m := hl
    have lok2 : LineOk ([.str "look", natD hand, natD b, natD x] ++ l.map fun o => .str (wordD (optW o))) := ⟨by simp, by simp only [List.length_append, List.length_map, List.length_cons, List.length_nil]; omega, fun d hd => by
      have := lok.2.2
      rcases List.mem_append.mp hd with hd | hd
      · rcases List.mem_cons.mp hd with rfl | hd
        · exact okw_look
        rcases List.mem_cons.mp hd with rfl | hd
        · exact this _ (List.mem_cons_of_mem _ List.mem_cons_self)
        rcases List.mem_cons.mp hd with rfl | hd
        · exact this _ (List.mem_cons_of_mem _ (List.mem_cons_of_mem _ List.mem_cons_self))
        rw [List.mem_singleton.mp hd]
        exact this _ (List.mem_cons_of_mem _ (List.mem_cons_of_mem _ (List.mem_cons_of_mem _ List.mem_cons_self)))
      · obtain ⟨o, ho, rfl⟩ := List.mem_map.mp hd
        exact okw_str (okw_opt fun y e => s3 y (e ▸ ho)).2⟩
    have same : lineD ([.str "look", natD hand, natD b, natD x] ++ l.map fun o => .str (wordD (optW o))) = lineD (callW ⟨hand, .look l, b, some x⟩) := by
      unfold lineD
      congr 1
      show _ = (PyData.str "look" :: natD hand :: natD b :: natD x :: l.map optW).map wordD
      rw [List.map_append, List.map_map]
      simp only [List.map_cons, List.map_nil, List.map_map]
      rfl
    refine q_no (evt_test (evs_eqF (d := .str "look") (e := .str "put") (evs_var rfl) evs_str rfl rfl rfl (str_ne (by decide +kernel)))) ?_
    refine sx_ret (evs_call1 (α := List PyData) ([.str "look", natD hand, natD b, natD x] ++ l.map fun o => .str (wordD (optW o))) (eva_c (EvL.evs1 (evl_cat (EvL.evs1 (evl_lst (ds := [.str "look", natD hand, natD b, natD x]) (eva_c evs_str (eva_c (evs_var rfl) (eva_c (evs_var rfl) (eva_c (evs_var rfl) eva_nil)))))) (EvL.evs1 (evl_mapL (L := l) (F := optD) (f := fun o => .str (wordD (optW o))) (evi_tup1 (evs_var rfl)) (by omega) fun γ o ho => evs_call1 o (eva_c (evs_var rfl) eva_nil) (by intro y e; exact s3 y (e ▸ ho)))) (by rw [List.length_map]; show 4 + l.length ≤ _; omega))) eva_nil) lok2) ?_
    show Sv.dat (.str _) = _
    rw [same]
abbrev N_record_text : List Str := ["record", "call"]
theorem sc_record_text : FnScope N_record_text ["record"] (defScope (top 79)) := ⟨rfl, rfl, rfl, by decide +kernel, rfl, by decide +kernel, by decide +kernel⟩
theorem c_record_text (T : TX K mg) : C8.Cal P w K mg base 3 "record_text" (spS K (fun r : Nat × List Call => [reS K r]) (fun r => RecOk r.1 r.2 ∧ ∀ c ∈ r.2, c.short) (fun r => Is (.str (textD (reW r.1 r.2))))) [] := by
  refine cal_of T.d_record_text (fun F => F.bindsN (ps := ["record"]) fun _ _ _ _ _ _ us hl => match us, hl with | [_], _ => rfl) fun F => fnS F sc_record_text (fun _ => rfl) (by intro a s hs ds z; subst z; simp at hs) fun cdv A outer s H E a hr ha => ?_
  refine ⟨_, (pss_one (ps_ret (C8.pe_c (c_closed_rows T) hr (by decide) rfl (pa_cons (pe_op op_cat (pe_lst (pa_cons (C8.pe_c (c_line_of T) hr (by decide) rfl (pa_cons (pe_lst (pa_cons (C8.pe_gc rfl T.c_HANDS) (pa_cons (pe_fld (pv 0) rfl) pa_nil))) pa_nil)) pa_nil)) (pe_lc (own := [("call", 1)]) (g := gName 1) (by rfl) sc_record_text.nd (pi_tup (pe_fld (pv 0) rfl)) (blkOk_by (own := [("call", 1)]) (N := N_record_text) (sc := defScope (top 79)) (by decide +kernel)) (fun _ _ _ _ _ => (pg_name (i := 1) sc_record_text.nd rfl (Or.inl rfl))) (fun _ _ _ _ _ => pts_nil) (fun _ _ _ _ _ => (C8.pe_c (c_call_line T) hr (by decide) rfl (pa_cons (pv 1) pa_nil))))) pa_nil)))), ?_⟩
  obtain ⟨m, cs⟩ := a
  obtain ⟨h, hs⟩ := ha
  have ok := reW_ok h hs
  have hl := h.len
  have hl' : cs.length ≤ 300 := hl
  refine sx_ret (evs_call1 (α := List Str) ((reW m cs).map lineD) (eva_c (EvL.evs1 ((evl_cat (EvL.evs1 (evl_lst (ds := [.str (lineD [.str "hands", natD m])]) (eva_c (evs_call1 (α := List PyData) [.str "hands", natD m] (eva_c (EvL.evs1 (evl_lst (ds := [.str "hands", natD m]) (eva_c evs_str (eva_c (evs_fld (B := ⟨K, none, H, []⟩) (evs_var rfl) T.cls_Record T.no_Record_many (look_many (m, cs))) eva_nil)))) eva_nil) (ok _ List.mem_cons_self)) eva_nil))) (EvL.evs1 (evl_mapL (L := cs) (F := Call.d) (f := fun c => .str (lineD (callW c))) (evi_tup1 (evs_fld (B := ⟨K, none, H, []⟩) (evs_var rfl) T.cls_Record T.no_Record_calls (look_calls (m, cs)))) (by omega) fun γ c hc => evs_call1 (B := Bx.add ⟨K, none, H, []⟩ γ) c (eva_c (evs_var rfl) eva_nil) ⟨⟨m, h.hi, h.each c hc⟩, hs c hc⟩)) (by rw [List.length_map]; show 1 + cs.length ≤ _; omega)).imp fun ds e => ?_)) eva_nil) ⟨?_, text_rows ok⟩) rfl
  · rw [e]
    unfold reW
    rw [List.map_cons, List.map_cons, List.map_map, List.map_map]
    rfl
  · rw [List.length_map]; unfold reW; rw [List.length_cons, List.length_map]; omega
end
end K32
/-! Walks: levels. -/
namespace K32
open PySem PySem.Spec PyProof.Rows L2
local macro_rules | `(tactic| walk_at "ev") => `(tactic| first
  | exact evs_var rfl | exact evs_own rfl | exact evs_int | exact evs_str | exact evs_bl | exact evs_non
  | exact eva_nil | (apply eva_c <;> walk_at "ev")
  | exact evs_isi (evs_var rfl) rfl kit_int_int | exact evs_isi (evs_var rfl) rfl kit_int_bool | exact evs_isi (evs_var rfl) rfl kit_tuple_tuple | exact evs_isi (evs_var rfl) rfl kit_str_str
  | exact evs_ixT (evs_var rfl) evs_int rfl
  | (apply evs_I0 <;> walk_at "ev") | (apply evs_B0 <;> walk_at "ev")
  | (apply evs_andV <;> walk_at "ev") | (apply evs_orV <;> walk_at "ev") | (apply evs_notV; walk_at "ev")
  | (apply evs_chain <;> walk_at "ev")
  | (apply evs_neg; walk_at "ev")
  | (apply evt_test; walk_at "ev") | (apply evt_B; walk_at "ev") | (apply evt_not; walk_at "ev")
  | (apply evt_and1 <;> walk_at "ev") | (apply evt_or1 <;> walk_at "ev")
  | (intro _; walk_at "ev"))
local macro_rules | `(tactic| walk_at "ret") => `(tactic| (apply sx_ret; walk_at "ev"))
def isCellL (d : PyData) : Prop := d = .none ∨ ∃ (l : Int) (v : PyData), d = .tuple [.int l, v]
def stL (l : Int) (now : Option (List PyData)) : PyData := .tuple [.int l, match now with | none => .none | some ls => .tuple ls]
def isStL (n : Nat) (d : PyData) : Prop := d = .none ∨ ∃ (l : Int) (now : Option (List PyData)), d = stL l now ∧ ∀ ls, now = some ls → ls.length < n ∧ ∀ c ∈ ls, isCellL c
theorem rows_get {i : Inp} {h : Nat} (hh : h < i.rows.length) : i.rows[h]? = some i.rows[h] := List.getElem?_eq_getElem hh
/-- what comes of a step: a triple -/
def trip (P : PyData → PyData → Prop) : Sv → Prop := fun s => ∃ c t it, s = .dat (.tuple [c, t, it]) ∧ P c t
section
variable {P : Program} {w : World} {K : PySem.W.Frag} {mg : Str → Option Value} {base : Heap}
abbrev N_level_cell : List Str := ["play", "hand"]
theorem sc_level_cell : FnScope N_level_cell ["play", "hand"] (defScope (top 90)) := ⟨rfl, rfl, rfl, by decide +kernel, rfl, by decide +kernel, by decide +kernel⟩
theorem c_level_cell (T : TX K mg) : C8.Cal P w K mg base 1 "level_cell" (spS K (fun x : Inp × Nat => [plS K x.1, .dat (natD x.2)]) (fun _ => True) (fun _ => Is .none)) [] := by
  refine cal_of T.d_level_cell (fun F => F.bindsN (ps := ["play", "hand"]) fun _ _ _ _ _ _ us hl => match us, hl with | [_, _], _ => rfl) fun F => fnS F sc_level_cell (fun _ => rfl) (by intro a s hs ds z; subst z; simp at hs) fun cdv A outer s H E a hr ha => ?_
  refine ⟨_, (pss_one (ps_ret pe_non)), ?_⟩
  exact sx_ret evs_non rfl
abbrev N_level_state : List Str := ["play", "hand"]
theorem sc_level_state : FnScope N_level_state ["play", "hand"] (defScope (top 91)) := ⟨rfl, rfl, rfl, by decide +kernel, rfl, by decide +kernel, by decide +kernel⟩
theorem c_level_state (T : TX K mg) : C8.Cal P w K mg base 1 "level_state" (spS K (fun x : Inp × Nat => [plS K x.1, .dat (natD x.2)]) (fun x => x.1.rows.length ≤ 5) (fun x => Is (stL (x.1.rows.length + 1) none))) [] := by
  refine cal_of T.d_level_state (fun F => F.bindsN (ps := ["play", "hand"]) fun _ _ _ _ _ _ us hl => match us, hl with | [_, _], _ => rfl) fun F => fnS F sc_level_state (fun _ => rfl) (by intro a s hs ds z; subst z; simp at hs) fun cdv A outer s H E a hr ha => ?_
  refine ⟨_, (pss_one (ps_ret (pe_tup (pa_cons (pe_op op_add (pe_callB b_len (by rfl) T.n_len bt_len (pa_cons (pe_fld (pv 0) rfl) pa_nil)) pe_int) (pa_cons pe_non pa_nil))))), ?_⟩
  exact sx_ret (evs_tup (ds := [.int ((a.1.rows.length : Int) + 1), .none]) (eva_c (evs_I0 (i := (a.1.rows.length : Int)) (j := 1) (evs_len (evs_rows (B := ⟨K, none, H, []⟩) T rfl) rfl (by omega)) evs_int) (eva_c evs_non eva_nil))) rfl
abbrev N_level_next : List Str := ["play", "hand", "state"]
theorem sc_level_next : FnScope N_level_next ["play", "hand", "state"] (defScope (top 92)) := ⟨rfl, rfl, rfl, by decide +kernel, rfl, by decide +kernel, by decide +kernel⟩
theorem c_level_next (T : TX K mg) : C8.Cal P w K mg base 1 "level_next" (spS K (fun x : Inp × Nat × Int × Option (List PyData) => [plS K x.1, .dat (natD x.2.1), .dat (stL x.2.2.1 x.2.2.2)]) (fun x => ∀ ls, x.2.2.2 = some ls → ls.length ≤ 1000) (fun x => Is (match x.2.2.2 with | none => .tuple [.str "put"] | some ls => .tuple [.str "look", natD ls.length]))) [] := by
  refine cal_of T.d_level_next (fun F => F.bindsN (ps := ["play", "hand", "state"]) fun _ _ _ _ _ _ us hl => match us, hl with | [_, _, _], _ => rfl) fun F => fnS F sc_level_next (fun _ => rfl) (by intro a s hs ds z; subst z; simp at hs) fun cdv A outer s H E a hr ha => ?_
  refine ⟨_, (pss_one (ps_ret (pe_ifExp (pt_cmpR o_isN (pe_ix ix_tup (pv 2) pe_int (fun _ _ => rfl)) pe_non (nomark _)) (pe_tup (pa_cons (C8.pe_gc rfl T.c_PUT_plays) pa_nil)) (pe_tup (pa_cons (C8.pe_gc rfl T.c_LOOK_levels) (pa_cons (pe_callB b_len (by rfl) T.n_len bt_len (pa_cons (pe_ix ix_tup (pv 2) pe_int (fun _ _ => rfl)) pa_nil)) pa_nil)))))), ?_⟩
  obtain ⟨i, h, l, now⟩ := a
  cases now with
  | none => exact sx_ret (evs_ifT (evt_test (evs_isN (s := .dat .none) (evs_ixT (ds := [.int l, .none]) (evs_var rfl) evs_int rfl))) (evs_tup (ds := [.str "put"]) (eva_c evs_str eva_nil))) rfl
  | some ls =>
    have hz : ls.length ≤ 1000 := ha ls rfl
    exact sx_ret (evs_ifF (evt_test (evs_isN (s := .dat (.tuple ls)) (evs_ixT (ds := [.int l, .tuple ls]) (evs_var rfl) evs_int rfl))) (evs_tup (ds := [.str "look", natD ls.length]) (eva_c evs_str (eva_c (evs_len (s := .dat (.tuple ls)) (evs_ixT (ds := [.int l, .tuple ls]) (evs_var rfl) evs_int rfl) rfl (by omega)) eva_nil)))) rfl
abbrev N_level_after : List Str := ["play", "hand", "cells", "state", "level", "now", "looked", "below", "other", "cell"]
theorem sc_level_after : FnScope N_level_after ["play", "hand", "cells", "state"] (defScope (top 93)) := ⟨rfl, rfl, rfl, by decide +kernel, rfl, by decide +kernel, by decide +kernel⟩
theorem c_level_after (T : TX K mg) : C8.Cal P w K mg base 1 "level_after" (spS K (fun x : Inp × Nat × List PyData × Int × Option (List PyData) => [plS K x.1, .dat (natD x.2.1), .dat (.tuple x.2.2.1), .dat (stL x.2.2.2.1 x.2.2.2.2)])
    (fun x => x.1.rows.length ≤ 5 ∧ x.2.1 < x.1.rows.length ∧ x.2.2.1.length = x.1.rows.length ∧ (∀ c ∈ x.2.2.1, isCellL c) ∧ ∀ ls, x.2.2.2.2 = some ls → ls.length < x.1.rows.length ∧ ∀ c ∈ ls, isCellL c)
    (fun x => trip fun c t => isStL x.1.rows.length t ∧ (x.2.2.2.2 = none → isCellL c))) [] := by
  refine cal_of T.d_level_after (fun F => F.bindsN (ps := ["play", "hand", "cells", "state"]) fun _ _ _ _ _ _ us hl => match us, hl with | [_, _, _, _], _ => rfl) fun F => fnS F sc_level_after (fun _ => rfl) (by intro a s hs ds z; subst z; simp at hs) fun cdv A outer s H E a hr ha => ?_
  refine ⟨_, (pss_cons (ps_asg (pv 3) (pg_is (is := [4, 5]) (pg_tup rfl (pgs_cons (pg_name (i := 4) sc_level_after.nd rfl (Or.inr rfl)) (pgs_cons (pg_name (i := 5) sc_level_after.nd rfl (Or.inl rfl)) pgs_nil))))) (pss_cons (ps_if (pt_cmpR o_isN (pv 5) pe_non (nomark _)) (pss_one (ps_ret (pe_tup (pa_cons (pe_tup (pa_cons (pe_op op_sub (pv 4) pe_int) (pa_cons (pe_ix ix_tup (pe_fld (pv 0) rfl) (pv 1) (fun _ _ => rfl)) pa_nil))) (pa_cons (pe_tup (pa_cons (pe_op op_sub (pv 4) pe_int) (pa_cons (pe_tup pa_nil) pa_nil))) (pa_cons pe_non pa_nil)))))) pss_nil) (pss_cons (ps_set (i := 6) sc_level_after.nd rfl (Or.inl rfl) (pe_op op_catA (pv 5) (pe_tup (pa_cons (pe_ix ix_tup (pv 2) (pe_callB b_len (by rfl) T.n_len bt_len (pa_cons (pv 5) pa_nil)) (fun _ _ => rfl)) pa_nil)))) (pss_cons (ps_if (pt_cmpR op_lt (pe_callB b_len (by rfl) T.n_len bt_len (pa_cons (pv 6) pa_nil)) (pe_callB b_len (by rfl) T.n_len bt_len (pa_cons (pv 2) pa_nil)) (nomark _)) (pss_one (ps_ret (pe_tup (pa_cons pe_non (pa_cons (pe_tup (pa_cons (pv 4) (pa_cons (pv 6) pa_nil))) (pa_cons pe_non pa_nil)))))) pss_nil) (pss_cons (ps_setLc (i := 7) (own := [("other", 8), ("cell", 9)]) (g := gTup K 2 (gNames [8, 9])) (by rfl) sc_level_after.nd rfl rfl (sw_true rfl rfl rfl (by decide +kernel)) (pi_enumT (by rfl) T.n_enumerate (pa_cons (pv 6) pa_nil)) (blkOk_by (own := [("other", 8), ("cell", 9)]) (N := N_level_after) (sc := defScope (top 93)) (by decide +kernel)) (fun _ _ _ _ _ => (pg_is (is := [8, 9]) (pg_tup rfl (pgs_cons (pg_name (i := 8) sc_level_after.nd rfl (Or.inl rfl)) (pgs_cons (pg_name (i := 9) sc_level_after.nd rfl (Or.inl rfl)) pgs_nil))))) (fun _ _ _ _ _ => (pts_one (PW.pt (pw_and (pt_cmpR o_notN (pv 9) pe_non (nomark _)) (pw_and1 (pt_cmpR op_le (pe_ix (ix_tupK (K := K) rfl) (pv 9) pe_int (fun _ _ => rfl)) (pv 4) (nomark _))))))) (fun _ _ _ _ _ => (pe_tup (pa_cons (pv 8) (pa_cons (pe_ix (ix_tupK (K := K) rfl) (pv 9) pe_int (fun _ _ => rfl)) pa_nil))))) (pss_cons (ps_if (pt_cmpR op_ge (pe_callB b_len (by rfl) T.n_len bt_len (pa_cons (pv 7) pa_nil)) (pv 4) (nomark _)) (pss_one (ps_ret (pe_tup (pa_cons pe_non (pa_cons pe_non (pa_cons (pe_callTy b_tupO (by rfl) T.n_tuple bt_tuple (pa_cons (pv 7) pa_nil)) pa_nil)))))) pss_nil) (pss_one (ps_ret (pe_tup (pa_cons pe_non (pa_cons (pe_tup (pa_cons (pv 4) (pa_cons pe_non pa_nil))) (pa_cons pe_non pa_nil)))))))))))), ?_⟩
  obtain ⟨i, h, cells, l, now⟩ := a
  obtain ⟨h1, h2, h3, h4, h5⟩ := ha
  have h1 : i.rows.length ≤ 5 := h1
  have h2 : h < i.rows.length := h2
  have h3 : cells.length = i.rows.length := h3
  have h4 : ∀ c ∈ cells, isCellL c := h4
  have no : i.rows.length > 0 := by omega
  cases now with
  | none =>
    refine q_unp (ds := [.int l, .none]) (evs_var rfl) rfl rfl ?_
    refine sx_seq (G := fun _ => False) (sx_yes (evt_test (evs_isN (s := .dat .none) (evs_var rfl))) (sx_ret (evs_tup (ds := [.tuple [.int (l - 1), i.rows[h]], .tuple [.int (l - 1), .tuple []], .none]) (eva_c (evs_tup (ds := [.int (l - 1), i.rows[h]]) (eva_c (evs_I0 (i := l) (j := 1) (evs_var rfl) evs_int) (eva_c (evs_ixD (evs_rows (B := ⟨K, none, H, []⟩) T rfl) (evs_var rfl) (rows_get h2)) eva_nil))) (eva_c (evs_tup (ds := [.int (l - 1), .tuple []]) (eva_c (evs_I0 (i := l) (j := 1) (evs_var rfl) evs_int) (eva_c (evs_tup (ds := []) eva_nil) eva_nil))) (eva_c evs_non eva_nil)))) ⟨_, _, _, rfl, .inr ⟨l - 1, some [], rfl, fun ls e => by cases e; exact ⟨no, fun c hc => (nomatch hc)⟩⟩, fun _ => .inr ⟨_, _, rfl⟩⟩)) fun _ q => q.elim
  | some ls =>
    obtain ⟨h6, h7⟩ := h5 ls rfl
    have h6 : ls.length < i.rows.length := h6
    have hc : ls.length < cells.length := by omega
    have look : ∀ c ∈ ls ++ [cells[ls.length]], isCellL c := fun c hc' => by
      rcases List.mem_append.mp hc' with hc' | hc'
      · exact h7 c hc'
      · rw [List.mem_singleton.mp hc']; exact h4 _ (List.getElem_mem hc)
    have ll : (ls ++ [cells[ls.length]]).length = ls.length + 1 := by rw [List.length_append]; rfl
    generalize hlk : ls ++ [cells[ls.length]] = lk at look ll
    refine q_unp (ds := [.int l, .tuple ls]) (evs_var rfl) rfl rfl ?_
    refine q_no (evt_test (evs_isN (s := .dat (.tuple ls)) (evs_var rfl))) ?_
    refine q_asg1 (s := .dat (.tuple lk)) (by rw [← hlk]; exact evs_catA (evs_var rfl) (evs_tup (ds := [cells[ls.length]]) (eva_c (evs_ixD (evs_var rfl) (evs_len (s := .dat (.tuple ls)) (evs_var rfl) rfl (by omega)) (List.getElem?_eq_getElem hc)) eva_nil)) (by show ls.length + 1 ≤ _; omega)) rfl ?_
    refine q_if (P := (· = decide ((lk.length : Int) < (cells.length : Int)))) (evt_test (evs_B0 (evs_len (s := .dat (.tuple lk)) (evs_var rfl) rfl (by omega)) (evs_len (s := .dat (.tuple cells)) (evs_var rfl) rfl (by omega)))) (fun e => ?_) fun e => ?_
    · have e' := of_decide_eq_true e.symm
      exact sx_seq (G := fun _ => False) (sx_ret (evs_tup (ds := [.none, .tuple [.int l, .tuple lk], .none]) (eva_c evs_non (eva_c (evs_tup (ds := [.int l, .tuple lk]) (eva_c (evs_var rfl) (eva_c (evs_var rfl) eva_nil))) (eva_c evs_non eva_nil)))) ⟨_, _, _, rfl, .inr ⟨l, some lk, rfl, fun l2 e => by cases e; exact ⟨(by show lk.length < i.rows.length; omega), look⟩⟩, fun q => by cases q⟩) fun _ q => q.elim
    · refine q_next ?_
      refine q_asgL (evl_enumP (Q := fun _ => True) (ds := lk) (evs_var rfl) (by omega) fun γ k hk => ?_) fun ds ⟨hd, _⟩ => ?_
      · rcases look _ (List.getElem_mem hk) with hc0 | ⟨l2, v, hc0⟩
        · exact ⟨(· = false), evt_andF (evt_test (evs_notN (s := .dat .none) (evs_var (by rw [hc0]; rfl)))), fun q => by cases q⟩
        · exact ⟨fun _ => True, (evt_and1 (a := true) (evt_test (evs_notN (s := .dat (.tuple [.int l2, v])) (evs_var (by rw [hc0]; rfl)))) fun _ => evt_test (evs_B0 (i := l2) (j := l) (evs_ixT (ds := [.int l2, v]) (evs_var (by rw [hc0]; rfl)) evs_int rfl) (evs_var rfl))).imp fun _ _ => trivial, fun _ => evs_tupQ (ds := [.int (k : Nat), v]) (eva_c (evs_var rfl) (eva_c (evs_ixT (ds := [.int l2, v]) (evs_var (by rw [hc0]; rfl)) evs_int rfl) eva_nil)) (show 2 ≤ 1000 by decide) ⟨_, rfl, trivial⟩⟩
      · refine q_if (evt_any (evs_B0 (j := l) (evs_len (s := .lst ds) (evs_own rfl) rfl (by omega)) (evs_var rfl))) (fun _ => ?_) fun _ => ?_
        · exact sx_seq (G := fun _ => False) (sx_ret (evs_tup (ds := [.none, .none, .tuple ds]) (eva_c evs_non (eva_c evs_non (eva_c (evs_tupleL1 (evs_own rfl)) eva_nil)))) ⟨_, _, _, rfl, .inl rfl, fun q => by cases q⟩) fun _ q => q.elim
        · exact q_next (sx_ret (evs_tup (ds := [.none, .tuple [.int l, .none], .none]) (eva_c evs_non (eva_c (evs_tup (ds := [.int l, .none]) (eva_c (evs_var rfl) (eva_c evs_non eva_nil))) (eva_c evs_non eva_nil)))) ⟨_, _, _, rfl, .inr ⟨l, none, rfl, fun ls e => by cases e⟩, fun q => by cases q⟩)
end
end K32
/-! Walks: manners. -/
namespace K32
open PySem PySem.Spec PyProof.Rows L2
local macro_rules | `(tactic| walk_at "ev") => `(tactic| first
  | exact evs_var rfl | exact evs_own rfl | exact evs_int | exact evs_str | exact evs_bl | exact evs_non
  | exact eva_nil | (apply eva_c <;> walk_at "ev")
  | exact evs_isi (evs_var rfl) rfl kit_int_int | exact evs_isi (evs_var rfl) rfl kit_int_bool | exact evs_isi (evs_var rfl) rfl kit_tuple_tuple | exact evs_isi (evs_var rfl) rfl kit_str_str
  | exact evs_ixT (evs_var rfl) evs_int rfl
  | (apply evs_I0 <;> walk_at "ev") | (apply evs_B0 <;> walk_at "ev")
  | (apply evs_andV <;> walk_at "ev") | (apply evs_orV <;> walk_at "ev") | (apply evs_notV; walk_at "ev")
  | (apply evs_chain <;> walk_at "ev")
  | (apply evs_neg; walk_at "ev")
  | (apply evt_test; walk_at "ev") | (apply evt_B; walk_at "ev") | (apply evt_not; walk_at "ev")
  | (apply evt_and1 <;> walk_at "ev") | (apply evt_or1 <;> walk_at "ev")
  | (intro _; walk_at "ev"))
local macro_rules | `(tactic| walk_at "ret") => `(tactic| (apply sx_ret; walk_at "ev"))
abbrev M3 := Int × PyData × PyData
def cM (c : M3) : PyData := .tuple [.int c.1, c.2.1, c.2.2]
def numO : Option (List Int) → PyData
  | none => .none
  | some ns => .tuple (ns.map PyData.int)
structure MS where
  done : Nat
  first : Option (List Int)
  last : Option (List Int)
  now : List M3
  ready : PyData
def MS.l (s : MS) : List PyData := [natD s.done, numO s.first, numO s.last, .tuple (s.now.map cM), s.ready]
def stM (s : MS) : PyData := .tuple s.l
structure MS.ok (n : Nat) (sc : List Deed) (s : MS) : Prop where
  d : s.done < sc.length
  f : ∀ ns, s.first = some ns → ns.length = n
  l : ∀ ns, s.last = some ns → ns.length = n
  w : s.now.length < n
def isStM (n : Nat) (sc : List Deed) (d : PyData) : Prop := d = .none ∨ ∃ s : MS, d = stM s ∧ s.ok n sc
/-- a hand of a play of manners -/
structure MH where
  k : Mn
  ss : List (List Deed)
  h : Nat
  sc : List Deed
def MH.i (m : MH) : Inp := .man m.k m.ss
structure MH.ok (m : MH) : Prop where
  get : m.ss[m.h]? = some m.sc
  n1 : 1 ≤ m.ss.length
  n5 : m.ss.length ≤ 5
  s6 : m.sc.length ≤ 6
def MH.deed (m : MH) (k : Nat) : Deed := m.sc.getD k .see
abbrev MH.n (m : MH) : Nat := m.ss.length
def freshD (sc : List Deed) (done : Nat) : PyData := if done < sc.length then stM ⟨done, none, none, [], .none⟩ else .none
theorem fresh_ok {m : MH} (h : m.ok) (done : Nat) : isStM m.n m.sc (freshD m.sc done) := by
  unfold freshD
  by_cases hd : done < m.sc.length
  · rw [if_pos hd]
    exact .inr ⟨_, rfl, ⟨hd, (fun _ e => by cases e), (fun _ e => by cases e), by have := h.n1; show 0 < m.ss.length; omega⟩⟩
  · rw [if_neg hd]; exact .inl rfl
def Deed.isPut : Deed → Bool
  | .see => false
  | .put _ => true
def Deed.w : Deed → Str
  | .see => "see"
  | .put _ => "put"
def Mn.isBorrow : Mn → Bool
  | .borrow => true
  | _ => false
def pnext (k : Mn) (x : Deed) (ready : PyData) : Bool := x.isPut && (!k.isBorrow || !isN (.dat ready))
section
variable {B : Bx} {δ : Dn} {i : Nat} {te : TE}
theorem rows_man (m : MH) : m.i.rows = m.ss.map scrD := rfl
theorem evs_script (T : TX B.K mg) {m : MH} (hm : m.ok) (h : δ[i]? = some (some (plS B.K m.i))) (hb : EvS B te δ (Is (natD m.h))) : EvS B (tOp (rIxT B.K) (tFld B.K (tVar i) "rows") te) δ (Is (scrD m.sc)) := evs_ixD (ds := m.i.rows) (evs_rows T h) hb (by rw [rows_man, List.getElem?_map, hm.get]; rfl)
theorem evs_deed (T : TX B.K mg) {m : MH} (hm : m.ok) {k : Nat} {tk : TE} (h : δ[i]? = some (some (plS B.K m.i))) (hb : EvS B te δ (Is (natD m.h))) (hk : EvS B tk δ (Is (natD k))) (hd : k < m.sc.length) : EvS B (tOp (rIxT B.K) (tOp (rIxT B.K) (tFld B.K (tVar i) "rows") te) tk) δ (Is (m.deed k).d) :=
  evs_ixD (ds := m.sc.map Deed.d) (evs_script T hm h hb) hk (by rw [List.getElem?_map, List.getElem?_eq_getElem hd, MH.deed, getD_of (List.getElem?_eq_getElem hd)]; rfl)
theorem evs_word (x : Deed) (h : EvS B te δ (Is x.d)) : EvS B (tOp (rIxT B.K) te (tC (.int 0))) δ (Is (.str x.w)) := evs_ixT (ds := x.l) h evs_int (by cases x <;> rfl)
theorem evs_isPut (x : Deed) (h : EvS B te δ (Is (.str x.w))) : EvS B (tOp rEq te (tC (.str "put"))) δ (Is (.bool x.isPut)) := by
  cases x with
  | see => exact evs_isK (x := "see") h (by decide +kernel)
  | put v => exact evs_isK (x := "put") h (show decide (("put" : Str) = "put") = true by decide +kernel)
theorem evs_nisK {x y : Str} {b : Bool} (h : EvS B te δ (Is (.str x))) (e : decide (x = y) = b) : EvS B (tOp rNe te (tC (.str y))) δ (Is (.bool !b)) := evs_is (evs_ne (d := .str x) (e := .str y) h evs_str rfl rfl rfl) (by rw [dec_vOf, e])
theorem evs_notPut (x : Deed) (h : EvS B te δ (Is (.str x.w))) : EvS B (tOp rNe te (tC (.str "put"))) δ (Is (.bool !x.isPut)) := by
  cases x with
  | see => exact evs_nisK (x := "see") h (show decide (("see" : Str) = "put") = false by decide +kernel)
  | put v => exact evs_nisK (x := "put") h (show decide (("put" : Str) = "put") = true by decide +kernel)
theorem mn_borrow (k : Mn) : decide (k.s = ("borrow" : Str)) = k.isBorrow := by cases k <;> decide +kernel
theorem mn_sweep (k : Mn) : decide (k.s = ("sweep" : Str)) = (match k with | .sweep => true | _ => false) := by cases k <;> decide +kernel
end
section
variable {P : Program} {w : World} {K : PySem.W.Frag} {mg : Str → Option Value} {base : Heap}
abbrev N_fresh : List Str := ["play", "hand", "done"]
theorem sc_fresh : FnScope N_fresh ["play", "hand", "done"] (defScope (top 97)) := ⟨rfl, rfl, rfl, by decide +kernel, rfl, by decide +kernel, by decide +kernel⟩
theorem c_fresh (T : TX K mg) : C8.Cal P w K mg base 1 "fresh" (spS K (fun x : MH × Nat => [plS K x.1.i, .dat (natD x.1.h), .dat (natD x.2)]) (fun x => x.1.ok) (fun x => Is (freshD x.1.sc x.2))) [] := by
  refine cal_of T.d_fresh (fun F => F.bindsN (ps := ["play", "hand", "done"]) fun _ _ _ _ _ _ us hl => match us, hl with | [_, _, _], _ => rfl) fun F => fnS F sc_fresh (fun _ => rfl) (by intro a s hs ds z; subst z; simp at hs) fun cdv A outer s H E a hr ha => ?_
  refine ⟨_, (pss_one (ps_ret (pe_ifExp (pt_cmpR op_lt (pv 2) (pe_callB b_len (by rfl) T.n_len bt_len (pa_cons (pe_ix ix_tup (pe_fld (pv 0) rfl) (pv 1) (fun _ _ => rfl)) pa_nil)) (nomark _)) (pe_tup (pa_cons (pv 2) (pa_cons pe_non (pa_cons pe_non (pa_cons (pe_tup pa_nil) (pa_cons pe_non pa_nil)))))) pe_non))), ?_⟩
  obtain ⟨m, done⟩ := a
  have hm : m.ok := ha
  have s6 := hm.s6
  have hl : (m.sc.map Deed.d).length = m.sc.length := List.length_map _
  refine sx_retP (P := (· = .dat (freshD m.sc done))) (evs_if (P := (· = decide ((done : Int) < ((m.sc.map Deed.d).length : Int)))) (evt_test (evs_B0 (i := (done : Int)) (evs_var rfl) (evs_len (s := .dat (scrD m.sc)) (evs_script (B := ⟨K, none, H, []⟩) T hm rfl (evs_var rfl)) rfl (by omega)))) (fun e => ?_) fun e => ?_) (fun s e => by rw [e]; rfl) fun s e => e
  · have e' := of_decide_eq_true e.symm
    unfold freshD
    rw [if_pos (by omega)]
    exact evs_tup (ds := [natD done, .none, .none, .tuple [], .none]) (eva_c (evs_var rfl) (eva_c evs_non (eva_c evs_non (eva_c (evs_tup (ds := []) eva_nil) (eva_c evs_non eva_nil)))))
  · have e' := of_decide_eq_false e.symm
    unfold freshD
    rw [if_neg (by omega)]
    exact evs_non
abbrev N_manner_cell : List Str := ["play", "hand"]
theorem sc_manner_cell : FnScope N_manner_cell ["play", "hand"] (defScope (top 98)) := ⟨rfl, rfl, rfl, by decide +kernel, rfl, by decide +kernel, by decide +kernel⟩
theorem evs_first {B : Bx} {δ : Dn} (T : TX B.K mg) : EvS B (tC (.ref (He.ga B.K "FIRST_CELL"))) δ (Is (cM (0, .int 0, .none))) := evs_ktup T.t_FIRST_CELL fun H => .cons (.int _) (.cons (.int _) (.cons .non .nil))
theorem c_manner_cell (T : TX K mg) : C8.Cal P w K mg base 1 "manner_cell" (spS K (fun x : Inp × Nat => [plS K x.1, .dat (natD x.2)]) (fun _ => True) (fun _ => Is (cM (0, .int 0, .none)))) [] := by
  refine cal_of T.d_manner_cell (fun F => F.bindsN (ps := ["play", "hand"]) fun _ _ _ _ _ _ us hl => match us, hl with | [_, _], _ => rfl) fun F => fnS F sc_manner_cell (fun _ => rfl) (by intro a s hs ds z; subst z; simp at hs) fun cdv A outer s H E a hr ha => ?_
  refine ⟨_, (pss_one (ps_ret (C8.pe_gc rfl T.c_FIRST_CELL))), ?_⟩
  exact sx_ret (evs_first (B := ⟨K, none, H, []⟩) T) rfl
abbrev N_manner_state : List Str := ["play", "hand"]
theorem sc_manner_state : FnScope N_manner_state ["play", "hand"] (defScope (top 99)) := ⟨rfl, rfl, rfl, by decide +kernel, rfl, by decide +kernel, by decide +kernel⟩
theorem c_manner_state (T : TX K mg) : C8.Cal P w K mg base 2 "manner_state" (spS K (fun m : MH => [plS K m.i, .dat (natD m.h)]) MH.ok (fun m => Is (freshD m.sc 0))) [] := by
  refine cal_of T.d_manner_state (fun F => F.bindsN (ps := ["play", "hand"]) fun _ _ _ _ _ _ us hl => match us, hl with | [_, _], _ => rfl) fun F => fnS F sc_manner_state (fun _ => rfl) (by intro a s hs ds z; subst z; simp at hs) fun cdv A outer s H E a hr ha => ?_
  refine ⟨_, (pss_one (ps_ret (C8.pe_c (c_fresh T) hr (by decide) rfl (pa_cons (pv 0) (pa_cons (pv 1) (pa_cons pe_int pa_nil)))))), ?_⟩
  exact sx_ret (evs_call1 (α := MH × Nat) (a, 0) (eva_c (evs_var rfl) (eva_c (evs_var rfl) (eva_c evs_int eva_nil))) ha) rfl
abbrev N_is_put_next : List Str := ["play", "hand", "state"]
theorem sc_is_put_next : FnScope N_is_put_next ["play", "hand", "state"] (defScope (top 100)) := ⟨rfl, rfl, rfl, by decide +kernel, rfl, by decide +kernel, by decide +kernel⟩
theorem c_is_put_next (T : TX K mg) : C8.Cal P w K mg base 1 "is_put_next" (spS K (fun x : MH × MS => [plS K x.1.i, .dat (natD x.1.h), .dat (stM x.2)]) (fun x => x.1.ok ∧ x.2.ok x.1.n x.1.sc) (fun x => Is (.bool (pnext x.1.k (x.1.deed x.2.done) x.2.ready)))) [] := by
  refine cal_of T.d_is_put_next (fun F => F.bindsN (ps := ["play", "hand", "state"]) fun _ _ _ _ _ _ us hl => match us, hl with | [_, _, _], _ => rfl) fun F => fnS F sc_is_put_next (fun _ => rfl) (by intro a s hs ds z; subst z; simp at hs) fun cdv A outer s H E a hr ha => ?_
  refine ⟨_, (pss_cons (ps_if (pt_cmpR op_ne (pe_ix ix_tup (pe_ix ix_tup (pe_ix ix_tup (pe_fld (pv 0) rfl) (pv 1) (fun _ _ => rfl)) (pe_ix ix_tup (pv 2) pe_int (fun _ _ => rfl)) (fun _ _ => rfl)) pe_int (fun _ _ => rfl)) (C8.pe_gc rfl T.c_PUT_plays) (nomark _)) (pss_one (ps_ret pe_bl)) pss_nil) (pss_one (ps_ret (pe_or (pe_cmpR op_ne (pe_fld (pv 0) rfl) (C8.pe_gc rfl T.c_BORROW) (nomark _)) (pe_one (pe_cmpR o_notN (pe_ix ix_tup (pv 2) pe_int (fun _ _ => rfl)) pe_non (nomark _))))))), ?_⟩
  obtain ⟨m, s⟩ := a
  obtain ⟨hm, hs⟩ := ha
  have hm : m.ok := hm
  refine q_if (P := (· = !(m.deed s.done).isPut)) (evt_test (evs_notPut (m.deed s.done) (evs_word _ (evs_deed (B := ⟨K, none, H, []⟩) T hm rfl (evs_var rfl) (evs_ixT (ds := s.l) (evs_var rfl) evs_int rfl) hs.d)))) (fun e => ?_) fun e => ?_
  · refine sx_seq (G := fun _ => False) (sx_ret evs_bl ?_) fun _ q => q.elim
    have e' : (m.deed s.done).isPut = false := by cases h : (m.deed s.done).isPut with | true => rw [h] at e; cases e | false => rfl
    show _ = Sv.dat (.bool (pnext m.k (m.deed s.done) s.ready))
    unfold pnext
    rw [e']; rfl
  · have e' : (m.deed s.done).isPut = true := by cases h : (m.deed s.done).isPut with | true => rfl | false => rw [h] at e; cases e
    refine q_next (sx_ret (evs_orV (evs_nisK (x := m.k.s) (evs_kind (B := ⟨K, none, H, []⟩) (a := m.i) T rfl) (mn_borrow m.k)) fun _ => evs_notN (s := .dat s.ready) (evs_ixT (ds := s.l) (evs_var rfl) evs_int rfl)) ?_)
    show _ = Sv.dat (.bool (pnext m.k (m.deed s.done) s.ready))
    unfold pnext
    rw [e']; rfl
abbrev N_manner_next : List Str := ["play", "hand", "state"]
theorem sc_manner_next : FnScope N_manner_next ["play", "hand", "state"] (defScope (top 101)) := ⟨rfl, rfl, rfl, by decide +kernel, rfl, by decide +kernel, by decide +kernel⟩
theorem c_manner_next (T : TX K mg) : C8.Cal P w K mg base 2 "manner_next" (spS K (fun x : MH × MS => [plS K x.1.i, .dat (natD x.1.h), .dat (stM x.2)]) (fun x => x.1.ok ∧ x.2.ok x.1.n x.1.sc) (fun x => Is (if pnext x.1.k (x.1.deed x.2.done) x.2.ready then .tuple [.str "put"] else .tuple [.str "look", natD x.2.now.length]))) [] := by
  refine cal_of T.d_manner_next (fun F => F.bindsN (ps := ["play", "hand", "state"]) fun _ _ _ _ _ _ us hl => match us, hl with | [_, _, _], _ => rfl) fun F => fnS F sc_manner_next (fun _ => rfl) (by intro a s hs ds z; subst z; simp at hs) fun cdv A outer s H E a hr ha => ?_
  refine ⟨_, (pss_one (ps_ret (pe_ifExp (pt_val (C8.pe_c (c_is_put_next T) hr (by decide) rfl (pa_cons (pv 0) (pa_cons (pv 1) (pa_cons (pv 2) pa_nil))))) (pe_tup (pa_cons (C8.pe_gc rfl T.c_PUT_plays) pa_nil)) (pe_tup (pa_cons (C8.pe_gc rfl T.c_LOOK_manners) (pa_cons (pe_callB b_len (by rfl) T.n_len bt_len (pa_cons (pe_ix ix_tup (pv 2) pe_int (fun _ _ => rfl)) pa_nil)) pa_nil)))))), ?_⟩
  obtain ⟨m, s⟩ := a
  obtain ⟨hm, hs⟩ := ha
  have hw := hs.w
  have hw : s.now.length < m.ss.length := hw
  have hn := hm.n5
  have hn : m.ss.length ≤ 5 := hn
  refine sx_retP (P := (· = .dat (if pnext m.k (m.deed s.done) s.ready then .tuple [.str "put"] else .tuple [.str "look", natD s.now.length]))) (evs_if (P := (· = pnext m.k (m.deed s.done) s.ready)) (evt_B (evs_call1 (α := MH × MS) (m, s) (eva_c (evs_var rfl) (eva_c (evs_var rfl) (eva_c (evs_var rfl) eva_nil))) ⟨hm, hs⟩)) (fun e => ?_) fun e => ?_) (fun s' e => by rw [e]; split <;> rfl) fun s' e => e
  · have e : pnext m.k (m.deed s.done) s.ready = true := e.symm
    rw [e]
    exact evs_tup (ds := [.str "put"]) (eva_c evs_str eva_nil)
  · have e : pnext m.k (m.deed s.done) s.ready = false := e.symm
    rw [e]
    exact evs_tup (ds := [.str "look", natD s.now.length]) (eva_c evs_str (eva_c (evs_len (s := .dat (.tuple (s.now.map cM))) (evs_ixT (ds := s.l) (evs_var rfl) evs_int rfl) (by show some (s.now.map cM).length = _; rw [List.length_map]) (by omega)) eva_nil))
abbrev N_numbers_of : List Str := ["cells", "cell"]
theorem sc_numbers_of : FnScope N_numbers_of ["cells"] (defScope (top 102)) := ⟨rfl, rfl, rfl, by decide +kernel, rfl, by decide +kernel, by decide +kernel⟩
theorem c_numbers_of (T : TX K mg) : C8.Cal P w K mg base 1 "numbers_of" (spS K (fun L : List M3 => [.dat (.tuple (L.map cM))]) (fun L => L.length ≤ 5) (fun L => Is (.tuple ((L.map (·.1)).map PyData.int)))) [] := by
  refine cal_of T.d_numbers_of (fun F => F.bindsN (ps := ["cells"]) fun _ _ _ _ _ _ us hl => match us, hl with | [_], _ => rfl) fun F => fnS F sc_numbers_of (fun _ => rfl) (by intro a s hs ds z; subst z; simp at hs) fun cdv A outer s H E a hr ha => ?_
  refine ⟨_, (pss_one (ps_ret (pe_callTy b_tupO (by rfl) T.n_tuple bt_tuple (pa_cons (pe_lc (own := [("cell", 1)]) (g := gName 1) (by rfl) sc_numbers_of.nd (pi_tup (pv 0)) (blkOk_by (own := [("cell", 1)]) (N := N_numbers_of) (sc := defScope (top 102)) (by decide +kernel)) (fun _ _ _ _ _ => (pg_name (i := 1) sc_numbers_of.nd rfl (Or.inl rfl))) (fun _ _ _ _ _ => pts_nil) (fun _ _ _ _ _ => (pe_ix (ix_tupK (K := K) rfl) (pv 1) pe_int (fun _ _ => rfl)))) pa_nil)))), ?_⟩
  have hz : a.length ≤ 5 := ha
  refine sx_ret (evs_tupleL1 (EvL.evs1 (evl_mapL (L := a) (F := cM) (f := fun c => .int c.1) (evi_tup1 (evs_var rfl)) (by omega) fun γ c hc => evs_ixT (ds := [.int c.1, c.2.1, c.2.2]) (evs_var rfl) evs_int rfl))) ?_
  show _ = Sv.dat (.tuple ((a.map (·.1)).map PyData.int))
  rw [List.map_map]; rfl
abbrev N_picture_of : List Str := ["cells", "cell"]
theorem sc_picture_of : FnScope N_picture_of ["cells"] (defScope (top 103)) := ⟨rfl, rfl, rfl, by decide +kernel, rfl, by decide +kernel, by decide +kernel⟩
theorem c_picture_of (T : TX K mg) : C8.Cal P w K mg base 1 "picture_of" (spS K (fun L : List M3 => [.dat (.tuple (L.map cM))]) (fun L => L.length ≤ 5) (fun L s => ∃ d, s = .dat d)) [] := by
  refine cal_of T.d_picture_of (fun F => F.bindsN (ps := ["cells"]) fun _ _ _ _ _ _ us hl => match us, hl with | [_], _ => rfl) fun F => fnS F sc_picture_of (fun _ => rfl) (by intro a s hs ds z; subst z; simp at hs) fun cdv A outer s H E a hr ha => ?_
  refine ⟨_, (pss_one (ps_ret (pe_callTy b_tupO (by rfl) T.n_tuple bt_tuple (pa_cons (pe_lc (own := [("cell", 1)]) (g := gName 1) (by rfl) sc_picture_of.nd (pi_tup (pv 0)) (blkOk_by (own := [("cell", 1)]) (N := N_picture_of) (sc := defScope (top 103)) (by decide +kernel)) (fun _ _ _ _ _ => (pg_name (i := 1) sc_picture_of.nd rfl (Or.inl rfl))) (fun _ _ _ _ _ => pts_nil) (fun _ _ _ _ _ => (pe_slice (sl_tupAK (K := K) rfl) (pv 1) po_none (po_some pe_int)))) pa_nil)))), ?_⟩
  have hz : a.length ≤ 5 := ha
  exact sx_ret (evs_tupleL1 (EvL.evs1 (evl_mapL (L := a) (F := cM) (f := fun c => .tuple (cutD [.int c.1, c.2.1, c.2.2] none (some ((2 : Nat) : Int)))) (evi_tup1 (evs_var rfl)) (by omega) fun γ c hc => evs_slT (ds := [.int c.1, c.2.1, c.2.2]) (evs_var rfl) evo_none (evo_some evs_int)))) ⟨_, rfl⟩
abbrev N_lent : List Str := ["first", "cells", "number", "cell"]
theorem sc_lent : FnScope N_lent ["first", "cells"] (defScope (top 104)) := ⟨rfl, rfl, rfl, by decide +kernel, rfl, by decide +kernel, by decide +kernel⟩
theorem c_lent (T : TX K mg) : C8.Cal P w K mg base 1 "lent" (spS K (fun x : List Int × List M3 => [.dat (.tuple (x.1.map PyData.int)), .dat (.tuple (x.2.map cM))]) (fun x => x.2.length ≤ 5) (fun x s => ∃ d, s = .dat d)) [] := by
  refine cal_of T.d_lent (fun F => F.bindsN (ps := ["first", "cells"]) fun _ _ _ _ _ _ us hl => match us, hl with | [_, _], _ => rfl) fun F => fnS F sc_lent (fun _ => rfl) (by intro a s hs ds z; subst z; simp at hs) fun cdv A outer s H E a hr ha => ?_
  refine ⟨_, (pss_cons (ps_for PassesOwn.never rfl (RZ.pi_zipA (by rfl) T.n_zip (pa_cons (pv 0) (pa_cons (pv 1) pa_nil))) (pg_is (is := [2, 3]) (pg_tup rfl (pgs_cons (pg_name (i := 2) sc_lent.nd rfl (Or.inl rfl)) (pgs_cons (pg_name (i := 3) sc_lent.nd rfl (Or.inl rfl)) pgs_nil)))) (pss_one (ps_if (pt_cmpR op_ge (pe_ix ix_tup (pv 3) pe_int (fun _ _ => rfl)) (pe_op op_add (pv 2) pe_int) (nomark _)) (pss_one (ps_ret (pe_ix ix_tup (pv 3) pe_int (fun _ _ => rfl)))) pss_nil))) (pss_one (ps_ret pe_non))), ?_⟩
  obtain ⟨ns, L⟩ := a
  have hz : L.length ≤ 5 := ha
  refine sx_seq (G := fun _ => True) (sx_for (evi_zipT (evs_var rfl) (evs_var rfl)) fun n put e => ?_) fun δ' _ => sx_ret evs_non ⟨_, rfl⟩
  obtain ⟨e1, e2⟩ := e
  subst e1 e2
  let I : Dn → Prop := fun δ => ∃ x y, δ = [some (.dat (.tuple (ns.map PyData.int))), some (.dat (.tuple (L.map cM))), x, y]
  refine ⟨fun _ => I, ⟨none, none, rfl⟩, fun γ i δ' hi q => ?_, fun _ _ => trivial⟩
  obtain ⟨x, y, e⟩ := q
  subst e
  rw [List.length_map, List.length_map] at hi
  have hi : i < min ns.length L.length := hi
  have h1 : i < ns.length := by omega
  have h2 : i < L.length := by omega
  have g1 : (ns.map PyData.int).getD i .none = .int ns[i] := getD_of (by rw [List.getElem?_map, List.getElem?_eq_getElem h1]; rfl)
  have g2 : (L.map cM).getD i .none = cM L[i] := getD_of (by rw [List.getElem?_map, List.getElem?_eq_getElem h2]; rfl)
  show SX _ _ (putL [2, 3] [(ns.map PyData.int).getD i .none, (L.map cM).getD i .none] _) _
  rw [g1, g2]
  refine sx_if (evt_any (evs_B0 (i := (L[i]).1) (j := ns[i] + 2) (evs_ixT (ds := [.int (L[i]).1, (L[i]).2.1, (L[i]).2.2]) (evs_var rfl) evs_int rfl) (evs_I0 (i := ns[i]) (j := 2) (evs_var rfl) evs_int))) (fun _ => sx_ret (evs_ixT (ds := [.int (L[i]).1, (L[i]).2.1, (L[i]).2.2]) (evs_var rfl) evs_int rfl) ⟨_, rfl⟩) fun _ => sx_next ⟨_, _, rfl⟩
end
end K32
/-! Walks: manners, on. -/
namespace K32
open PySem PySem.Spec PyProof.Rows L2
local macro_rules | `(tactic| walk_at "ev") => `(tactic| first
  | exact evs_var rfl | exact evs_own rfl | exact evs_int | exact evs_str | exact evs_bl | exact evs_non
  | exact eva_nil | (apply eva_c <;> walk_at "ev")
  | exact evs_isi (evs_var rfl) rfl kit_int_int | exact evs_isi (evs_var rfl) rfl kit_int_bool | exact evs_isi (evs_var rfl) rfl kit_tuple_tuple | exact evs_isi (evs_var rfl) rfl kit_str_str
  | exact evs_ixT (evs_var rfl) evs_int rfl
  | (apply evs_I0 <;> walk_at "ev") | (apply evs_B0 <;> walk_at "ev")
  | (apply evs_andV <;> walk_at "ev") | (apply evs_orV <;> walk_at "ev") | (apply evs_notV; walk_at "ev")
  | (apply evs_chain <;> walk_at "ev")
  | (apply evs_neg; walk_at "ev")
  | (apply evt_test; walk_at "ev") | (apply evt_B; walk_at "ev") | (apply evt_not; walk_at "ev")
  | (apply evt_and1 <;> walk_at "ev") | (apply evt_or1 <;> walk_at "ev")
  | (intro _; walk_at "ev"))
local macro_rules | `(tactic| walk_at "ret") => `(tactic| (apply sx_ret; walk_at "ev"))
theorem lay_numO (o : Option (List Int)) : Lay 1 (numO o) := by
  cases o with
  | none => exact .none
  | some ns =>
    refine .tup fun e he => ?_
    obtain ⟨x, _, rfl⟩ := List.mem_map.mp he
    exact .int
theorem evs_ms {B : Bx} {δ : Dn} {t : TA} {s : MS} (h : EvA B t δ (· = s.l.map Sv.dat)) : EvS B (tTup t) δ (Is (stM s)) := evs_tup (ds := s.l) h (show 5 ≤ 1000 by decide)
theorem dec_int (a b : Int) : decide (vOf (.int a) = vOf (.int b)) = decide (a = b) := by
  by_cases h : a = b
  · rw [decide_eq_true h, decide_eq_true (by rw [h])]
  · rw [decide_eq_false h, decide_eq_false (fun y => h (by injection y))]
theorem isN_numO (o : Option (List Int)) : isN (.dat (numO o)) = o.isNone := by cases o <;> rfl
section
variable {P : Program} {w : World} {K : PySem.W.Frag} {mg : Str → Option Value} {base : Heap}
abbrev N_result_of : List Str := ["kind", "first", "last", "cells"]
theorem sc_result_of : FnScope N_result_of ["kind", "first", "last", "cells"] (defScope (top 105)) := ⟨rfl, rfl, rfl, by decide +kernel, rfl, by decide +kernel, by decide +kernel⟩
theorem c_result_of (T : TX K mg) : C8.Cal P w K mg base 2 "result_of" (spS K (fun x : Mn × Option (List Int) × Option (List Int) × List M3 => [.dat (.str x.1.s), .dat (numO x.2.1), .dat (numO x.2.2.1), .dat (.tuple (x.2.2.2.map cM))]) (fun x => x.2.2.2.length ≤ 5) (fun x s => ∃ d, s = .dat d)) [] := by
  refine cal_of T.d_result_of (fun F => F.bindsN (ps := ["kind", "first", "last", "cells"]) fun _ _ _ _ _ _ us hl => match us, hl with | [_, _, _, _], _ => rfl) fun F => fnS F sc_result_of (fun _ => rfl) (by intro a s hs ds z; subst z; simp at hs) fun cdv A outer s H E a hr ha => ?_
  refine ⟨_, (pss_cons (ps_if (PW.pt (pw_or (pt_cmpR op_eq (pv 0) (C8.pe_gc rfl T.c_SWEEP) (nomark _)) (pw_or1 (pt_cmpR (op_eqDk (K := K) rfl hr.units) (pv 2) (C8.pe_c (c_numbers_of T) hr (by decide) rfl (pa_cons (pv 3) pa_nil)) (nomark _))))) (pss_one (ps_ret (C8.pe_c (c_picture_of T) hr (by decide) rfl (pa_cons (pv 3) pa_nil)))) pss_nil) (pss_one (ps_ret (pe_ifExp (PW.pt (pw_and (pt_cmpR op_eq (pv 0) (C8.pe_gc rfl T.c_BORROW) (nomark _)) (pw_and1 (pt_cmpR o_notN (pv 1) pe_non (nomark _))))) (C8.pe_c (c_lent T) hr (by decide) rfl (pa_cons (pv 1) (pa_cons (pv 3) pa_nil))) pe_non)))), ?_⟩
  obtain ⟨k, f, l, L⟩ := a
  have hz : L.length ≤ 5 := ha
  have ln : Lay 1 (.tuple ((L.map (·.1)).map PyData.int)) := .tup fun e he => by
    obtain ⟨x, _, rfl⟩ := List.mem_map.mp he
    exact .int
  refine q_if (P := fun _ => True) ((evt_or (P := fun _ => True) (R := fun _ => True) (S := fun _ => True) (evt_any (evs_isK (x := k.s) (evs_var rfl) (mn_sweep k))) (fun _ => evt_any (evs_eqD (s := .dat (numO l)) (u := .dat (.tuple ((L.map (·.1)).map PyData.int))) (evs_var rfl) (evs_call1 (α := List M3) L (eva_c (evs_var rfl) eva_nil) hz) rfl rfl (lay_numO l).shaped ln.shaped)) (fun _ => trivial) fun _ _ _ => trivial)) (fun _ => ?_) fun _ => ?_
  · refine sx_seq (G := fun _ => False) (sx_retP (P := fun s => ∃ d, s = .dat d) (evs_call1 (α := List M3) L (eva_c (evs_var rfl) eva_nil) hz) (fun s ⟨d, e⟩ => by rw [e]; rfl) fun s e => e) fun _ q => q.elim
  · refine q_next (sx_retP (P := fun s => ∃ d, s = .dat d) ?_ (fun s ⟨d, e⟩ => by rw [e]; rfl) fun s e => e)
    cases f with
    | none => exact evs_ifF (evt_and1 (a := k.isBorrow) (b := false) (evt_test (evs_isK (x := k.s) (evs_var rfl) (mn_borrow k))) (fun _ => evt_test (evs_notN (s := .dat .none) (evs_var rfl))) |>.imp fun b e => by rw [e, Bool.and_false]) (evs_non.imp fun s e => ⟨_, e⟩)
    | some ns => exact evs_if (P := fun _ => True) ((evt_and1 (a := k.isBorrow) (b := true) (evt_test (evs_isK (x := k.s) (evs_var rfl) (mn_borrow k))) (fun _ => evt_test (evs_notN (s := .dat (.tuple (ns.map PyData.int))) (evs_var rfl)))).imp fun _ _ => trivial) (fun _ => evs_call1 (α := List Int × List M3) (ns, L) (eva_c (evs_var rfl) (eva_c (evs_var rfl) eva_nil)) hz) fun _ => evs_non.imp fun s e => ⟨_, e⟩
abbrev N_after_sweep : List Str := ["play", "hand", "state", "cells", "done", "first", "last", "now", "ready", "found", "numbers"]
theorem sc_after_sweep : FnScope N_after_sweep ["play", "hand", "state", "cells"] (defScope (top 106)) := ⟨rfl, rfl, rfl, by decide +kernel, rfl, by decide +kernel, by decide +kernel⟩
theorem c_after_sweep (T : TX K mg) : C8.Cal P w K mg base 3 "after_sweep" (spS K (fun x : MH × MS × List M3 => [plS K x.1.i, .dat (natD x.1.h), .dat (stM x.2.1), .dat (.tuple (x.2.2.map cM))]) (fun x => x.1.ok ∧ x.2.1.ok x.1.n x.1.sc ∧ x.2.2.length = x.1.n) (fun x => trip fun c t => isStM x.1.n x.1.sc t)) [] := by
  refine cal_of T.d_after_sweep (fun F => F.bindsN (ps := ["play", "hand", "state", "cells"]) fun _ _ _ _ _ _ us hl => match us, hl with | [_, _, _, _], _ => rfl) fun F => fnS F sc_after_sweep (fun _ => rfl) (by intro a s hs ds z; subst z; simp at hs) fun cdv A outer s H E a hr ha => ?_
  refine ⟨_, (pss_cons (ps_asg (pv 2) (pg_is (is := [4, 5, 6, 7, 8]) (pg_tup rfl (pgs_cons (pg_name (i := 4) sc_after_sweep.nd rfl (Or.inl rfl)) (pgs_cons (pg_name (i := 5) sc_after_sweep.nd rfl (Or.inl rfl)) (pgs_cons (pg_name (i := 6) sc_after_sweep.nd rfl (Or.inl rfl)) (pgs_cons (pg_name (i := 7) sc_after_sweep.nd rfl (Or.inl rfl)) (pgs_cons (pg_name (i := 8) sc_after_sweep.nd rfl (Or.inl rfl)) pgs_nil)))))))) (pss_cons (ps_set (i := 9) sc_after_sweep.nd rfl (Or.inl rfl) (C8.pe_c (c_result_of T) hr (by decide) rfl (pa_cons (pe_fld (pv 0) rfl) (pa_cons (pv 5) (pa_cons (pv 6) (pa_cons (pv 3) pa_nil)))))) (pss_cons (ps_if (pt_cmpR o_isN (pv 9) pe_non (nomark _)) (pss_cons (ps_set (i := 10) sc_after_sweep.nd rfl (Or.inl rfl) (C8.pe_c (c_numbers_of T) hr (by decide) rfl (pa_cons (pv 3) pa_nil))) (pss_one (ps_ret (pe_tup (pa_cons pe_non (pa_cons (pe_tup (pa_cons (pv 4) (pa_cons (pe_ifExp (pt_cmpR o_isN (pv 5) pe_non (nomark _)) (pv 10) (pv 5)) (pa_cons (pv 10) (pa_cons (pe_tup pa_nil) (pa_cons pe_non pa_nil)))))) (pa_cons pe_non pa_nil))))))) pss_nil) (pss_cons (ps_if (pt_cmpR op_eq (pe_ix ix_tup (pe_ix ix_tup (pe_ix ix_tup (pe_fld (pv 0) rfl) (pv 1) (fun _ _ => rfl)) (pv 4) (fun _ _ => rfl)) pe_int (fun _ _ => rfl)) (C8.pe_gc rfl T.c_PUT_plays) (nomark _)) (pss_one (ps_ret (pe_tup (pa_cons pe_non (pa_cons (pe_tup (pa_cons (pv 4) (pa_cons pe_non (pa_cons pe_non (pa_cons (pe_tup pa_nil) (pa_cons (pv 9) pa_nil)))))) (pa_cons pe_non pa_nil)))))) pss_nil) (pss_one (ps_ret (pe_tup (pa_cons pe_non (pa_cons (C8.pe_c (c_fresh T) hr (by decide) rfl (pa_cons (pv 0) (pa_cons (pv 1) (pa_cons (pe_op op_add (pv 4) pe_int) pa_nil)))) (pa_cons (pv 9) pa_nil)))))))))), ?_⟩
  obtain ⟨m, s, L⟩ := a
  obtain ⟨hm, hs, hL⟩ := ha
  have hm : m.ok := hm
  have n1 : 1 ≤ m.ss.length := hm.n1
  have n5 : m.ss.length ≤ 5 := hm.n5
  have hL : L.length = m.ss.length := hL
  have hz : L.length ≤ 5 := by omega
  have hn : ((L.map (·.1)) : List Int).length = m.ss.length := by rw [List.length_map]; exact hL
  refine q_unp (ds := s.l) (evs_var rfl) rfl rfl ?_
  refine q_asg (P := fun s => ∃ d, s = .dat d) (evs_call1 (α := Mn × Option (List Int) × Option (List Int) × List M3) (m.k, s.first, s.last, L) (eva_c (evs_kind (B := ⟨K, none, H, []⟩) (a := m.i) T rfl) (eva_c (evs_var rfl) (eva_c (evs_var rfl) (eva_c (evs_var rfl) eva_nil)))) hz) (fun s ⟨d, e⟩ => by rw [e]; rfl) fun s0 ⟨d, e⟩ => ?_
  subst e
  refine q_if (P := fun _ => True) (evt_any (evs_isN (s := .dat d) (evs_var rfl))) (fun _ => ?_) fun _ => q_next ?_
  · have o : ∀ f : List Int, f.length = m.ss.length → isStM m.n m.sc (stM ⟨s.done, some f, some (L.map (·.1)), [], .none⟩) := fun f hf => .inr ⟨_, rfl, ⟨hs.d, (fun ns e => by cases e; exact hf), (fun ns e => by cases e; exact hn), n1⟩⟩
    refine sx_seq (G := fun _ => False) (q_asg1 (s := .dat (numO (some (L.map (·.1))))) (evs_call1 (α := List M3) L (eva_c (evs_var rfl) eva_nil) hz) rfl ?_) fun _ q => q.elim
    cases hf : s.first with
    | none => exact sx_ret (evs_tup (ds := [.none, stM ⟨s.done, some (L.map (·.1)), some (L.map (·.1)), [], .none⟩, .none]) (eva_c evs_non (eva_c (evs_ms (s := MS.mk s.done (some (L.map (·.1))) (some (L.map (·.1))) [] .none) (eva_c (evs_var rfl) (eva_c (evs_ifT (evt_test (evs_is (evs_isN (s := .dat (numO s.first)) (evs_var rfl)) (by rw [hf]; rfl))) (evs_var rfl)) (eva_c (evs_var rfl) (eva_c (evs_tup (ds := []) eva_nil) (eva_c evs_non eva_nil)))))) (eva_c evs_non eva_nil)))) ⟨_, _, _, rfl, o _ hn⟩
    | some ns => exact sx_ret (evs_tup (ds := [.none, stM ⟨s.done, some ns, some (L.map (·.1)), [], .none⟩, .none]) (eva_c evs_non (eva_c (evs_ms (s := MS.mk s.done (some ns) (some (L.map (·.1))) [] .none) (eva_c (evs_var rfl) (eva_c (evs_ifF (evt_test (evs_is (evs_isN (s := .dat (numO s.first)) (evs_var rfl)) (by rw [hf]; rfl))) (by rw [← hf]; exact evs_var rfl)) (eva_c (evs_var rfl) (eva_c (evs_tup (ds := []) eva_nil) (eva_c evs_non eva_nil)))))) (eva_c evs_non eva_nil)))) ⟨_, _, _, rfl, o _ (hs.f ns hf)⟩
  · refine q_if (P := fun _ => True) (evt_any (evs_isPut (m.deed s.done) (evs_word _ (evs_deed (B := ⟨K, none, H, []⟩) T hm rfl (evs_var rfl) (evs_var rfl) hs.d)))) (fun _ => ?_) fun _ => q_next ?_
    · exact sx_seq (G := fun _ => False) (sx_ret (evs_tup (ds := [.none, stM ⟨s.done, none, none, [], d⟩, .none]) (eva_c evs_non (eva_c (evs_ms (s := MS.mk s.done none none [] d) (eva_c (evs_var rfl) (eva_c evs_non (eva_c evs_non (eva_c (evs_tup (ds := []) eva_nil) (eva_c (evs_var rfl) eva_nil)))))) (eva_c evs_non eva_nil)))) ⟨_, _, _, rfl, .inr ⟨_, rfl, ⟨hs.d, (fun ns e => by cases e), (fun ns e => by cases e), n1⟩⟩⟩) fun _ q => q.elim
    · exact sx_ret (evs_tup (ds := [.none, freshD m.sc (s.done + 1), d]) (eva_c evs_non (eva_c (evs_call1 (α := MH × Nat) (m, s.done + 1) (eva_c (evs_var rfl) (eva_c (evs_var rfl) (eva_c (evs_I0 (i := (s.done : Int)) (j := 1) (evs_var rfl) evs_int) eva_nil))) hm) (eva_c (evs_var rfl) eva_nil)))) ⟨_, _, _, rfl, fresh_ok hm _⟩
abbrev N_manner_after : List Str := ["play", "hand", "cells", "state", "done", "first", "last", "now", "ready", "cell", "looked"]
theorem sc_manner_after : FnScope N_manner_after ["play", "hand", "cells", "state"] (defScope (top 107)) := ⟨rfl, rfl, rfl, by decide +kernel, rfl, by decide +kernel, by decide +kernel⟩
theorem c_manner_after (T : TX K mg) : C8.Cal P w K mg base 4 "manner_after" (spS K (fun x : MH × MS × List M3 => [plS K x.1.i, .dat (natD x.1.h), .dat (.tuple (x.2.2.map cM)), .dat (stM x.2.1)]) (fun x => x.1.ok ∧ x.2.1.ok x.1.n x.1.sc ∧ x.2.2.length = x.1.n) (fun x => trip fun c t => isStM x.1.n x.1.sc t ∧ (pnext x.1.k (x.1.deed x.2.1.done) x.2.1.ready = true → ∃ c3 : M3, c = cM c3))) [] := by
  refine cal_of T.d_manner_after (fun F => F.bindsN (ps := ["play", "hand", "cells", "state"]) fun _ _ _ _ _ _ us hl => match us, hl with | [_, _, _, _], _ => rfl) fun F => fnS F sc_manner_after (fun _ => rfl) (by intro a s hs ds z; subst z; simp at hs) fun cdv A outer s H E a hr ha => ?_
  refine ⟨_, (pss_cons (ps_asg (pv 3) (pg_is (is := [4, 5, 6, 7, 8]) (pg_tup rfl (pgs_cons (pg_name (i := 4) sc_manner_after.nd rfl (Or.inl rfl)) (pgs_cons (pg_name (i := 5) sc_manner_after.nd rfl (Or.inl rfl)) (pgs_cons (pg_name (i := 6) sc_manner_after.nd rfl (Or.inl rfl)) (pgs_cons (pg_name (i := 7) sc_manner_after.nd rfl (Or.inl rfl)) (pgs_cons (pg_name (i := 8) sc_manner_after.nd rfl (Or.inl rfl)) pgs_nil)))))))) (pss_cons (ps_if (pt_val (C8.pe_c (c_is_put_next T) hr (by decide) rfl (pa_cons (pv 0) (pa_cons (pv 1) (pa_cons (pv 3) pa_nil))))) (pss_cons (ps_set (i := 9) sc_manner_after.nd rfl (Or.inl rfl) (pe_tup (pa_cons (pe_op op_add (pe_ix ix_tup (pe_ix ix_tup (pv 2) (pv 1) (fun _ _ => rfl)) pe_int (fun _ _ => rfl)) pe_int) (pa_cons (pe_ix ix_tup (pe_ix ix_tup (pe_ix ix_tup (pe_fld (pv 0) rfl) (pv 1) (fun _ _ => rfl)) (pv 4) (fun _ _ => rfl)) pe_int (fun _ _ => rfl)) (pa_cons (pv 8) pa_nil))))) (pss_one (ps_ret (pe_tup (pa_cons (pv 9) (pa_cons (C8.pe_c (c_fresh T) hr (by decide) rfl (pa_cons (pv 0) (pa_cons (pv 1) (pa_cons (pe_op op_add (pv 4) pe_int) pa_nil)))) (pa_cons pe_non pa_nil))))))) pss_nil) (pss_cons (ps_set (i := 10) sc_manner_after.nd rfl (Or.inl rfl) (pe_op op_catA (pv 7) (pe_tup (pa_cons (pe_ix ix_tup (pv 2) (pe_callB b_len (by rfl) T.n_len bt_len (pa_cons (pv 7) pa_nil)) (fun _ _ => rfl)) pa_nil)))) (pss_cons (ps_if (pt_cmpR op_eq (pe_callB b_len (by rfl) T.n_len bt_len (pa_cons (pv 10) pa_nil)) (pe_callB b_len (by rfl) T.n_len bt_len (pa_cons (pv 2) pa_nil)) (nomark _)) (pss_one (ps_ret (C8.pe_c (c_after_sweep T) hr (by decide) rfl (pa_cons (pv 0) (pa_cons (pv 1) (pa_cons (pv 3) (pa_cons (pv 10) pa_nil))))))) pss_nil) (pss_one (ps_ret (pe_tup (pa_cons pe_non (pa_cons (pe_tup (pa_cons (pv 4) (pa_cons (pv 5) (pa_cons (pv 6) (pa_cons (pv 10) (pa_cons pe_non pa_nil)))))) (pa_cons pe_non pa_nil)))))))))), ?_⟩
  obtain ⟨m, s, L⟩ := a
  obtain ⟨hm, hs, hL⟩ := ha
  have hm : m.ok := hm
  have n1 : 1 ≤ m.ss.length := hm.n1
  have n5 : m.ss.length ≤ 5 := hm.n5
  have hL : L.length = m.ss.length := hL
  have hh : m.h < L.length := by have := (List.getElem?_eq_some_iff.mp hm.get).1; omega
  have hw : s.now.length < m.ss.length := hs.w
  have hLc : (L.map cM).length = L.length := List.length_map _
  refine q_unp (ds := s.l) (evs_var rfl) rfl rfl ?_
  have hp : ∀ δ : Dn, δ[0]? = some (some (plS K m.i)) → δ[1]? = some (some (.dat (natD m.h))) → δ[3]? = some (some (.dat (stM s))) → EvT ⟨K, none, H, []⟩ (tB (tCall (spS K (fun x : MH × MS => [plS K x.1.i, .dat (natD x.1.h), .dat (stM x.2)]) (fun x => x.1.ok ∧ x.2.ok x.1.n x.1.sc) (fun x => Is (.bool (pnext x.1.k (x.1.deed x.2.done) x.2.ready)))) [] C8.E0 (tCons (tVar 0) (tCons (tVar 1) (tCons (tVar 3) tNil))))) δ (· = pnext m.k (m.deed s.done) s.ready) := fun δ e0 e1 e3 => evt_B (evs_call1 (B := ⟨K, none, H, []⟩) (α := MH × MS) (m, s) (eva_c (evs_var e0) (eva_c (evs_var e1) (eva_c (evs_var e3) eva_nil))) ⟨hm, hs⟩)
  refine q_if (hp _ rfl rfl rfl) (fun e => ?_) fun e => q_next ?_
  · have e : pnext m.k (m.deed s.done) s.ready = true := e.symm
    obtain ⟨v, hv⟩ : ∃ v, m.deed s.done = .put v := by
      cases h : m.deed s.done with
      | see => rw [h] at e; cases e
      | put v => exact ⟨v, rfl⟩
    refine sx_seq (G := fun _ => False) (q_asg1 (s := .dat (cM ((L[m.h]).1 + 1, natD v, s.ready))) (evs_tup (ds := [.int ((L[m.h]).1 + 1), natD v, s.ready]) (eva_c (evs_I0 (i := (L[m.h]).1) (j := 1) (evs_ixT (ds := [.int (L[m.h]).1, (L[m.h]).2.1, (L[m.h]).2.2]) (evs_ixD (ds := L.map cM) (evs_var rfl) (evs_var rfl) (by rw [List.getElem?_map, List.getElem?_eq_getElem hh]; rfl)) evs_int rfl) evs_int) (eva_c (evs_ixT (ds := [.str "put", natD v]) ((evs_deed (B := ⟨K, none, H, []⟩) T hm rfl (evs_var rfl) (evs_var rfl) hs.d).imp fun z q => by rw [q, hv]; rfl) evs_int rfl) (eva_c (evs_var rfl) eva_nil)))) rfl (sx_ret (evs_tup (ds := [cM ((L[m.h]).1 + 1, natD v, s.ready), freshD m.sc (s.done + 1), .none]) (eva_c (evs_var rfl) (eva_c (evs_call1 (α := MH × Nat) (m, s.done + 1) (eva_c (evs_var rfl) (eva_c (evs_var rfl) (eva_c (evs_I0 (i := (s.done : Int)) (j := 1) (evs_var rfl) evs_int) eva_nil))) hm) (eva_c evs_non eva_nil)))) ⟨_, _, _, rfl, fresh_ok hm _, fun _ => ⟨_, rfl⟩⟩)) fun _ q => q.elim
  · have e : pnext m.k (m.deed s.done) s.ready = false := e.symm
    have hc : s.now.length < L.length := by omega
    have nl : (s.now.map cM).length = s.now.length := List.length_map _
    refine q_asg1 (s := .dat (.tuple ((s.now ++ [L[s.now.length]]).map cM))) ((evs_catA (ds := s.now.map cM) (evs_var rfl) (evs_tup (ds := [cM L[s.now.length]]) (eva_c (evs_ixD (ds := L.map cM) (evs_var rfl) (evs_len (s := .dat (.tuple (s.now.map cM))) (evs_var rfl) (congrArg some nl) (by omega)) (by rw [List.getElem?_map, List.getElem?_eq_getElem hc]; rfl)) eva_nil)) (by show (s.now.map cM).length + 1 ≤ _; omega)).imp fun z q => by rw [q, List.map_append]; rfl) rfl ?_
    have l1 : (s.now ++ [L[s.now.length]]).length = s.now.length + 1 := by rw [List.length_append]; rfl
    generalize s.now ++ [L[s.now.length]] = L2 at l1
    have l2 : (L2.map cM).length = L2.length := List.length_map _
    refine q_if (P := (· = decide ((L2.length : Int) = (L.length : Int)))) ((evt_test (evs_eq (d := .int (L2.length : Nat)) (e := .int (L.length : Nat)) (evs_len (s := .dat (.tuple (L2.map cM))) (evs_var rfl) (congrArg some l2) (by omega)) (evs_len (s := .dat (.tuple (L.map cM))) (evs_var rfl) (congrArg some hLc) (by omega)) rfl rfl rfl)).imp fun b q => ?_) (fun e2 => ?_) fun e2 => q_next ?_
    · rw [q, dec_int]
    · have e3 := of_decide_eq_true e2.symm
      refine sx_seq (G := fun _ => False) (sx_retP (P := trip fun c t => isStM m.n m.sc t) (evs_call1 (α := MH × MS × List M3) (m, s, L2) (eva_c (evs_var rfl) (eva_c (evs_var rfl) (eva_c (evs_var rfl) (eva_c (evs_var rfl) eva_nil)))) ⟨hm, hs, by show L2.length = m.ss.length; omega⟩) (fun z ⟨c, t, it, q, _⟩ => by rw [q]; rfl) fun z ⟨c, t, it, q, o⟩ => ⟨c, t, it, q, o, fun y => by rw [e] at y; cases y⟩) fun _ q => q.elim
    · have e3 := of_decide_eq_false e2.symm
      exact sx_ret (evs_tup (ds := [.none, stM ⟨s.done, s.first, s.last, L2, .none⟩, .none]) (eva_c evs_non (eva_c (evs_ms (s := MS.mk s.done s.first s.last L2 .none) (eva_c (evs_var rfl) (eva_c (evs_var rfl) (eva_c (evs_var rfl) (eva_c (evs_var rfl) (eva_c evs_non eva_nil)))))) (eva_c evs_non eva_nil)))) ⟨_, _, _, rfl, .inr ⟨_, rfl, ⟨hs.d, hs.f, hs.l, (by show L2.length < m.ss.length; omega)⟩⟩, fun y => by rw [e] at y; cases y⟩
end
end K32
/-! Walks: tops. -/
namespace K32
open PySem PySem.Spec PyProof.Rows L2
local macro_rules | `(tactic| walk_at "ev") => `(tactic| first
  | exact evs_var rfl | exact evs_own rfl | exact evs_int | exact evs_str | exact evs_bl | exact evs_non
  | exact eva_nil | (apply eva_c <;> walk_at "ev")
  | exact evs_isi (evs_var rfl) rfl kit_int_int | exact evs_isi (evs_var rfl) rfl kit_int_bool | exact evs_isi (evs_var rfl) rfl kit_tuple_tuple | exact evs_isi (evs_var rfl) rfl kit_str_str
  | exact evs_ixT (evs_var rfl) evs_int rfl
  | (apply evs_I0 <;> walk_at "ev") | (apply evs_B0 <;> walk_at "ev")
  | (apply evs_andV <;> walk_at "ev") | (apply evs_orV <;> walk_at "ev") | (apply evs_notV; walk_at "ev")
  | (apply evs_chain <;> walk_at "ev")
  | (apply evs_neg; walk_at "ev")
  | (apply evt_test; walk_at "ev") | (apply evt_B; walk_at "ev") | (apply evt_not; walk_at "ev")
  | (apply evt_and1 <;> walk_at "ev") | (apply evt_or1 <;> walk_at "ev")
  | (intro _; walk_at "ev"))
local macro_rules | `(tactic| walk_at "ret") => `(tactic| (apply sx_ret; walk_at "ev"))
/-! ### counting -/
theorem drop_one : ∀ (M : List Int) (x : Int), M.Nodup → M.length ≤ (M.filter fun y => decide (y ≠ x)).length + 1
  | [], _, _ => Nat.zero_le _
  | y :: M, x, h => by
    obtain ⟨h1, h2⟩ := List.nodup_cons.mp h
    by_cases e : y = x
    · subst e
      rw [List.filter_cons_of_neg (p := fun z => decide (z ≠ y)) (by simp)]
      have : M.filter (fun z => decide (z ≠ y)) = M := List.filter_eq_self.mpr fun z hz => decide_eq_true fun q => h1 (q ▸ hz)
      rw [this]
      exact Nat.le_refl _
    · rw [List.filter_cons_of_pos (p := fun z => decide (z ≠ x)) (decide_eq_true e), List.length_cons, List.length_cons]
      exact Nat.succ_le_succ (drop_one M x h2)
theorem drop_all (M : List Int) (h : M.Nodup) : ∀ ws : List Int, M.length ≤ (M.filter fun y => !decide (y ∈ ws)).length + ws.length
  | [] => by
    have : M.filter (fun y => !decide (y ∈ ([] : List Int))) = M := List.filter_eq_self.mpr fun z _ => by simp
    rw [this]; exact Nat.le_refl _
  | x :: ws => by
    have e : M.filter (fun y => !decide (y ∈ x :: ws)) = (M.filter fun y => !decide (y ∈ ws)).filter fun y => decide (y ≠ x) := by
      rw [List.filter_filter]
      refine List.filter_congr fun y _ => ?_
      by_cases h1 : y = x <;> by_cases h2 : y ∈ ws <;> simp [h1, h2]
    have h1 := drop_all M h ws
    have h2 := drop_one (M.filter fun y => !decide (y ∈ ws)) x (h.filter _)
    rw [e, List.length_cons]
    omega
theorem inD_ints (x : Int) : ∀ ws : List Int, inD (.int x) (ws.map PyData.int) = decide (x ∈ ws)
  | [] => rfl
  | y :: ws => by
    have ih := inD_ints x ws
    unfold inD inV at *
    rw [List.map_cons, List.map_cons, List.any_cons, ih]
    show ((y == x) || _) = _
    by_cases h : y = x
    · subst h; simp
    · have : ¬ x = y := fun q => h q.symm
      simp [h, this]
theorem ints_of : ∀ {out : List PyData}, (∀ d ∈ out, ∃ i : Int, d = .int i) → ∃ ws : List Int, out = ws.map PyData.int
  | [], _ => ⟨[], rfl⟩
  | d :: out, h => by
    obtain ⟨i, e⟩ := h d List.mem_cons_self
    obtain ⟨ws, e2⟩ := ints_of fun x hx => h x (List.mem_cons_of_mem _ hx)
    exact ⟨i :: ws, by rw [e, e2]; rfl⟩
theorem flat_ints (ws : List Int) : (ws.map PyData.int).all flatD = true := by
  rw [List.all_eq_true]
  intro d hd
  obtain ⟨x, _, rfl⟩ := List.mem_map.mp hd
  rfl
/-! ### states -/
inductive TSt where
  | nam (w : Int) (b : Bool) | near (k : Nat) (top : Int) (b : Bool) | cha (b : Bool)
def TSt.l : TSt → List PyData
  | .nam w b => [.int w, .bool b]
  | .near k t b => [natD k, .int t, .bool b]
  | .cha b => [.bool b]
def TSt.b : TSt → Bool
  | .nam _ b => b
  | .near _ _ b => b
  | .cha b => b
def TSt.d (t : TSt) : PyData := .tuple t.l
section
variable {P : Program} {w : World} {K : PySem.W.Frag} {mg : Str → Option Value} {base : Heap}
def cell0 (i : Inp) : PyData := if i.isNear then .tuple [] else .none
abbrev N_top_cell : List Str := ["play", "hand"]
theorem sc_top_cell : FnScope N_top_cell ["play", "hand"] (defScope (top 109)) := ⟨rfl, rfl, rfl, by decide +kernel, rfl, by decide +kernel, by decide +kernel⟩
theorem c_top_cell (T : TX K mg) : C8.Cal P w K mg base 1 "top_cell" (spS K (fun x : Inp × Nat => [plS K x.1, .dat (natD x.2)]) (fun _ => True) (fun x => Is (cell0 x.1))) [] := by
  refine cal_of T.d_top_cell (fun F => F.bindsN (ps := ["play", "hand"]) fun _ _ _ _ _ _ us hl => match us, hl with | [_, _], _ => rfl) fun F => fnS F sc_top_cell (fun _ => rfl) (by intro a s hs ds z; subst z; simp at hs) fun cdv A outer s H E a hr ha => ?_
  refine ⟨_, (pss_one (ps_ret (pe_ifExp (pt_cmpR op_eq (pe_fld (pv 0) rfl) (C8.pe_gc rfl T.c_NEAR) (nomark _)) (pe_tup pa_nil) pe_non))), ?_⟩
  obtain ⟨i, h⟩ := a
  refine sx_retP (P := (· = .dat (cell0 i))) (evs_if (P := (· = i.isNear)) (evt_test (evs_isK (x := i.kind) (evs_kind (B := ⟨K, none, H, []⟩) T rfl) (kind_dec i).1)) (fun e => ?_) fun e => ?_) (fun s e => by rw [e]; rfl) fun s e => e
  · unfold cell0; rw [← e]; exact evs_tup (ds := []) eva_nil
  · unfold cell0; rw [← e]; exact evs_non
abbrev N_top_next : List Str := ["play", "hand", "state"]
theorem sc_top_next : FnScope N_top_next ["play", "hand", "state"] (defScope (top 111)) := ⟨rfl, rfl, rfl, by decide +kernel, rfl, by decide +kernel, by decide +kernel⟩
theorem c_top_next (T : TX K mg) : C8.Cal P w K mg base 1 "top_next" (spS K (fun x : Inp × Nat × TSt => [plS K x.1, .dat (natD x.2.1), .dat x.2.2.d]) (fun _ => True) (fun x => Is (.tuple [.str (if x.2.2.b then "see" else "put")]))) [] := by
  refine cal_of T.d_top_next (fun F => F.bindsN (ps := ["play", "hand", "state"]) fun _ _ _ _ _ _ us hl => match us, hl with | [_, _, _], _ => rfl) fun F => fnS F sc_top_next (fun _ => rfl) (by intro a s hs ds z; subst z; simp at hs) fun cdv A outer s H E a hr ha => ?_
  refine ⟨_, (pss_one (ps_ret (pe_ifExp (pt_val (pe_ix ix_tup (pv 2) (pe_un un_neg pe_int) (fun _ _ => rfl))) (pe_tup (pa_cons (C8.pe_gc rfl T.c_SEE) pa_nil)) (pe_tup (pa_cons (C8.pe_gc rfl T.c_PUT_plays) pa_nil))))), ?_⟩
  obtain ⟨i, h, t⟩ := a
  have e : ∀ {δ : Dn}, δ[2]? = some (some (.dat t.d)) → EvS ⟨K, none, H, []⟩ (tOp (rIxT K) (tVar 2) (tUn (rU fun i => V.int (-i)) (tC (.int 1)))) δ (Is (.bool t.b)) := fun h => evs_ixT (B := ⟨K, none, H, []⟩) (ds := t.l) (evs_var h) (evs_neg (i := 1) evs_int) (by cases t <;> rfl)
  refine sx_retP (P := (· = .dat (.tuple [.str (if t.b then "see" else "put")]))) ?_ (fun s e => by rw [e]; rfl) fun s e => e
  cases hb : t.b with
  | true => exact evs_ifT (evt_B (evs_is (e rfl) hb)) (evs_tup (ds := [.str "see"]) (eva_c evs_str eva_nil))
  | false => exact evs_ifF (evt_B (evs_is (e rfl) hb)) (evs_tup (ds := [.str "put"]) (eva_c evs_str eva_nil))
end
end K32
/-! Walks: tops, on. -/
namespace K32
open PySem PySem.Spec PyProof.Rows L2
local macro_rules | `(tactic| walk_at "ev") => `(tactic| first
  | exact evs_var rfl | exact evs_own rfl | exact evs_int | exact evs_str | exact evs_bl | exact evs_non
  | exact eva_nil | (apply eva_c <;> walk_at "ev")
  | exact evs_isi (evs_var rfl) rfl kit_int_int | exact evs_isi (evs_var rfl) rfl kit_int_bool | exact evs_isi (evs_var rfl) rfl kit_tuple_tuple | exact evs_isi (evs_var rfl) rfl kit_str_str
  | exact evs_ixT (evs_var rfl) evs_int rfl
  | (apply evs_I0 <;> walk_at "ev") | (apply evs_B0 <;> walk_at "ev")
  | (apply evs_andV <;> walk_at "ev") | (apply evs_orV <;> walk_at "ev") | (apply evs_notV; walk_at "ev")
  | (apply evs_chain <;> walk_at "ev")
  | (apply evs_neg; walk_at "ev")
  | (apply evt_test; walk_at "ev") | (apply evt_B; walk_at "ev") | (apply evt_not; walk_at "ev")
  | (apply evt_and1 <;> walk_at "ev") | (apply evt_or1 <;> walk_at "ev")
  | (intro _; walk_at "ev"))
local macro_rules | `(tactic| walk_at "ret") => `(tactic| (apply sx_ret; walk_at "ev"))
abbrev CN := Option (Nat × Int)
def cN : CN → PyData
  | none => .none
  | some (v, x) => .tuple [natD v, .int x]
theorem isN_cN (c : CN) : isN (.dat (cN c)) = c.isNone := by cases c <;> rfl
def topSt (i : Inp) (h : Nat) : TSt := match i with
  | .nam _ => .nam 1 false
  | .near _ vs => .near 0 (vs.getD h 0) false
  | _ => .cha false
section
variable {B : Bx} {δ : Dn} {te ta : TE} {tt : TT} {i j : Nat} {ds : List PyData} {Q : PyData → Prop}
theorem evs_lenP {P : List PyData → Prop} (h : EvL B te δ P) (hz : ∀ ds, P ds → ds.length ≤ 1000000) : EvS B (tCB (rLen B.K) (tCons te tNil)) δ (fun s => ∃ ds, P ds ∧ s = .dat (natD ds.length)) := fun σ H st Q k => h σ H st _ fun a xs ds H1 r1 h1 ha hl t p =>
  ⟨.ref a, ds.length, rfl, .inl ⟨xs, SqL.of hl, t.length.symm⟩, k.dat r1 h1 (DT.int _) ⟨ds, p, rfl⟩⟩
/-- .. one item left out -/
theorem evl_enumS {h : Nat} (ha : EvS B ta δ (Is (.tuple ds))) (hh : h < ds.length) (hz : ds.length ≤ 1000000) (he : ∀ γ k (hk : k < ds.length), ∃ P : Bool → Prop, EvT (B.add γ) tt (putL [i, j] [.int (k : Nat), ds[k]] (wipeD δ [i, j])) P ∧ (P true → k ≠ h ∧ EvS (B.add γ) te (putL [i, j] [.int (k : Nat), ds[k]] (wipeD δ [i, j])) (fun s => ∃ d, s = .dat d ∧ Q d))) :
    EvL B (tLc (iEnumT B.K (tCons ta tNil)) (gTup B.K 2 (gNames [i, j])) tt te [i, j]) δ (fun out => out.length + 1 ≤ ds.length ∧ ∀ d ∈ out, Q d) := evl_lc (evi_enumT1 ha) fun n put e => by
  obtain ⟨e1, e2⟩ := e
  subst e1 e2
  refine ⟨hz, fun k acc => (acc.length ≤ k ∧ (h < k → acc.length + 1 ≤ k)) ∧ ∀ d ∈ acc, Q d, ⟨⟨Nat.le_refl _, fun q => absurd q (by omega)⟩, fun d hd => (nomatch hd)⟩, fun γ k acc hk ga => ?_, fun acc ga => ⟨ga.1.2 hh, ga.2⟩⟩
  obtain ⟨P, h1, h2⟩ := he γ k hk
  have ed : ds.getD k .none = ds[k] := getD_of (List.getElem?_eq_getElem hk)
  obtain ⟨⟨g1, g2⟩, g3⟩ := ga
  refine ⟨P, ?_, fun p => ?_, fun p => ⟨⟨by omega, fun q => by omega⟩, g3⟩⟩
  · show EvT _ tt (putL [i, j] [.int (k : Nat), ds.getD k .none] (wipeD δ [i, j])) P
    rw [ed]; exact h1
  · show EvS _ te (putL [i, j] [.int (k : Nat), ds.getD k .none] (wipeD δ [i, j])) _
    rw [ed]
    obtain ⟨ne, h3⟩ := h2 p
    refine h3.imp fun s ⟨d, e, q⟩ => ⟨d, e, ⟨by rw [List.length_append]; show acc.length + 1 ≤ k + 1; omega, fun q => by rw [List.length_append]; show acc.length + 1 + 1 ≤ k + 1; have := g2 (by omega); omega⟩, fun x hx => ?_⟩
    rcases List.mem_append.mp hx with hx | hx
    · exact g3 x hx
    · rw [List.mem_singleton.mp hx]; exact q
end
section
variable {P : Program} {w : World} {K : PySem.W.Frag} {mg : Str → Option Value} {base : Heap}
abbrev N_top_state : List Str := ["play", "hand"]
theorem sc_top_state : FnScope N_top_state ["play", "hand"] (defScope (top 110)) := ⟨rfl, rfl, rfl, by decide +kernel, rfl, by decide +kernel, by decide +kernel⟩
theorem c_top_state (T : TX K mg) : C8.Cal P w K mg base 1 "top_state" (spS K (fun x : Inp × Nat => [plS K x.1, .dat (natD x.2)]) (fun x => x.2 < x.1.rows.length) (fun x => Is (topSt x.1 x.2).d)) [] := by
  refine cal_of T.d_top_state (fun F => F.bindsN (ps := ["play", "hand"]) fun _ _ _ _ _ _ us hl => match us, hl with | [_, _], _ => rfl) fun F => fnS F sc_top_state (fun _ => rfl) (by intro a s hs ds z; subst z; simp at hs) fun cdv A outer s H E a hr ha => ?_
  refine ⟨_, (pss_cons (ps_if (pt_cmpR op_eq (pe_fld (pv 0) rfl) (C8.pe_gc rfl T.c_NAMES) (nomark _)) (pss_one (ps_ret (pe_tup (pa_cons pe_int (pa_cons pe_bl pa_nil))))) pss_nil) (pss_one (ps_ret (pe_ifExp (pt_cmpR op_eq (pe_fld (pv 0) rfl) (C8.pe_gc rfl T.c_NEAR) (nomark _)) (pe_tup (pa_cons pe_int (pa_cons (pe_ix ix_tup (pe_fld (pv 0) rfl) (pv 1) (fun _ _ => rfl)) (pa_cons pe_bl pa_nil)))) (pe_tup (pa_cons pe_bl pa_nil)))))), ?_⟩
  obtain ⟨i, h⟩ := a
  have hh : h < i.rows.length := ha
  have kd := kind_dec i
  have hk := fun δ (e : δ[0]? = some (some (plS K i))) => evs_kind (B := ⟨K, none, H, []⟩) (δ := δ) (a := i) T e
  cases i with
  | nam vs => exact sx_seq (G := fun _ => False) (sx_yes (evt_test (evs_isK (x := "names") (hk _ rfl) kd.2.2.1)) (sx_ret (evs_tup (ds := [.int 1, .bool false]) (eva_c evs_int (eva_c evs_bl eva_nil))) rfl)) fun _ q => q.elim
  | near r vs =>
    have hv : h < vs.length := by rwa [show (Inp.near r vs).rows.length = vs.length from List.length_map _] at hh
    refine q_no (evt_test (evs_isK (x := "near") (hk _ rfl) kd.2.2.1)) (sx_ret (evs_ifT (evt_test (evs_isK (x := "near") (hk _ rfl) kd.1)) (evs_tup (ds := [.int 0, .int (vs.getD h 0), .bool false]) (eva_c evs_int (eva_c (evs_ixD (ds := vs.map PyData.int) (evs_rows (B := ⟨K, none, H, []⟩) (a := .near r vs) T rfl) (evs_var rfl) ?_) (eva_c evs_bl eva_nil))))) rfl)
    rw [List.getElem?_map, List.getElem?_eq_getElem hv, getD_of (List.getElem?_eq_getElem hv)]; rfl
  | man k ss => exact q_no (evt_test (evs_isK (x := k.s) (hk _ rfl) kd.2.2.1)) (sx_ret (evs_ifF (evt_test (evs_isK (x := k.s) (hk _ rfl) kd.1)) (evs_tup (ds := [.bool false]) (eva_c evs_bl eva_nil))) rfl)
  | lev vs => exact q_no (evt_test (evs_isK (x := "levels") (hk _ rfl) kd.2.2.1)) (sx_ret (evs_ifF (evt_test (evs_isK (x := "levels") (hk _ rfl) kd.1)) (evs_tup (ds := [.bool false]) (eva_c evs_bl eva_nil))) rfl)
  | cha vs => exact q_no (evt_test (evs_isK (x := "chain") (hk _ rfl) kd.2.2.1)) (sx_ret (evs_ifF (evt_test (evs_isK (x := "chain") (hk _ rfl) kd.1)) (evs_tup (ds := [.bool false]) (eva_c evs_bl eva_nil))) rfl)
theorem evt_neN {B : Bx} {δ : Dn} {ta tb : TE} {k h : Nat} (ha : EvS B ta δ (Is (natD k))) (hb : EvS B tb δ (Is (natD h))) : EvT B (tTest (tOp rNe ta tb)) δ (· = decide (k ≠ h)) := (evt_test (evs_ne (d := natD k) (e := natD h) ha hb rfl rfl rfl)).imp fun b e => by
  rw [e]
  by_cases z : k = h
  · subst z; simp
  · rw [decide_eq_true z, decide_eq_false (fun q => z (natD_inj (by injection q with q; exact congrArg PyData.int q)))]; rfl
abbrev N_wish_by : List Str := ["cells", "hand", "rank", "wished", "free", "cell", "other", "number"]
theorem sc_wish_by : FnScope N_wish_by ["cells", "hand"] (defScope (top 112)) := ⟨rfl, rfl, rfl, by decide +kernel, rfl, by decide +kernel, by decide +kernel⟩
theorem c_wish_by (T : TX K mg) : C8.Cal P w K mg base 1 "wish_by" (spS K (fun x : List CN × Nat => [.dat (.tuple (x.1.map cN)), .dat (natD x.2)]) (fun x => x.1.length ≤ 5 ∧ ∃ c, x.1[x.2]? = some (some c)) (fun x s => ∃ z : Int, s = .dat (.int z))) [] := by
  refine cal_of T.d_wish_by (fun F => F.bindsN (ps := ["cells", "hand"]) fun _ _ _ _ _ _ us hl => match us, hl with | [_, _], _ => rfl) fun F => fnS F sc_wish_by (fun _ => rfl) (by intro a s hs ds z; subst z; simp at hs) fun cdv A outer s H E a hr ha => ?_
  refine ⟨_, (pss_cons (ps_set (i := 2) sc_wish_by.nd rfl (Or.inl rfl) (pe_callB b_len (by rfl) T.n_len bt_len (pa_cons (pe_lc (own := [("cell", 5)]) (g := gName 5) (by rfl) sc_wish_by.nd (pi_tup (pv 0)) (blkOk_by (own := [("cell", 5)]) (N := N_wish_by) (sc := defScope (top 112)) (by decide +kernel)) (fun _ _ _ _ _ => (pg_name (i := 5) sc_wish_by.nd rfl (Or.inl rfl))) (fun _ _ _ _ _ => (pts_one (PW.pt (pw_and (pt_cmpR o_notN (pv 5) pe_non (nomark _)) (pw_and1 (pt_cmpR op_lt (pe_ix (ix_tupK (K := K) rfl) (pv 5) pe_int (fun _ _ => rfl)) (pe_ix (ix_tupK (K := K) rfl) (pe_ix (ix_tupK (K := K) rfl) (pv 0) (pv 1) (fun _ _ => rfl)) pe_int (fun _ _ => rfl)) (nomark _))))))) (fun _ _ _ _ _ => (pv 5))) pa_nil))) (pss_cons (ps_set (i := 3) sc_wish_by.nd rfl (Or.inr rfl) (pe_lc (own := [("other", 6), ("cell", 5)]) (g := gTup K 2 (gNames [6, 5])) (by rfl) sc_wish_by.nd (pi_enumT (by rfl) T.n_enumerate (pa_cons (pv 0) pa_nil)) (blkOk_by (own := [("other", 6), ("cell", 5)]) (N := N_wish_by) (sc := defScope (top 112)) (by decide +kernel)) (fun _ _ _ _ _ => (pg_is (is := [6, 5]) (pg_tup rfl (pgs_cons (pg_name (i := 6) sc_wish_by.nd rfl (Or.inl rfl)) (pgs_cons (pg_name (i := 5) sc_wish_by.nd rfl (Or.inl rfl)) pgs_nil))))) (fun _ _ _ _ _ => (pts_one (PW.pt (pw_and (pt_cmpR op_ne (pv 6) (pv 1) (nomark _)) (pw_and1 (pt_cmpR o_notN (pv 5) pe_non (nomark _))))))) (fun _ _ _ _ _ => (pe_ix (ix_tupK (K := K) rfl) (pv 5) pe_int (fun _ _ => rfl))))) (pss_cons (ps_setLc (i := 4) (own := [("number", 7)]) (g := gName 7) (by rfl) sc_wish_by.nd rfl rfl (sw_true rfl rfl rfl (by decide +kernel)) (pi_range2 (by rfl) T.n_range (pa_cons pe_int (pa_cons (pe_op op_add (pe_op op_mul pe_int (pe_callB b_len (by rfl) T.n_len bt_len (pa_cons (pv 0) pa_nil))) pe_int) pa_nil))) (blkOk_by (own := [("number", 7)]) (N := N_wish_by) (sc := defScope (top 112)) (by decide +kernel)) (fun _ _ _ _ _ => (pg_name (i := 7) sc_wish_by.nd rfl (Or.inl rfl))) (fun _ _ _ _ _ => (pts_one (pt_cmpR (op_notIn_seqK (K := K) rfl) (pv 7) (pv 3) (by rfl)))) (fun _ _ _ _ _ => (pv 7))) (pss_one (ps_ret (pe_ix ix_list (pv 4) (pv 2) (fun _ _ => rfl))))))), ?_⟩
  obtain ⟨L, h⟩ := a
  obtain ⟨hz, ⟨v0, x0⟩, hc⟩ := ha
  have hz : L.length ≤ 5 := hz
  have hc : L[h]? = some (some (v0, x0)) := hc
  have hh : h < L.length := (List.getElem?_eq_some_iff.mp hc).1
  have ll : (L.map cN).length = L.length := List.length_map _
  have gl : ∀ k (hk : k < (L.map cN).length), (L.map cN)[k] = cN (L[k]'(by rw [← ll]; exact hk)) := fun k hk => List.getElem_map _
  refine q_asg (P := fun s => ∃ ds : List PyData, (ds.length ≤ (L.map cN).length ∧ ∀ d ∈ ds, True) ∧ s = .dat (natD ds.length)) (evs_lenP (evl_eachP (Q := fun _ => True) (ds := L.map cN) (evi_tup1 (evs_var rfl)) (by omega) fun γ k hk => ?_) fun ds p => by have := p.1; omega) (fun s ⟨ds, _, e⟩ => by rw [e]; rfl) fun s ⟨ds, ⟨hd, _⟩, e⟩ => ?_
  · rw [gl k hk]
    cases L[k]'(by rw [← ll]; exact hk) with
    | none => exact ⟨(· = false), evt_andF (evt_test (evs_notN (s := .dat .none) (evs_var rfl))), fun q => by cases q⟩
    | some c =>
      obtain ⟨v, x⟩ := c
      exact ⟨fun _ => True, (evt_and1 (a := true) (evt_test (evs_notN (s := .dat (.tuple [natD v, .int x])) (evs_var rfl))) fun _ => evt_test (evs_B0 (i := (v : Int)) (j := (v0 : Int)) (evs_ixT (ds := [natD v, .int x]) (evs_var rfl) evs_int rfl) (evs_ixT (ds := [natD v0, .int x0]) (evs_ixD (ds := L.map cN) (evs_var rfl) (evs_var rfl) (by rw [List.getElem?_map, hc]; rfl)) evs_int rfl))).imp fun _ _ => trivial, fun _ => (evs_var rfl).imp fun s e => ⟨_, e, trivial⟩⟩
  · subst e
    obtain ⟨rk, hrk⟩ : ∃ rk, rk = ds.length := ⟨_, rfl⟩
    rw [← hrk] at hd ⊢
    refine q_asgL (evl_enumS (h := h) (Q := fun d => ∃ z : Int, d = .int z) (ds := L.map cN) (evs_var rfl) (by omega) (by omega) fun γ k hk => ?_) fun ds ⟨hd2, hq⟩ => ?_
    · rw [gl k hk]
      cases L[k]'(by rw [← ll]; exact hk) with
      | none => exact ⟨(· = false), (evt_and1 (b := false) (evt_neN (k := k) (h := h) (evs_var rfl) (evs_var rfl)) fun _ => evt_test (evs_notN (s := .dat .none) (evs_var rfl))).imp fun b e => by rw [e, Bool.and_false], fun q => by cases q⟩
      | some c =>
        obtain ⟨v, x⟩ := c
        refine ⟨(· = (decide (k ≠ h) && true)), evt_and1 (evt_neN (k := k) (h := h) (evs_var rfl) (evs_var rfl)) fun _ => evt_test (evs_notN (s := .dat (.tuple [natD v, .int x])) (evs_var rfl)), fun q => ⟨?_, (evs_ixT (ds := [natD v, .int x]) (evs_var rfl) evs_int rfl).imp fun s e => ⟨_, e, x, rfl⟩⟩⟩
        rw [Bool.and_true] at q
        exact of_decide_eq_true q.symm
    · obtain ⟨ws, ew⟩ := ints_of hq
      subst ew
      rw [List.length_map] at hd2
      let M : List Int := (List.range (2 * L.length)).map fun n : Nat => 1 + (n : Int)
      have hM : M.Nodup := List.pairwise_map.mpr (List.nodup_range.imp fun n e => n (by omega))
      have lM : M.length = 2 * L.length := by rw [List.length_map, List.length_range]
      have cnt := drop_all M hM ws
      refine q_asgL (P := (· = (M.filter fun y => !decide (y ∈ ws)).map PyData.int)) (evl_lc (evi_rng2 (lo := 1) (hi := 2 * (L.length : Int) + 1) (eva_c evs_int (eva_c (evs_I0 (i := 2 * (L.length : Int)) (j := 1) (evs_I (i := 2) (j := (L.length : Int)) evs_int (evs_len (s := .dat (.tuple (L.map cN))) (evs_var rfl) (congrArg some ll) (by omega)) (.inl ⟨by decide, by decide⟩)) evs_int) eva_nil)) (by omega)) fun n put e => ?_) fun ds e => ?_
      · obtain ⟨e1, e2⟩ := e
        have e1' : n = 2 * L.length := by rw [e1]; omega
        subst e1' e2
        refine ⟨by omega, fun k acc => acc = ((M.take k).filter fun y => !decide (y ∈ ws)).map PyData.int, rfl, fun γ k acc hk ga => ?_, fun acc ga => ?_⟩
        · have mk : M.take (k + 1) = M.take k ++ [1 + (k : Int)] := by
            rw [List.take_succ, List.getElem?_map, List.getElem?_range hk]; rfl
          refine ⟨(· = !decide (1 + (k : Int) ∈ ws)), (evt_test (evs_in (neg := true) (d := .int (1 + (k : Int))) (s := .lst (ws.map PyData.int)) (evs_var rfl) (evs_own rfl) rfl rfl (flat_ints ws))).imp fun b e => ?_, fun q => ?_, fun q => ?_⟩
          · rw [e, inD_ints]; rfl
          · refine (evs_var rfl).imp fun s e => ⟨.int (1 + (k : Int)), e, ?_⟩
            show acc ++ [.int (1 + (k : Int))] = ((M.take (k + 1)).filter fun y => !decide (y ∈ ws)).map PyData.int
            have ga' : acc = ((M.take k).filter fun y => !decide (y ∈ ws)).map PyData.int := ga
            have q' : (!decide (1 + (k : Int) ∈ ws)) = true := q.symm
            rw [mk, List.filter_append, List.map_append, ← ga', List.filter_cons_of_pos (p := fun y => !decide (y ∈ ws)) q']
            rfl
          · show acc = ((M.take (k + 1)).filter fun y => !decide (y ∈ ws)).map PyData.int
            have ga' : acc = ((M.take k).filter fun y => !decide (y ∈ ws)).map PyData.int := ga
            have q' : ¬ (!decide (1 + (k : Int) ∈ ws)) = true := fun z => Bool.noConfusion (q.trans z)
            rw [mk, List.filter_append, List.map_append, ← ga', List.filter_cons_of_neg (p := fun y => !decide (y ∈ ws)) q']
            exact (List.append_nil _).symm
        · have e : acc = ((M.take (2 * L.length)).filter fun y => !decide (y ∈ ws)).map PyData.int := ga
          rw [e, List.take_of_length_le (by omega)]
      · subst e
        have hk : rk < (M.filter fun y => !decide (y ∈ ws)).length := by omega
        exact sx_ret (evs_ixL (i := (rk : Int)) (d := .int ((M.filter fun y => !decide (y ∈ ws))[rk])) (evs_own rfl) (evs_var rfl) (by rw [atI_nat, List.getElem?_map, List.getElem?_eq_getElem hk]; rfl)) ⟨_, rfl⟩
end
end K32
/-! Walks: tops, steps. -/
namespace K32
open PySem PySem.Spec PyProof.Rows L2
local macro_rules | `(tactic| walk_at "ev") => `(tactic| first
  | exact evs_var rfl | exact evs_own rfl | exact evs_int | exact evs_str | exact evs_bl | exact evs_non
  | exact eva_nil | (apply eva_c <;> walk_at "ev")
  | exact evs_isi (evs_var rfl) rfl kit_int_int | exact evs_isi (evs_var rfl) rfl kit_int_bool | exact evs_isi (evs_var rfl) rfl kit_tuple_tuple | exact evs_isi (evs_var rfl) rfl kit_str_str
  | exact evs_ixT (evs_var rfl) evs_int rfl
  | (apply evs_I0 <;> walk_at "ev") | (apply evs_B0 <;> walk_at "ev")
  | (apply evs_andV <;> walk_at "ev") | (apply evs_orV <;> walk_at "ev") | (apply evs_notV; walk_at "ev")
  | (apply evs_chain <;> walk_at "ev")
  | (apply evs_neg; walk_at "ev")
  | (apply evt_test; walk_at "ev") | (apply evt_B; walk_at "ev") | (apply evt_not; walk_at "ev")
  | (apply evt_and1 <;> walk_at "ev") | (apply evt_or1 <;> walk_at "ev")
  | (intro _; walk_at "ev"))
local macro_rules | `(tactic| walk_at "ret") => `(tactic| (apply sx_ret; walk_at "ev"))
structure NmA where
  vs : List Nat
  L : List CN
  h : Nat
  x : Int
  b : Bool
structure NmA.ok (a : NmA) : Prop where
  n : a.L.length = a.vs.length
  z : a.vs.length ≤ 5
  hh : a.h < a.vs.length
  c : a.b = true → ∃ c, a.L[a.h]? = some (some c)
structure NrA where
  r : Nat
  vs : List Int
  L : List (List Int)
  h : Nat
  k : Nat
  top : Int
  b : Bool
structure NrA.ok (a : NrA) : Prop where
  n : a.L.length = a.vs.length
  z : a.vs.length ≤ 5
  hh : a.h < a.vs.length
  c : ∃ l, a.L[a.h]? = some l ∧ l.length = if a.b then a.k + 1 else a.k
  k : a.k < a.r
  r : a.r ≤ 6
  all : ∀ l ∈ a.L, l.length ≤ 7
def tupI (l : List Int) : PyData := .tuple (l.map PyData.int)
theorem EvA.imp {B : Bx} {δ : Dn} {t : TA} {R S : List Sv → Prop} (h : EvA B t δ R) (f : ∀ ss, R ss → S ss) : EvA B t δ S := fun σ H st Q k => h σ H st Q fun vs H' ss r hh o q => k vs H' ss r hh o (f ss q)
/-- (d, e, d') where of e only a property is told -/
theorem evs_mid {B : Bx} {δ : Dn} {ta tb tc : TE} {d e : PyData} {G : PyData → Prop} (ha : EvS B ta δ (Is d)) (hb : EvS B tb δ (fun s => ∃ x, s = .dat x ∧ G x)) (hc : EvS B tc δ (Is e)) : EvS B (tTup (tCons ta (tCons tb (tCons tc tNil)))) δ (fun s => ∃ x, s = .dat (.tuple [d, x, e]) ∧ G x) :=
  (evs_tupP (P := fun ds => ∃ x, ds = [d, x, e] ∧ G x) ((eva_cons ha (eva_cons hb (eva_c hc eva_nil))).imp fun ss ⟨s, r, e1, e2, s2, r2, e3, ⟨x, e4, g⟩, e5⟩ => ⟨[d, x, e], by rw [e1, e2, e3, e4, e5]; rfl, (show 3 ≤ 1000 by decide), x, rfl, g⟩)).imp fun s ⟨ds, e1, x, e2, g⟩ => ⟨x, by rw [e1, e2], g⟩
theorem evs_fst {B : Bx} {δ : Dn} {ta tb : TE} {d : PyData} {G : PyData → Prop} (ha : EvS B ta δ (fun s => ∃ x, s = .dat x ∧ G x)) (hb : EvS B tb δ (Is d)) : EvS B (tTup (tCons ta (tCons tb tNil))) δ (fun s => ∃ y, s = .dat y ∧ ∃ x, y = .tuple [x, d] ∧ G x) :=
  (evs_tupP (P := fun ds => ∃ x, ds = [x, d] ∧ G x) ((eva_cons ha (eva_c hb eva_nil)).imp fun ss ⟨s, r, e1, ⟨x, e4, g⟩, e5⟩ => ⟨[x, d], by rw [e1, e4, e5]; rfl, (show 2 ≤ 1000 by decide), x, rfl, g⟩)).imp fun s ⟨ds, e1, x, e2, g⟩ => ⟨_, e1, x, by rw [e2], g⟩
/-- x in a list of which only a property is told -/
theorem evs_inP {B : Bx} {δ : Dn} {ta tb : TE} {neg : Bool} {d : PyData} {S : List PyData → Prop} (ha : EvS B ta δ (Is d)) (hb : EvL B tb δ S) (fd : flatD d = true) (fs : ∀ ds, S ds → ds.all flatD = true) : EvS B (tOp (rIn B.K neg) ta tb) δ (fun s => ∃ b, s = .dat (.bool b) ∧ True) := fun σ H st Q k => ha σ H st _ fun v H1 s r1 h1 o1 e => by
  subst e
  refine hb σ H1 (st.mono r1 h1) _ fun a xs ds H2 r2 h2 hf hl t p => ?_
  have e1 := (DT.mono (fun _ _ => sqT_rel h1 r2) _ _ o1).flat fd
  have e2 := t.flat (fs ds p)
  refine ⟨a, xs, rfl, .inl (SqL.of hl), by rw [e1]; exact flatV_vOf fd, by rw [e2]; exact all_flatV (fs ds p), k.dat (r1.trans r2) h2 (DT.bl _) ⟨_, rfl, trivial⟩⟩
section
variable {P : Program} {w : World} {K : PySem.W.Frag} {mg : Str → Option Value} {base : Heap}
abbrev N_after_names : List Str := ["play", "hand", "cells", "state", "wish", "is_put", "others", "other", "cell"]
theorem sc_after_names : FnScope N_after_names ["play", "hand", "cells", "state"] (defScope (top 113)) := ⟨rfl, rfl, rfl, by decide +kernel, rfl, by decide +kernel, by decide +kernel⟩
theorem c_after_names (T : TX K mg) : C8.Cal P w K mg base 2 "after_names" (spS K (fun a : NmA => [plS K (.nam a.vs), .dat (natD a.h), .dat (.tuple (a.L.map cN)), .dat (TSt.nam a.x a.b).d]) NmA.ok (fun a => trip fun c t => (t = .none ∨ ∃ x b, t = (TSt.nam x b).d ∧ (b = true → a.b = false)) ∧ (a.b = false → ∃ v, c = cN (some v)))) [] := by
  refine cal_of T.d_after_names (fun F => F.bindsN (ps := ["play", "hand", "cells", "state"]) fun _ _ _ _ _ _ us hl => match us, hl with | [_, _, _, _], _ => rfl) fun F => fnS F sc_after_names (fun _ => rfl) (by intro a s hs ds z; subst z; simp at hs) fun cdv A outer s H E a hr ha => ?_
  refine ⟨_, (pss_cons (ps_asg (pv 3) (pg_is (is := [4, 5]) (pg_tup rfl (pgs_cons (pg_name (i := 4) sc_after_names.nd rfl (Or.inl rfl)) (pgs_cons (pg_name (i := 5) sc_after_names.nd rfl (Or.inl rfl)) pgs_nil))))) (pss_cons (ps_if (pt_not (pt_val (pv 5))) (pss_one (ps_ret (pe_tup (pa_cons (pe_tup (pa_cons (pe_ix ix_tup (pe_fld (pv 0) rfl) (pv 1) (fun _ _ => rfl)) (pa_cons (pv 4) pa_nil))) (pa_cons (pe_tup (pa_cons (pv 4) (pa_cons pe_bl pa_nil))) (pa_cons pe_non pa_nil)))))) pss_nil) (pss_cons (ps_setLc (i := 6) (own := [("other", 7), ("cell", 8)]) (g := gTup K 2 (gNames [7, 8])) (by rfl) sc_after_names.nd rfl rfl (sw_true rfl rfl rfl (by decide +kernel)) (pi_enumT (by rfl) T.n_enumerate (pa_cons (pv 2) pa_nil)) (blkOk_by (own := [("other", 7), ("cell", 8)]) (N := N_after_names) (sc := defScope (top 113)) (by decide +kernel)) (fun _ _ _ _ _ => (pg_is (is := [7, 8]) (pg_tup rfl (pgs_cons (pg_name (i := 7) sc_after_names.nd rfl (Or.inl rfl)) (pgs_cons (pg_name (i := 8) sc_after_names.nd rfl (Or.inl rfl)) pgs_nil))))) (fun _ _ _ _ _ => (pts_one (PW.pt (pw_and (pt_cmpR op_ne (pv 7) (pv 1) (nomark _)) (pw_and1 (pt_cmpR o_notN (pv 8) pe_non (nomark _))))))) (fun _ _ _ _ _ => (pv 8))) (pss_cons (ps_if (pt_cmpR op_notIn_seq (pv 4) (pe_lc (own := [("cell", 8)]) (g := gName 8) (by rfl) sc_after_names.nd (pi_list (pv 6)) (blkOk_by (own := [("cell", 8)]) (N := N_after_names) (sc := defScope (top 113)) (by decide +kernel)) (fun _ _ _ _ _ => (pg_name (i := 8) sc_after_names.nd rfl (Or.inl rfl))) (fun _ _ _ _ _ => pts_nil) (fun _ _ _ _ _ => (pe_ix (ix_tupK (K := K) rfl) (pv 8) pe_int (fun _ _ => rfl)))) (by rfl)) (pss_one (ps_ret (pe_tup (pa_cons pe_non (pa_cons pe_non (pa_cons (pv 4) pa_nil)))))) pss_nil) (pss_one (ps_ret (pe_tup (pa_cons pe_non (pa_cons (pe_tup (pa_cons (C8.pe_c (c_wish_by T) hr (by decide) rfl (pa_cons (pv 2) (pa_cons (pv 1) pa_nil))) (pa_cons pe_bl pa_nil))) (pa_cons pe_non pa_nil)))))))))), ?_⟩
  obtain ⟨vs, L, h, x, b⟩ := a
  obtain ⟨hn, hz, hh, hc⟩ := ha
  have hn : L.length = vs.length := hn
  have hz : vs.length ≤ 5 := hz
  have hh : h < vs.length := hh
  have ll : (L.map cN).length = L.length := List.length_map _
  refine q_unp (ds := [.int x, .bool b]) (evs_var rfl) rfl rfl ?_
  cases b with
  | false =>
    refine sx_seq (G := fun _ => False) (sx_yes (evt_notF (evt_B (evs_var rfl))) (sx_ret (evs_tup (ds := [cN (some (vs[h], x)), (TSt.nam x true).d, .none]) (eva_c (evs_tup (ds := [natD vs[h], .int x]) (eva_c (evs_ixD (ds := vs.map natD) (evs_rows (B := ⟨K, none, H, []⟩) (a := .nam vs) T rfl) (evs_var rfl) (by rw [List.getElem?_map, List.getElem?_eq_getElem hh]; rfl)) (eva_c (evs_var rfl) eva_nil))) (eva_c (evs_tup (ds := [.int x, .bool true]) (eva_c (evs_var rfl) (eva_c evs_bl eva_nil))) (eva_c evs_non eva_nil)))) ⟨_, _, _, rfl, .inr ⟨x, true, rfl, fun _ => rfl⟩, fun _ => ⟨_, rfl⟩⟩)) fun _ q => q.elim
  | true =>
    refine q_no (evt_notT (evt_B (evs_var rfl))) ?_
    refine q_asgL (evl_enumP (Q := fun d => ∃ v, d = cN (some v)) (ds := L.map cN) (evs_var rfl) (by omega) fun γ k hk => ?_) fun ds ⟨hd, hq⟩ => ?_
    · have gl : (L.map cN)[k] = cN (L[k]'(by rw [← ll]; exact hk)) := List.getElem_map _
      rw [gl]
      cases L[k]'(by rw [← ll]; exact hk) with
      | none => exact ⟨(· = false), (evt_and1 (b := false) (evt_neN (k := k) (h := h) (evs_var rfl) (evs_var rfl)) fun _ => evt_test (evs_notN (s := .dat .none) (evs_var rfl))).imp fun b e => by rw [e, Bool.and_false], fun q => by cases q⟩
      | some v => exact ⟨fun _ => True, (evt_and1 (evt_neN (k := k) (h := h) (evs_var rfl) (evs_var rfl)) fun _ => evt_test (evs_notN (s := .dat (cN (some v))) (evs_var rfl))).imp fun _ _ => trivial, fun _ => (evs_var rfl).imp fun s e => ⟨_, e, v, rfl⟩⟩
    · have hl : ds.length ≤ 1000000 := by omega
      refine sx_share (i := 6) rfl ?_
      refine q_if (P := fun _ => True) (evt_testP (evs_inP (d := .int x) (evs_var rfl) (evl_eachP (Q := fun d => ∃ z : Int, d = .int z) (ds := ds) (by exact evi_lst rfl) hl fun γ j hj => ⟨_, evt_yes, fun _ => ?_⟩) rfl fun es p => ?_)) (fun _ => ?_) fun _ => q_next ?_
      · obtain ⟨v, e⟩ := hq _ (List.getElem_mem hj)
        rw [e]
        exact (evs_ixT (ds := [natD v.1, .int v.2]) (evs_var rfl) evs_int rfl).imp fun s e => ⟨_, e, v.2, rfl⟩
      · obtain ⟨ws, e⟩ := ints_of p.2
        rw [e]; exact flat_ints ws
      · exact sx_seq (G := fun _ => False) (sx_ret (evs_tup (ds := [.none, .none, .int x]) (eva_c evs_non (eva_c evs_non (eva_c (evs_var rfl) eva_nil)))) ⟨_, _, _, rfl, .inl rfl, fun q => by cases q⟩) fun _ q => q.elim
      · obtain ⟨v, hv⟩ := hc rfl
        refine sx_retP (evs_mid (d := .none) (e := .none) evs_non (evs_fst (d := .bool false) (G := fun d => ∃ z : Int, d = .int z) ((evs_call1 (α := List CN × Nat) (L, h) (eva_c (evs_var rfl) (eva_c (evs_var rfl) eva_nil)) ⟨by show L.length ≤ 5; rw [show L.length = vs.length from hn]; exact hz, v, hv⟩).imp fun s ⟨z, e⟩ => ⟨_, e, z, rfl⟩) evs_bl) evs_non) (fun s ⟨y, e, _⟩ => by rw [e]; rfl) fun s ⟨y, e, x2, ey, z, ez⟩ => ⟨_, y, _, e, .inr ⟨z, false, by rw [ey, ez]; rfl, fun q => by cases q⟩, fun q => by cases q⟩
end
end K32
/-! Walks: near. -/
namespace K32
open PySem PySem.Spec PyProof.Rows L2
local macro_rules | `(tactic| walk_at "ev") => `(tactic| first
  | exact evs_var rfl | exact evs_own rfl | exact evs_int | exact evs_str | exact evs_bl | exact evs_non
  | exact eva_nil | (apply eva_c <;> walk_at "ev")
  | exact evs_isi (evs_var rfl) rfl kit_int_int | exact evs_isi (evs_var rfl) rfl kit_int_bool | exact evs_isi (evs_var rfl) rfl kit_tuple_tuple | exact evs_isi (evs_var rfl) rfl kit_str_str
  | exact evs_ixT (evs_var rfl) evs_int rfl
  | (apply evs_I0 <;> walk_at "ev") | (apply evs_B0 <;> walk_at "ev")
  | (apply evs_andV <;> walk_at "ev") | (apply evs_orV <;> walk_at "ev") | (apply evs_notV; walk_at "ev")
  | (apply evs_chain <;> walk_at "ev")
  | (apply evs_neg; walk_at "ev")
  | (apply evt_test; walk_at "ev") | (apply evt_B; walk_at "ev") | (apply evt_not; walk_at "ev")
  | (apply evt_and1 <;> walk_at "ev") | (apply evt_or1 <;> walk_at "ev")
  | (intro _; walk_at "ev"))
local macro_rules | `(tactic| walk_at "ret") => `(tactic| (apply sx_ret; walk_at "ev"))
theorem IntP.ex {s : Sv} {P : Int → Prop} (h : IntP P s) : ∃ x, s = .dat x ∧ ∃ z : Int, x = .int z := by obtain ⟨i, e, _⟩ := h; exact ⟨_, e, i, rfl⟩
section
variable {P : Program} {w : World} {K : PySem.W.Frag} {mg : Str → Option Value} {base : Heap}
abbrev N_after_near : List Str := ["play", "hand", "cells", "state", "number", "top", "is_put", "tops", "later", "cell"]
theorem sc_after_near : FnScope N_after_near ["play", "hand", "cells", "state"] (defScope (top 114)) := ⟨rfl, rfl, rfl, by decide +kernel, rfl, by decide +kernel, by decide +kernel⟩
theorem c_after_near (T : TX K mg) : C8.Cal P w K mg base 1 "after_near" (spS K (fun a : NrA => [plS K (.near a.r a.vs), .dat (natD a.h), .dat (.tuple (a.L.map tupI)), .dat (TSt.near a.k a.top a.b).d]) NrA.ok
    (fun a => trip fun c t => (t = .none ∨ ∃ k top b, t = (TSt.near k top b).d ∧ k < a.r ∧ ((b = true ∧ a.b = false ∧ k = a.k) ∨ (b = false ∧ a.b = true ∧ k = a.k + 1))) ∧ (a.b = false → ∃ l, c = tupI l ∧ l.length = a.k + 1))) [] := by
  refine cal_of T.d_after_near (fun F => F.bindsN (ps := ["play", "hand", "cells", "state"]) fun _ _ _ _ _ _ us hl => match us, hl with | [_, _, _, _], _ => rfl) fun F => fnS F sc_after_near (fun _ => rfl) (by intro a s hs ds z; subst z; simp at hs) fun cdv A outer s H E a hr ha => ?_
  refine ⟨_, (pss_cons (ps_asg (pv 3) (pg_is (is := [4, 5, 6]) (pg_tup rfl (pgs_cons (pg_name (i := 4) sc_after_near.nd rfl (Or.inr rfl)) (pgs_cons (pg_name (i := 5) sc_after_near.nd rfl (Or.inl rfl)) (pgs_cons (pg_name (i := 6) sc_after_near.nd rfl (Or.inl rfl)) pgs_nil)))))) (pss_cons (ps_if (pt_not (pt_val (pv 6))) (pss_one (ps_ret (pe_tup (pa_cons (pe_op op_catA (pe_ix ix_tup (pv 2) (pv 1) (fun _ _ => rfl)) (pe_tup (pa_cons (pv 5) pa_nil))) (pa_cons (pe_tup (pa_cons (pv 4) (pa_cons (pv 5) (pa_cons pe_bl pa_nil)))) (pa_cons pe_non pa_nil)))))) pss_nil) (pss_cons (ps_setLc (i := 7) (own := [("cell", 9)]) (g := gName 9) (by rfl) sc_after_near.nd rfl rfl (sw_true rfl rfl rfl (by decide +kernel)) (pi_tup (pv 2)) (blkOk_by (own := [("cell", 9)]) (N := N_after_near) (sc := defScope (top 114)) (by decide +kernel)) (fun _ _ _ _ _ => (pg_name (i := 9) sc_after_near.nd rfl (Or.inl rfl))) (fun _ _ _ _ _ => (pts_one (pt_cmpR op_gt (pe_callB (b_lenK (K := K) rfl) (by rfl) T.n_len bt_len (pa_cons (pv 9) pa_nil)) (pv 4) (nomark _)))) (fun _ _ _ _ _ => (pe_ix (ix_tupK (K := K) rfl) (pv 9) (pv 4) (fun _ _ => rfl)))) (pss_cons (ps_set (i := 8) sc_after_near.nd rfl (Or.inl rfl) (pe_op op_add (pe_callB (cr_min rfl) (by rfl) T.n_min bt_min (pa_cons (pv 7) pa_nil)) (pe_callB (cr_max rfl) (by rfl) T.n_max bt_max (pa_cons (pv 7) pa_nil)))) (pss_cons (ps_if (pt_cmpR op_eq (pe_op op_add (pv 4) pe_int) (pe_ix ix_tup (pe_fld (pv 0) rfl) pe_int (fun _ _ => rfl)) (nomark _)) (pss_one (ps_ret (pe_tup (pa_cons pe_non (pa_cons pe_non (pa_cons (pe_tup (pa_cons (pv 8) (pa_cons (pe_op op_add (pv 4) pe_int) pa_nil))) pa_nil)))))) pss_nil) (pss_one (ps_ret (pe_tup (pa_cons pe_non (pa_cons (pe_tup (pa_cons (pe_op op_add (pv 4) pe_int) (pa_cons (pv 8) (pa_cons pe_bl pa_nil)))) (pa_cons pe_non pa_nil))))))))))), ?_⟩
  obtain ⟨r, vs, L, h, k, top, b⟩ := a
  obtain ⟨hn, hz, hh, ⟨l0, hc, hlc⟩, hk, hr6, hall⟩ := ha
  have hn : L.length = vs.length := hn
  have hz : vs.length ≤ 5 := hz
  have hh : h < vs.length := hh
  have hc : L[h]? = some l0 := hc
  have hk : k < r := hk
  have hr6 : r ≤ 6 := hr6
  have hall : ∀ l ∈ L, l.length ≤ 7 := hall
  have ll : (L.map tupI).length = L.length := List.length_map _
  have mt : ∀ l : List Int, (l.map PyData.int).length = l.length := fun l => List.length_map _
  refine q_unp (ds := [natD k, .int top, .bool b]) (evs_var rfl) rfl rfl ?_
  cases b with
  | false =>
    have hlc : l0.length = k := hlc
    have hm := mt l0
    refine sx_seq (G := fun _ => False) (sx_yes (evt_notF (evt_B (evs_var rfl))) (sx_ret (evs_tup (ds := [tupI (l0 ++ [top]), (TSt.near k top true).d, .none]) (eva_c ((evs_catA (ds := l0.map PyData.int) (evs_ixD (ds := L.map tupI) (evs_var rfl) (evs_var rfl) (by rw [List.getElem?_map, hc]; rfl)) (evs_tup (ds := [.int top]) (eva_c (evs_var rfl) eva_nil)) (by show (l0.map PyData.int).length + 1 ≤ _; omega)).imp fun s e => by rw [e, tupI, List.map_append]; rfl) (eva_c (evs_tup (ds := [natD k, .int top, .bool true]) (eva_c (evs_var rfl) (eva_c (evs_var rfl) (eva_c evs_bl eva_nil)))) (eva_c evs_non eva_nil)))) ⟨_, _, _, rfl, .inr ⟨k, top, true, rfl, hk, .inl ⟨rfl, rfl, rfl⟩⟩, fun _ => ⟨_, rfl, by rw [List.length_append, hlc]; rfl⟩⟩)) fun _ q => q.elim
  | true =>
    have hlc : l0.length = k + 1 := hlc
    refine q_no (evt_notT (evt_B (evs_var rfl))) ?_
    have ns0 : 0 < (L.filterMap fun l => l[k]?).length := by
      have m : l0[k] ∈ L.filterMap fun l => l[k]? := List.mem_filterMap.mpr ⟨l0, List.mem_of_getElem? hc, List.getElem?_eq_getElem (by omega)⟩
      exact List.length_pos_of_mem m
    have em : L.filterMap (fun l => (l[k]?).map PyData.int) = (L.filterMap fun l => l[k]?).map PyData.int := by rw [List.map_filterMap]
    refine q_asgL1 (ds := (L.filterMap fun l => l[k]?).map PyData.int) ((evl_fmL (L := L) (F := tupI) (f := fun l => (l[k]?).map PyData.int) (evi_tup1 (evs_var rfl)) (by omega) (fun γ l hl => ?_) fun γ l d hl e => ?_).imp fun ds e => by rw [e, em]) ?_
    · have h7 := hall l hl
      have hm := mt l
      refine evt_test (evs_is (evs_B0 (i := (l.length : Int)) (j := (k : Int)) (evs_len (s := .dat (tupI l)) (evs_var rfl) (congrArg some hm) (by omega)) (evs_var rfl)) ?_)
      cases z : l[k]? with
      | none => exact decide_eq_false (by have := List.getElem?_eq_none_iff.mp z; omega)
      | some x => exact decide_eq_true (by have := (List.getElem?_eq_some_iff.mp z).1; omega)
    · exact evs_ixD (ds := l.map PyData.int) (evs_var rfl) (evs_var rfl) (by rw [List.getElem?_map]; exact e)
    · have mn : ∀ {δ : Dn} , δ[7]? = some (some (.own ((L.filterMap fun l => l[k]?).map PyData.int))) → EvS ⟨K, none, H, []⟩ (tVar 7) δ (fun s => ∃ ns : List Int, s = .lst (ns.map PyData.int) ∧ 0 < ns.length) := fun h => (evs_own h).imp fun s e => ⟨_, e, ns0⟩
      refine q_asg (P := IntP fun _ => True) (evs_I0P (P := fun _ => True) (R := fun _ => True) (evs_minL (P := fun _ => True) (mn rfl)) (evs_maxL (P := fun _ => True) (mn rfl)) fun _ _ _ _ => trivial) (fun s ⟨i, e, _⟩ => by rw [e]; rfl) fun s ⟨z, e, _⟩ => ?_
      subst e
      have hin : (Inp.near r vs).inputs = .tuple [natD r, .tuple (vs.map PyData.int)] := rfl
      refine q_if (P := (· = decide (((k : Int) + 1) = (r : Int)))) ((evt_test (evs_eq (d := .int ((k : Int) + 1)) (e := .int (r : Int)) (evs_I0 (i := (k : Int)) (j := 1) (evs_var rfl) evs_int) (evs_ixT (ds := [natD r, .tuple (vs.map PyData.int)]) (evs_inputs (B := ⟨K, none, H, []⟩) (a := .near r vs) T rfl) evs_int rfl) rfl rfl rfl)).imp fun b e => by rw [e, dec_int]) (fun e => ?_) fun e => q_next ?_
      · exact sx_seq (G := fun _ => False) (sx_ret (evs_tup (ds := [.none, .none, .tuple [.int z, .int ((k : Int) + 1)]]) (eva_c evs_non (eva_c evs_non (eva_c (evs_tup (ds := [.int z, .int ((k : Int) + 1)]) (eva_c (evs_var rfl) (eva_c (evs_I0 (i := (k : Int)) (j := 1) (evs_var rfl) evs_int) eva_nil))) eva_nil)))) ⟨_, _, _, rfl, .inl rfl, fun q => by cases q⟩) fun _ q => q.elim
      · have e3 := of_decide_eq_false e.symm
        exact sx_ret (evs_tup (ds := [.none, (TSt.near (k + 1) z false).d, .none]) (eva_c evs_non (eva_c (evs_tup (ds := [.int ((k : Int) + 1), .int z, .bool false]) (eva_c (evs_I0 (i := (k : Int)) (j := 1) (evs_var rfl) evs_int) (eva_c (evs_var rfl) (eva_c evs_bl eva_nil)))) (eva_c evs_non eva_nil)))) ⟨_, _, _, rfl, .inr ⟨k + 1, z, false, rfl, by show k + 1 < r; omega, .inr ⟨rfl, rfl, rfl⟩⟩, fun q => by cases q⟩
end
end K32
/-! sorted of a dict whose keys are ints; a dict that changes beside instances. -/
namespace K32
open PySem PySem.Spec PyProof.Rows L2
def rSortedDI : List V → Hp → VK → Prop := fun xs H Q => ∃ (a : Addr) (kvs : List (Key × V)) (ks : List Int), xs = [.ref a] ∧ Rd H a (.dK kvs) ∧ kvs.map (·.1) = ks.map Sum.inl ∧ ks.length < 64 ∧ ∀ (ys : List Int) (p : Addr), ys.Perm ks → ys.Pairwise (· ≤ ·) → H p = none → Q (.ref p) (upd H p (.lst (ys.map V.int)))
theorem cr_sortedDI {X : Cx} (hcalm : X.calm = true) : CallR X (.builtin "sorted") rSortedDI := call_sortedDI hcalm
section
variable {B : Bx} {δ : Dn} {i : Nat} {p : Addr} {kvs : List (Key × V)} {ks : List Int}
theorem evl_sortedDI (hi : δ[i]? = some (some (.obj p (.dK kvs)))) (hk : kvs.map (·.1) = ks.map Sum.inl) (hz : ks.length < 64) : EvL B (tCB rSortedDI (tCons (tVar i) tNil)) δ (fun ds => ∃ ms : List Int, ds = ms.map PyData.int ∧ ms.Perm ks) := fun σ H st Q q => by
  obtain ⟨v, e, rfl, hp, _⟩ := st.ok i _ hi
  refine ⟨_, e, p, kvs, ks, rfl, .inl hp, hk, hz, fun ys l pm _ hl => ?_⟩
  have r2 : Rel B.hd H (upd H l (.lst (ys.map V.int))) := .new hl
  exact q l _ (ys.map PyData.int) _ r2 (st.hh.new hl) hl upd_same (DTs.of_ints ys) ⟨ys, rfl, pm⟩
end
section
variable {B : Bx} {H H' H1 : Hp} {σ : L2.St} {δ : Dn} {te tv : TE} {t u : TS} {N : PD} {i : Nat} {p : Addr} {kvs : List (Key × V)}
/-- a dict of the def's own changes, instances beside it -/
theorem StB.putD {p : Addr} {kv kv' : List (Key × V)} (st : StB B H σ δ) (h0 : B.H0 p = none) {i : Nat} (hi : δ[i]? = some (some (.obj p (.dK kv)))) (hk : ∀ b u, b ≠ p → H b = some u → H' b = some u) (hp' : H' p = some (.dK kv'))
    (hc : ∀ (j : Nat) (s : Sv), j ≠ i → δ[j]? = some (some s) → (∀ p' o', s ≠ .obj p' o')) : StB B H' σ (δ.set i (some (.obj p (.dK kv')))) := by
  obtain ⟨v, e1, ev, hp, so⟩ := st.ok i _ hi
  have nt : ∀ {a u}, H a = some u → softO u = false → a ≠ p := fun e f z => by
    subst z
    rw [hp] at e; cases e
    rw [so] at f; cases f
  have hT : ∀ c ys, SqT B.K H c ys → SqT B.K H' c ys := fun c ys q => by
    rcases q with (q | ⟨ob, q⟩) | q
    · exact .inl (.inl (hk _ _ (nt q rfl) q))
    · exact .inl (.inr ⟨ob, hk _ _ (nt q rfl) q⟩)
    · exact .inr q
  have hok : ∀ {v s}, (∀ p' o', s ≠ .obj p' o') → SvOk B.K B.hd H v s → SvOk B.K B.hd H' v s := fun {v s} c o => by
    cases s with
    | dat d => exact DT.mono hT _ _ o
    | lst ds => obtain ⟨a, xs, e, n, q, t⟩ := o; exact ⟨a, xs, e, n, hk _ _ (nt q rfl) q, DTs.mono hT _ _ t⟩
    | own ds => obtain ⟨a, xs, e, n, q, t⟩ := o; exact ⟨a, xs, e, n, hk _ _ (nt q rfl) q, DTs.mono hT _ _ t⟩
    | val u => exact o
    | ins C fs =>
      obtain ⟨a, dx, gs, e, q, t⟩ := o
      exact ⟨a, dx, gs, e, hk _ _ (fun z => by rw [z, hp] at q; cases q) q, t.mono hT⟩
    | obj q u => exact absurd rfl (c q u)
  refine ⟨fun c u hc e => hk _ _ (fun z => by rw [z, h0] at e; cases e) (st.rel c u hc e), st.h0, fun a b e => ?_, by rw [List.length_set]; exact st.len, fun j s e => ?_, fun v s m c => hok (fun p' o' z => by rw [z] at c; cases c) (st.gh v s m c), fun j ds a f1 f2 => ?_⟩
  · obtain ⟨⟨x, y, z, u, h1, h2⟩, ns, h3, h4⟩ := st.hh a b e
    exact ⟨⟨x, y, z, u, hk _ _ (nt h1 rfl) h1, h2⟩, ns, hk _ _ (nt h3 rfl) h3, h4⟩
  · rcases getSet e with ⟨rfl, e'⟩ | ⟨n, e'⟩
    · cases e'
      exact ⟨v, e1, ev, hp', rfl⟩
    · obtain ⟨u, h1, h2⟩ := st.ok j s e'
      exact ⟨u, h1, hok (hc j s n e') h2⟩
  · rcases getSet f1 with ⟨rfl, e'⟩ | ⟨n, e'⟩
    · cases e'
    · obtain ⟨a1, a2, a3⟩ := st.own j ds a e' f2
      refine ⟨a1, fun k s hk g1 g2 => ?_, a3⟩
      rcases getSet g1 with ⟨rfl, e''⟩ | ⟨m, e''⟩
      · cases e''; rfl
      · exact a2 k s hk e'' g2
theorem sx_dputI {n : Int} {d : PyData} (h0 : B.H0 p = none) (hi : δ[i]? = some (some (.obj p (.dK kvs)))) (h : EvS B te δ (Is (.int n))) (hv : EvS B tv δ (Is d)) (fd : flatD d = true) (hz : kvs.length ≤ 1000000) (hc : ∀ (j : Nat) (s : Sv), j ≠ i → δ[j]? = some (some s) → (∀ p' o', s ≠ .obj p' o'))
    (k : N.nx (δ.set i (some (.obj p (.dK (putK kvs (.inl n) (vOf d))))))) : SX B (sDPut (tVar i) te tv) δ N := fun σ H st D g => hv σ H st _ fun v H1 s r1 h1 o1 e => by
  subst e
  have ev := o1.flat fd
  subst ev
  have st1 := st.mono r1 h1
  obtain ⟨w, e1, rfl, hp, _⟩ := st1.ok i _ hi
  refine ⟨_, e1, h σ H1 st1 _ fun y H2 s2 r2 h2 o2 e => ?_⟩
  subst e
  cases o2.int_inv
  have st2 := st1.mono r2 h2
  obtain ⟨w, e2, rfl, hp2, _⟩ := st2.ok i _ hi
  refine ⟨p, _, rfl, .k (k := .inl n) hp2 (Nat.lt_of_le_of_lt hz (by decide)), g.nx _ _ _ (st2.putD h0 hi (fun b u hb e => by rw [upd_ne hb]; exact e) upd_same hc) k⟩
end
end K32
/-! Walks: chain. -/
namespace K32
open PySem PySem.Spec PyProof.Rows L2
local macro_rules | `(tactic| walk_at "ev") => `(tactic| first
  | exact evs_var rfl | exact evs_own rfl | exact evs_int | exact evs_str | exact evs_bl | exact evs_non
  | exact eva_nil | (apply eva_c <;> walk_at "ev")
  | exact evs_isi (evs_var rfl) rfl kit_int_int | exact evs_isi (evs_var rfl) rfl kit_int_bool | exact evs_isi (evs_var rfl) rfl kit_tuple_tuple | exact evs_isi (evs_var rfl) rfl kit_str_str
  | exact evs_ixT (evs_var rfl) evs_int rfl
  | (apply evs_I0 <;> walk_at "ev") | (apply evs_B0 <;> walk_at "ev")
  | (apply evs_andV <;> walk_at "ev") | (apply evs_orV <;> walk_at "ev") | (apply evs_notV; walk_at "ev")
  | (apply evs_chain <;> walk_at "ev")
  | (apply evs_neg; walk_at "ev")
  | (apply evt_test; walk_at "ev") | (apply evt_B; walk_at "ev") | (apply evt_not; walk_at "ev")
  | (apply evt_and1 <;> walk_at "ev") | (apply evt_or1 <;> walk_at "ev")
  | (intro _; walk_at "ev"))
local macro_rules | `(tactic| walk_at "ret") => `(tactic| (apply sx_ret; walk_at "ev"))
abbrev CC := Option (List Nat)
def cC : CC → PyData
  | none => .none
  | some l => lotD l
structure ChA where
  ls : List (List Nat)
  L : List CC
  h : Nat
  b : Bool
structure ChA.ok (a : ChA) : Prop where
  n : a.L.length = a.ls.length
  z : a.ls.length ≤ 5
  hh : a.h < a.ls.length
  all : ∀ l, some l ∈ a.L → lotOk l
theorem few : ∀ (n : Nat) (l : List Nat), l.Nodup → (∀ x ∈ l, x < n) → l.length ≤ n
  | 0, [], _, _ => Nat.le_refl _
  | 0, x :: _, _, h => absurd (h x List.mem_cons_self) (Nat.not_lt_zero x)
  | n + 1, l, nd, h => by
    have h1 := few n (l.erase n) (nd.erase n) fun x hx => by
      obtain ⟨ne, m⟩ := (nd.mem_erase_iff).mp hx
      have := h x m
      omega
    by_cases hm : n ∈ l
    · rw [List.length_erase_of_mem hm] at h1
      omega
    · rw [List.erase_of_not_mem hm] at h1
      omega
/-- a dict's keys: unlike numbers below 20 -/
def keysI (kvs : List (Key × V)) : Prop := ∃ ks : List Nat, kvs.map (·.1) = ks.map (fun n : Nat => Sum.inl (n : Int)) ∧ ks.Nodup ∧ ∀ x ∈ ks, x < 20
theorem keysI_put {kvs : List (Key × V)} (h : keysI kvs) {x : Nat} (hx : x < 20) (v : V) : keysI (putK kvs (.inl (x : Int)) v) := by
  obtain ⟨ks, e, nd, lt⟩ := h
  unfold putK
  split
  · refine ⟨ks, ?_, nd, lt⟩
    rw [List.map_map, ← e]
    refine List.map_congr_left fun kv _ => ?_
    show (if kv.1 = Sum.inl (x : Int) then (kv.1, v) else kv).1 = kv.1
    split <;> rfl
  · rename_i no
    refine ⟨ks ++ [x], by rw [List.map_append, List.map_append, e]; rfl, ?_, fun y hy => ?_⟩
    · rw [List.nodup_append]
      refine ⟨nd, List.pairwise_singleton _ _, fun y hy z hz ez => no ?_⟩
      have ex : y = x := ez.trans (List.mem_singleton.mp hz)
      subst ex
      have m : (Sum.inl (y : Int) : Key) ∈ kvs.map (·.1) := by rw [e]; exact List.mem_map.mpr ⟨y, hy, rfl⟩
      obtain ⟨kv, m1, m2⟩ := List.mem_map.mp m
      exact List.any_eq_true.mpr ⟨kv, m1, decide_eq_true m2⟩
    · rcases List.mem_append.mp hy with hy | hy
      · exact lt y hy
      · rw [List.mem_singleton.mp hy]; exact hx
theorem keysI.len {kvs : List (Key × V)} (h : keysI kvs) : kvs.length ≤ 20 := by
  obtain ⟨ks, e, nd, lt⟩ := h
  have h1 := congrArg List.length e
  rw [List.length_map, List.length_map] at h1
  have := few 20 ks nd lt
  omega
section
variable {P : Program} {w : World} {K : PySem.W.Frag} {mg : Str → Option Value} {base : Heap}
abbrev N_after_chain : List Str := ["play", "hand", "cells", "state", "found", "cell", "item"]
theorem sc_after_chain : FnScope N_after_chain ["play", "hand", "cells", "state"] (defScope (top 115)) := ⟨rfl, rfl, rfl, by decide +kernel, rfl, by decide +kernel, by decide +kernel⟩
theorem c_after_chain (T : TX K mg) : C8.Cal P w K mg base 1 "after_chain" (spS K (fun a : ChA => [plS K (.cha a.ls), .dat (natD a.h), .dat (.tuple (a.L.map cC)), .dat (TSt.cha a.b).d]) ChA.ok (fun a => trip fun c t => (t = .none ∨ ∃ b, t = (TSt.cha b).d) ∧ (a.b = false → ∃ l ∈ a.ls, c = cC (some l)))) [] := by
  refine cal_of T.d_after_chain (fun F => F.bindsN (ps := ["play", "hand", "cells", "state"]) fun _ _ _ _ _ _ us hl => match us, hl with | [_, _, _, _], _ => rfl) fun F => fnS F sc_after_chain (fun _ => rfl) (by intro a s hs ds z; subst z; simp at hs) fun cdv A outer s H E a hr ha => ?_
  refine ⟨_, (pss_cons (ps_if (pt_not (pt_val (pe_ix ix_tup (pv 3) pe_int (fun _ _ => rfl)))) (pss_one (ps_ret (pe_tup (pa_cons (pe_ix ix_tup (pe_fld (pv 0) rfl) (pv 1) (fun _ _ => rfl)) (pa_cons (pe_tup (pa_cons pe_bl pa_nil)) (pa_cons pe_non pa_nil)))))) pss_nil) (pss_cons (ps_set (i := 4) sc_after_chain.nd rfl (Or.inl rfl) pe_dnewK) (pss_cons (ps_for PassesOwn.never rfl (pi_tup (pv 2)) (pg_name (i := 5) sc_after_chain.nd rfl (Or.inl rfl)) (pss_one (ps_if (pt_cmpR o_notN (pv 5) pe_non (nomark _)) (pss_one (ps_for PassesOwn.never rfl (pi_tup (pv 5)) (pg_name (i := 6) sc_after_chain.nd rfl (Or.inl rfl)) (pss_one (ps_dput (hu_of hr) (pv 4) (pv 6) pe_bl rfl)))) pss_nil))) (pss_one (ps_ret (pe_tup (pa_cons pe_non (pa_cons pe_non (pa_cons (pe_callTy b_tupO (by rfl) T.n_tuple bt_tuple (pa_cons (pe_callB (cr_sortedDI rfl) (by rfl) T.n_sorted bt_sorted (pa_cons (pv 4) pa_nil)) pa_nil)) pa_nil))))))))), ?_⟩
  obtain ⟨ls, L, h, b⟩ := a
  obtain ⟨hn, hz, hh, hall⟩ := ha
  have hn : L.length = ls.length := hn
  have hz : ls.length ≤ 5 := hz
  have hh : h < ls.length := hh
  have hall : ∀ l, some l ∈ L → lotOk l := hall
  cases b with
  | false =>
    exact sx_seq (G := fun _ => False) (sx_yes (evt_notF (evt_B (evs_ixT (ds := [.bool false]) (evs_var rfl) evs_int rfl))) (sx_ret (evs_tup (ds := [cC (some ls[h]), (TSt.cha true).d, .none]) (eva_c (evs_ixD (ds := ls.map lotD) (evs_rows (B := ⟨K, none, H, []⟩) (a := .cha ls) T rfl) (evs_var rfl) (by rw [List.getElem?_map, List.getElem?_eq_getElem hh]; rfl)) (eva_c (evs_tup (ds := [.bool true]) (eva_c evs_bl eva_nil)) (eva_c evs_non eva_nil)))) ⟨_, _, _, rfl, .inr ⟨true, rfl⟩, fun _ => ⟨_, List.getElem_mem hh, rfl⟩⟩)) fun _ q => q.elim
  | true =>
    refine q_no (evt_notT (evt_B (evs_ixT (ds := [.bool true]) (evs_var rfl) evs_int rfl))) ?_
    refine q_dnew fun p h0 => ?_
    let I : Dn → Prop := fun δ => ∃ kvs x y, δ = [some (plS K (.cha ls)), some (.dat (natD h)), some (.dat (.tuple (L.map cC))), some (.dat (TSt.cha true).d), some (.obj p (.dK kvs)), x, y] ∧ (∀ s, x = some s → s.calm = true) ∧ (∀ s, y = some s → s.calm = true) ∧ keysI kvs
    refine sx_seq (G := I) (sx_forL (L := L) (F := cC) (fun _ => I) (evi_tup1 (evs_var rfl)) ⟨[], none, none, rfl, (fun _ q => by cases q), (fun _ q => by cases q), [], rfl, .nil, fun _ h => nomatch h⟩ (fun γ pre c post δ' el q => ?_) fun δ' q => q) fun δ' q => ?_
    · obtain ⟨kvs, x, y, e, hx, hy, hk⟩ := q
      subst e
      cases c with
      | none => exact sx_no (evt_test (evs_notN (s := .dat .none) (evs_var rfl))) (sx_next ⟨kvs, _, _, rfl, (fun s q => by cases q; rfl), hy, hk⟩)
      | some l =>
        have hl20 := hall l (by rw [el]; simp)
        refine sx_yes (evt_test (evs_notN (s := .dat (lotD l)) (evs_var rfl))) (sx_forL (L := l) (F := natD) (fun pr δ => (∃ kvs y, δ = [some (plS K (.cha ls)), some (.dat (natD h)), some (.dat (.tuple (L.map cC))), some (.dat (TSt.cha true).d), some (.obj p (.dK kvs)), some (.dat (cC (some l))), y] ∧ (∀ s, y = some s → s.calm = true) ∧ keysI kvs)) (evi_tup1 (evs_var rfl)) ⟨kvs, y, rfl, hy, hk⟩ (fun γ2 pr v po δ2 el2 q2 => ?_) fun δ2 q2 => ?_)
        · obtain ⟨kvs2, y2, e2, hy2, hk2⟩ := q2
          subst e2
          have hkl := hk2.len
          refine sx_dputI (n := (v : Int)) (d := .bool true) h0 rfl (evs_var rfl) evs_bl rfl (by omega) ?_ ⟨_, _, rfl, (fun s q => by cases q; rfl), ?_⟩
          · intro j s hj q p' o' z
            subst z
            match j, hj, q with
            | 0, _, q => cases q
            | 1, _, q => cases q
            | 2, _, q => cases q
            | 3, _, q => cases q
            | 4, hj, _ => exact absurd rfl hj
            | 5, _, q => cases q
            | 6, _, q => cases q
            | (j + 7), _, q => cases q
          · exact keysI_put hk2 (hl20.2 v (by rw [el2]; simp)) (.bl true)
        · obtain ⟨kvs2, y2, e2, hy2, hk2⟩ := q2
          subst e2
          exact ⟨kvs2, _, _, rfl, (fun s q => by cases q; rfl), hy2, hk2⟩
    · obtain ⟨kvs, x, y, e, hx, hy, ks, hk, nd, lt⟩ := q
      subst e
      have hk : kvs.map (·.1) = (ks.map fun n : Nat => (n : Int)).map Sum.inl := by rw [hk, List.map_map]; rfl
      have hkl := few 20 ks nd lt
      refine sx_retP (P := fun s => ∃ y, s = .dat (.tuple [.none, .none, y])) ((evs_tupP (P := fun ds => ∃ y, ds = [.none, .none, y]) ((eva_cons (P := Is .none) evs_non (eva_cons (P := Is .none) evs_non (eva_cons (P := fun s => ∃ y, s = .dat y) ((evs_tupleL (P := fun _ => True) ((evl_sortedDI rfl hk (by rw [List.length_map]; omega)).evs.imp fun s ⟨ds, e, _⟩ => ⟨ds, e, trivial⟩)).imp fun s ⟨ds, e, _⟩ => ⟨_, e⟩) eva_nil))).imp fun ss ⟨s, r, e1, e2, s2, r2, e3, e4, s3, r3, e5, ⟨z, e6⟩, e7⟩ => ⟨[.none, .none, z], by rw [e1, e2, e3, e4, e5, e6, e7]; rfl, (show 3 ≤ 1000 by decide), z, rfl⟩)).imp fun s ⟨ds, e, z, ez⟩ => ⟨z, by rw [e, ez]⟩) (fun s ⟨y, e⟩ => by rw [e]; rfl) fun s ⟨z, e⟩ => ⟨_, _, _, e, .inl rfl, fun q => by cases q⟩
end
end K32
/-! Walks: runs. -/
namespace K32
open PySem PySem.Spec PyProof.Rows L2
local macro_rules | `(tactic| walk_at "ev") => `(tactic| first
  | exact evs_var rfl | exact evs_own rfl | exact evs_int | exact evs_str | exact evs_bl | exact evs_non
  | exact eva_nil | (apply eva_c <;> walk_at "ev")
  | exact evs_isi (evs_var rfl) rfl kit_int_int | exact evs_isi (evs_var rfl) rfl kit_int_bool | exact evs_isi (evs_var rfl) rfl kit_tuple_tuple | exact evs_isi (evs_var rfl) rfl kit_str_str
  | exact evs_ixT (evs_var rfl) evs_int rfl
  | (apply evs_I0 <;> walk_at "ev") | (apply evs_B0 <;> walk_at "ev")
  | (apply evs_andV <;> walk_at "ev") | (apply evs_orV <;> walk_at "ev") | (apply evs_notV; walk_at "ev")
  | (apply evs_chain <;> walk_at "ev")
  | (apply evs_neg; walk_at "ev")
  | (apply evt_test; walk_at "ev") | (apply evt_B; walk_at "ev") | (apply evt_not; walk_at "ev")
  | (apply evt_and1 <;> walk_at "ev") | (apply evt_or1 <;> walk_at "ev")
  | (intro _; walk_at "ev"))
local macro_rules | `(tactic| walk_at "ret") => `(tactic| (apply sx_ret; walk_at "ev"))
def CellOk (i : Inp) (c : PyData) : Prop := match i with
  | .man _ _ => ∃ c3 : M3, c = cM c3
  | .lev _ => isCellL c
  | .nam _ => ∃ cn : CN, c = cN cn
  | .near _ _ => ∃ l : List Int, c = tupI l ∧ l.length ≤ 7
  | .cha _ => ∃ cc : CC, c = cC cc ∧ ∀ l, cc = some l → lotOk l
/-- a cell of a hand and its state; b: it puts next -/
def PutB (i : Inp) (h : Nat) (c s : PyData) (b : Bool) : Prop := match i with
  | .man k ss => ∃ ms sc, ss[h]? = some sc ∧ s = stM ms ∧ ms.ok ss.length sc ∧ b = pnext k (sc.getD ms.done .see) ms.ready
  | .lev vs => ∃ l now, s = stL l now ∧ (∀ ls, now = some ls → ls.length < vs.length ∧ ∀ c ∈ ls, isCellL c) ∧ b = now.isNone
  | .nam _ => ∃ x b', s = (TSt.nam x b').d ∧ b = !b' ∧ (b' = true → ∃ v, c = cN (some v))
  | .near r _ => ∃ k top b', s = (TSt.near k top b').d ∧ b = !b' ∧ k < r ∧ ∃ l, c = tupI l ∧ l.length = if b' then k + 1 else k
  | .cha _ => ∃ b', s = (TSt.cha b').d ∧ b = !b'
def HP (i : Inp) (h : Nat) (c s : PyData) : Prop := CellOk i c ∧ (s = .none ∨ ∃ b, PutB i h c s b)
theorem map_of {α : Type} {F : α → PyData} {G : α → Prop} : ∀ {cs : List PyData}, (∀ d ∈ cs, ∃ x, d = F x ∧ G x) → ∃ L : List α, cs = L.map F ∧ ∀ x ∈ L, G x
  | [], _ => ⟨[], rfl, fun x hx => (nomatch hx)⟩
  | d :: cs, h => by
    obtain ⟨x, e, g⟩ := h d List.mem_cons_self
    obtain ⟨L, e2, g2⟩ := map_of fun y hy => h y (List.mem_cons_of_mem _ hy)
    refine ⟨x :: L, by rw [e, e2]; rfl, fun y hy => ?_⟩
    rcases List.mem_cons.mp hy with rfl | hy
    · exact g
    · exact g2 y hy
theorem mh_ok {k : Mn} {ss : List (List Deed)} {h : Nat} {sc : List Deed} (ok : (Inp.man k ss).ok) (e : ss[h]? = some sc) : (MH.mk k ss h sc).ok := by
  obtain ⟨⟨h1, h2⟩, h3⟩ := ok
  have l : (Inp.man k ss).rows.length = ss.length := List.length_map _
  exact ⟨e, by rw [l] at h1; exact h1, by rw [l] at h2; exact h2, (h3 sc (List.mem_of_getElem? e)).1⟩
section
variable {P : Program} {w : World} {K : PySem.W.Frag} {mg : Str → Option Value} {base : Heap}
abbrev N_is_hand : List Str := ["play", "thing"]
theorem sc_is_hand : FnScope N_is_hand ["play", "thing"] (defScope (top 41)) := ⟨rfl, rfl, rfl, by decide +kernel, rfl, by decide +kernel, by decide +kernel⟩
theorem c_is_hand (T : TX K mg) : C8.Cal P w K mg base 4 "is_hand" (spS K (fun x : Inp × Nat => [plS K x.1, .dat (natD x.2)]) (fun x => x.1.ok ∧ x.2 < x.1.rows.length) (fun _ => Is (.bool true))) [] := by
  refine cal_of T.d_is_hand (fun F => F.bindsN (ps := ["play", "thing"]) fun _ _ _ _ _ _ us hl => match us, hl with | [_, _], _ => rfl) fun F => fnS F sc_is_hand (fun _ => rfl) (by intro a s hs ds z; subst z; simp at hs) fun cdv A outer s H E a hr ha => ?_
  refine ⟨_, (pss_one (ps_ret (C8.pe_c (c_is_below T) hr (by decide) rfl (pa_cons (pv 1) (pa_cons (pe_callB b_len (by rfl) T.n_len bt_len (pa_cons (pe_fld (pv 0) rfl) pa_nil)) pa_nil))))), ?_⟩
  obtain ⟨i, h⟩ := a
  obtain ⟨ok, hh⟩ := ha
  have ok : i.ok := ok
  have hh : h < i.rows.length := hh
  have := ok.1.2
  exact sx_ret (evs_call1 (α := Int × Int) ((h : Int), (i.rows.length : Int)) (eva_c (evs_var rfl) (eva_c (evs_len (s := .dat (.tuple i.rows)) (evs_rows (B := ⟨K, none, H, []⟩) T rfl) rfl (by omega)) eva_nil)) ⟨Int.natCast_nonneg _, by show (h : Int) < (i.rows.length : Int); omega⟩) rfl
abbrev N_check_hand : List Str := ["play", "thing"]
theorem sc_check_hand : FnScope N_check_hand ["play", "thing"] (defScope (top 42)) := ⟨rfl, rfl, rfl, by decide +kernel, rfl, by decide +kernel, by decide +kernel⟩
theorem c_check_hand (T : TX K mg) : C8.Cal P w K mg base 5 "check_hand" (spS K (fun x : Inp × Nat => [plS K x.1, .dat (natD x.2)]) (fun x => x.1.ok ∧ x.2 < x.1.rows.length) (fun _ => Is .none)) [] := by
  refine cal_of T.d_check_hand (fun F => F.bindsN (ps := ["play", "thing"]) fun _ _ _ _ _ _ us hl => match us, hl with | [_, _], _ => rfl) fun F => fnS F sc_check_hand (fun _ => rfl) (by intro a s hs ds z; subst z; simp at hs) fun cdv A outer s H E a hr ha => ?_
  refine ⟨_, (pss_one (ps_if (pt_not (pt_val (C8.pe_c (c_is_hand T) hr (by decide) rfl (pa_cons (pv 0) (pa_cons (pv 1) pa_nil))))) (pss_one ps_never) pss_nil)), ?_⟩
  exact sx_no (evt_notT (evt_B (evs_call1 (α := Inp × Nat) a (eva_c (evs_var rfl) (eva_c (evs_var rfl) eva_nil)) ha))) (sx_next rfl)
theorem t_man {B : Bx} {δ : Dn} {a : Inp} (T : TX B.K mg) (h : δ[0]? = some (some (plS B.K a))) : EvT B (tTest (tOp (rIn B.K false) (tFld B.K (tVar 0) "kind") (tC (.ref (He.ga B.K "MANNERS"))))) δ (· = a.isMan) := evt_test (evs_isMan T (evs_kind T h))
theorem t_lev {B : Bx} {δ : Dn} {a : Inp} (T : TX B.K mg) (h : δ[0]? = some (some (plS B.K a))) : EvT B (tTest (tOp rEq (tFld B.K (tVar 0) "kind") (tC (.str "levels")))) δ (· = a.isLev) := evt_test (evs_isK (x := a.kind) (evs_kind T h) (kind_dec a).2.2.2)
abbrev N_cell_of : List Str := ["play", "hand"]
theorem sc_cell_of : FnScope N_cell_of ["play", "hand"] (defScope (top 118)) := ⟨rfl, rfl, rfl, by decide +kernel, rfl, by decide +kernel, by decide +kernel⟩
theorem c_cell_of (T : TX K mg) : C8.Cal P w K mg base 2 "cell_of" (spS K (fun x : Inp × Nat => [plS K x.1, .dat (natD x.2)]) (fun _ => True) (fun x s => ∃ d, s = .dat d ∧ CellOk x.1 d ∧ ∀ r vs, x.1 = .near r vs → d = tupI [])) [] := by
  refine cal_of T.d_cell_of (fun F => F.bindsN (ps := ["play", "hand"]) fun _ _ _ _ _ _ us hl => match us, hl with | [_, _], _ => rfl) fun F => fnS F sc_cell_of (fun _ => rfl) (by intro a s hs ds z; subst z; simp at hs) fun cdv A outer s H E a hr ha => ?_
  refine ⟨_, (pss_cons (ps_if (pt_cmpR op_in_seq (pe_fld (pv 0) rfl) (C8.pe_gc rfl T.c_MANNERS) (by rfl)) (pss_one (ps_ret (C8.pe_c (c_manner_cell T) hr (by decide) rfl (pa_cons (pv 0) (pa_cons (pv 1) pa_nil))))) pss_nil) (pss_one (ps_ret (pe_ifExp (pt_cmpR op_eq (pe_fld (pv 0) rfl) (C8.pe_gc rfl T.c_LEVELS) (nomark _)) (C8.pe_c (c_level_cell T) hr (by decide) rfl (pa_cons (pv 0) (pa_cons (pv 1) pa_nil))) (C8.pe_c (c_top_cell T) hr (by decide) rfl (pa_cons (pv 0) (pa_cons (pv 1) pa_nil))))))), ?_⟩
  obtain ⟨i, h⟩ := a
  have tm := t_man (B := ⟨K, none, H, []⟩) (δ := slots N_cell_of [plS K i, .dat (natD h)]) (a := i) T rfl
  have tl := t_lev (B := ⟨K, none, H, []⟩) (δ := slots N_cell_of [plS K i, .dat (natD h)]) (a := i) T rfl
  have top : i.isMan = false → i.isLev = false → CellOk i (cell0 i) ∧ ∀ r vs, i = .near r vs → cell0 i = tupI [] := fun h1 h2 => by
    cases i with
    | man k ss => cases h1
    | lev vs => cases h2
    | nam vs => exact ⟨⟨none, rfl⟩, fun _ _ e => by cases e⟩
    | near r vs => exact ⟨⟨[], rfl, by decide⟩, fun _ _ _ => rfl⟩
    | cha ls => exact ⟨⟨none, rfl, fun l e => by cases e⟩, fun _ _ e => by cases e⟩
  cases hm : i.isMan with
  | true =>
    obtain ⟨k, ss, rfl⟩ : ∃ k ss, i = .man k ss := by cases i <;> first | exact ⟨_, _, rfl⟩ | cases hm
    exact sx_seq (G := fun _ => False) (sx_yes (by rw [hm] at tm; exact tm) (sx_ret (evs_call1 (α := Inp × Nat) (.man k ss, h) (eva_c (evs_var rfl) (eva_c (evs_var rfl) eva_nil)) trivial) ⟨_, rfl, ⟨_, rfl⟩, fun _ _ e => by cases e⟩)) fun _ q => q.elim
  | false =>
    refine q_no (by rw [hm] at tm; exact tm) ?_
    cases hl : i.isLev with
    | true =>
      obtain ⟨vs, rfl⟩ : ∃ vs, i = .lev vs := by cases i <;> first | exact ⟨_, rfl⟩ | cases hl
      exact sx_ret (evs_ifT (by rw [hl] at tl; exact tl) (evs_call1 (α := Inp × Nat) (.lev vs, h) (eva_c (evs_var rfl) (eva_c (evs_var rfl) eva_nil)) trivial)) ⟨_, rfl, .inl rfl, fun _ _ e => by cases e⟩
    | false => exact sx_ret (evs_ifF (by rw [hl] at tl; exact tl) (evs_call1 (α := Inp × Nat) (i, h) (eva_c (evs_var rfl) (eva_c (evs_var rfl) eva_nil)) trivial)) ⟨_, rfl, top hm hl⟩
end
end K32
/-! Walks: runs, a step of a top kind. -/
namespace K32
open PySem PySem.Spec PyProof.Rows L2
local macro_rules | `(tactic| walk_at "ev") => `(tactic| first
  | exact evs_var rfl | exact evs_own rfl | exact evs_int | exact evs_str | exact evs_bl | exact evs_non
  | exact eva_nil | (apply eva_c <;> walk_at "ev")
  | exact evs_isi (evs_var rfl) rfl kit_int_int | exact evs_isi (evs_var rfl) rfl kit_int_bool | exact evs_isi (evs_var rfl) rfl kit_tuple_tuple | exact evs_isi (evs_var rfl) rfl kit_str_str
  | exact evs_ixT (evs_var rfl) evs_int rfl
  | (apply evs_I0 <;> walk_at "ev") | (apply evs_B0 <;> walk_at "ev")
  | (apply evs_andV <;> walk_at "ev") | (apply evs_orV <;> walk_at "ev") | (apply evs_notV; walk_at "ev")
  | (apply evs_chain <;> walk_at "ev")
  | (apply evs_neg; walk_at "ev")
  | (apply evt_test; walk_at "ev") | (apply evt_B; walk_at "ev") | (apply evt_not; walk_at "ev")
  | (apply evt_and1 <;> walk_at "ev") | (apply evt_or1 <;> walk_at "ev")
  | (intro _; walk_at "ev"))
local macro_rules | `(tactic| walk_at "ret") => `(tactic| (apply sx_ret; walk_at "ev"))
structure StA where
  i : Inp
  h : Nat
  cs : List PyData
  s : PyData
  b : Bool
structure StA.ok (a : StA) : Prop where
  i : a.i.ok
  hh : a.h < a.i.rows.length
  n : a.cs.length = a.i.rows.length
  all : ∀ d ∈ a.cs, CellOk a.i d
  c : ∃ c, a.cs[a.h]? = some c ∧ PutB a.i a.h c a.s a.b
def stepP (a : StA) : Sv → Prop := trip fun c' t => ∀ c, a.cs[a.h]? = some c → HP a.i a.h (if a.b then c' else c) t
theorem cN_some {cn : CN} {v : Nat × Int} (h : cN cn = cN (some v)) : cn = some v := by
  cases cn with
  | none => cases h
  | some u =>
    obtain ⟨a, x⟩ := u
    obtain ⟨b, y⟩ := v
    injection h with h
    injection h with h1 h2
    injection h2 with h2 _
    injection h1 with h1
    injection h2 with h2
    rw [h2, show a = b by omega]
theorem tupI_inj {l m : List Int} (h : tupI l = tupI m) : l = m := by
  injection h with h
  have : ∀ {l m : List Int}, l.map PyData.int = m.map PyData.int → l = m := fun {l} => by
    induction l with
    | nil => intro m h; cases m with | nil => rfl | cons x m => cases h
    | cons x l ih =>
      intro m h
      cases m with
      | nil => cases h
      | cons y m =>
        rw [List.map_cons, List.map_cons] at h
        injection h with h1 h2
        injection h1 with h1
        rw [h1, ih h2]
  exact this h
section
variable {P : Program} {w : World} {K : PySem.W.Frag} {mg : Str → Option Value} {base : Heap}
abbrev N_top_after : List Str := ["play", "hand", "cells", "state"]
theorem sc_top_after : FnScope N_top_after ["play", "hand", "cells", "state"] (defScope (top 116)) := ⟨rfl, rfl, rfl, by decide +kernel, rfl, by decide +kernel, by decide +kernel⟩
theorem c_top_after (T : TX K mg) : C8.Cal P w K mg base 3 "top_after" (spS K (fun a : StA => [plS K a.i, .dat (natD a.h), .dat (.tuple a.cs), .dat a.s]) (fun a => a.ok ∧ a.i.isMan = false ∧ a.i.isLev = false) stepP) [] := by
  refine cal_of T.d_top_after (fun F => F.bindsN (ps := ["play", "hand", "cells", "state"]) fun _ _ _ _ _ _ us hl => match us, hl with | [_, _, _, _], _ => rfl) fun F => fnS F sc_top_after (fun _ => rfl) (by intro a s hs ds z; subst z; simp at hs) fun cdv A outer s H E a hr ha => ?_
  refine ⟨_, (pss_cons (ps_if (pt_cmpR op_eq (pe_fld (pv 0) rfl) (C8.pe_gc rfl T.c_NAMES) (nomark _)) (pss_one (ps_ret (C8.pe_c (c_after_names T) hr (by decide) rfl (pa_cons (pv 0) (pa_cons (pv 1) (pa_cons (pv 2) (pa_cons (pv 3) pa_nil))))))) pss_nil) (pss_one (ps_ret (pe_ifExp (pt_cmpR op_eq (pe_fld (pv 0) rfl) (C8.pe_gc rfl T.c_CHAIN) (nomark _)) (C8.pe_c (c_after_chain T) hr (by decide) rfl (pa_cons (pv 0) (pa_cons (pv 1) (pa_cons (pv 2) (pa_cons (pv 3) pa_nil))))) (C8.pe_c (c_after_near T) hr (by decide) rfl (pa_cons (pv 0) (pa_cons (pv 1) (pa_cons (pv 2) (pa_cons (pv 3) pa_nil))))))))), ?_⟩
  obtain ⟨i, h, cs, s, b⟩ := a
  obtain ⟨⟨ok0, hh0, hn0, hall0, c, hc0, hp0⟩, n1, n2⟩ := ha
  have ok : i.ok := ok0
  have hh : h < i.rows.length := hh0
  have hn : cs.length = i.rows.length := hn0
  have hc : cs[h]? = some c := hc0
  have hp : PutB i h c s b := hp0
  have hall : ∀ d ∈ cs, CellOk i d := hall0
  have oc : CellOk i c := hall c (List.mem_of_getElem? hc)
  have five := ok.1.2
  have kd := kind_dec i
  have hk := fun δ (e : δ[0]? = some (some (plS K i))) => evs_kind (B := ⟨K, none, H, []⟩) (δ := δ) (a := i) T e
  have isL : ∀ {Pt : PyData → PyData → Prop} (s : Sv), trip Pt s → s.isL = false := fun s ⟨_, _, _, e, _⟩ => by rw [e]; rfl
  cases i with
  | man k ss => cases n1
  | lev vs => cases n2
  | nam vs =>
    have lr : (Inp.nam vs).rows.length = vs.length := List.length_map _
    obtain ⟨L, eL, _⟩ := map_of (F := cN) (G := fun _ => True) fun d hd => let ⟨cn, e⟩ := hall d hd; ⟨cn, e, trivial⟩
    subst eL
    rw [List.length_map, lr] at hn
    rw [lr] at hh five
    obtain ⟨x, b', es, eb, hv⟩ := hp
    subst es eb
    have q : NmA.ok ⟨vs, L, h, x, b'⟩ := ⟨hn, five, hh, fun e => by
      obtain ⟨v, ec⟩ := hv e
      rw [List.getElem?_map] at hc
      obtain ⟨cn, e1, e2⟩ := Option.map_eq_some_iff.mp hc
      exact ⟨v, by show L[h]? = some (some v); rw [e1, cN_some (e2.trans ec)]⟩⟩
    refine sx_seq (G := fun _ => False) (sx_yes (evt_test (evs_isK (x := "names") (hk _ rfl) kd.2.2.1)) (sx_retP (evs_call1 (α := NmA) ⟨vs, L, h, x, b'⟩ (eva_c (evs_var rfl) (eva_c (evs_var rfl) (eva_c (evs_var rfl) (eva_c (evs_var rfl) eva_nil)))) q) isL fun s ⟨c', t, it, e, h1, h2⟩ => ⟨c', t, it, e, fun c2 hc2 => ?_⟩)) fun _ q => q.elim
    have hc2 : (L.map cN)[h]? = some c2 := hc2
    rw [hc] at hc2; cases hc2
    cases b' with
    | false =>
      obtain ⟨v, ev⟩ := h2 rfl
      subst ev
      refine ⟨⟨some v, rfl⟩, h1.imp id fun ⟨x2, b2, et, _⟩ => ⟨_, x2, b2, et, rfl, fun _ => ⟨v, rfl⟩⟩⟩
    | true => exact ⟨oc, h1.imp id fun ⟨x2, b2, et, hb⟩ => ⟨_, x2, b2, et, rfl, fun e => by have := hb e; cases this⟩⟩
  | near r vs =>
    have lr : (Inp.near r vs).rows.length = vs.length := List.length_map _
    obtain ⟨L, eL, h7⟩ := map_of (F := tupI) (G := fun l => l.length ≤ 7) fun d hd => hall d hd
    subst eL
    rw [List.length_map, lr] at hn
    rw [lr] at hh five
    obtain ⟨k, top, b', es, eb, hkr, l, ec, hl⟩ := hp
    subst es eb ec
    have r6 : r ≤ 6 := ok.2.1.2
    have q : NrA.ok ⟨r, vs, L, h, k, top, b'⟩ := ⟨hn, five, hh, by
      rw [List.getElem?_map] at hc
      obtain ⟨l2, e1, e2⟩ := Option.map_eq_some_iff.mp hc
      exact ⟨l, by show L[h]? = some l; rw [e1, tupI_inj e2], hl⟩, hkr, r6, h7⟩
    refine q_no (evt_test (evs_isK (x := "near") (hk _ rfl) kd.2.2.1)) (sx_retP (evs_ifF (evt_test (evs_isK (x := "near") (hk _ rfl) kd.2.1)) (evs_call1 (α := NrA) ⟨r, vs, L, h, k, top, b'⟩ (eva_c (evs_var rfl) (eva_c (evs_var rfl) (eva_c (evs_var rfl) (eva_c (evs_var rfl) eva_nil)))) q)) isL fun s ⟨c', t, it, e, h1, h2⟩ => ⟨c', t, it, e, fun c2 hc2 => ?_⟩)
    have hc2 : (L.map tupI)[h]? = some c2 := hc2
    rw [hc] at hc2; cases hc2
    cases b' with
    | false =>
      obtain ⟨l2, ev, e2⟩ := h2 rfl
      subst ev
      have e2 : l2.length = k + 1 := e2
      refine ⟨⟨l2, rfl, by omega⟩, h1.imp id fun ⟨k2, t2, b2, et, hk2, alt⟩ => ⟨_, k2, t2, b2, et, rfl, hk2, l2, rfl, ?_⟩⟩
      rcases alt with ⟨a1, _, a3⟩ | ⟨_, a2, _⟩
      · have a3 : k2 = k := a3
        rw [a1, a3]; exact e2
      · cases a2
    | true =>
      refine ⟨oc, h1.imp id fun ⟨k2, t2, b2, et, hk2, alt⟩ => ⟨_, k2, t2, b2, et, rfl, hk2, l, rfl, ?_⟩⟩
      rcases alt with ⟨_, a2, _⟩ | ⟨a1, _, a3⟩
      · cases a2
      · have a3 : k2 = k + 1 := a3
        rw [a1, a3]; exact hl
  | cha ls =>
    have lr : (Inp.cha ls).rows.length = ls.length := List.length_map _
    obtain ⟨L, eL, h20⟩ := map_of (F := cC) (G := fun cc => ∀ l, cc = some l → lotOk l) fun d hd => hall d hd
    subst eL
    rw [List.length_map, lr] at hn
    rw [lr] at hh five
    obtain ⟨b', es, eb⟩ := hp
    subst es eb
    have q : ChA.ok ⟨ls, L, h, b'⟩ := ⟨hn, five, hh, fun l hl => h20 _ hl l rfl⟩
    refine q_no (evt_test (evs_isK (x := "chain") (hk _ rfl) kd.2.2.1)) (sx_retP (evs_ifT (evt_test (evs_isK (x := "chain") (hk _ rfl) kd.2.1)) (evs_call1 (α := ChA) ⟨ls, L, h, b'⟩ (eva_c (evs_var rfl) (eva_c (evs_var rfl) (eva_c (evs_var rfl) (eva_c (evs_var rfl) eva_nil)))) q)) isL fun s ⟨c', t, it, e, h1, h2⟩ => ⟨c', t, it, e, fun c2 hc2 => ?_⟩)
    have hc2 : (L.map cC)[h]? = some c2 := hc2
    rw [hc] at hc2; cases hc2
    cases b' with
    | false =>
      obtain ⟨l, ml, ev⟩ := h2 rfl
      subst ev
      exact ⟨⟨some l, rfl, fun l2 e => by cases e; exact ok.2 l ml⟩, h1.imp id fun ⟨b2, et⟩ => ⟨_, b2, et, rfl⟩⟩
    | true => exact ⟨oc, h1.imp id fun ⟨b2, et⟩ => ⟨_, b2, et, rfl⟩⟩
end
end K32
/-! Walks: runs, a step. -/
namespace K32
open PySem PySem.Spec PyProof.Rows L2
local macro_rules | `(tactic| walk_at "ev") => `(tactic| first
  | exact evs_var rfl | exact evs_own rfl | exact evs_int | exact evs_str | exact evs_bl | exact evs_non
  | exact eva_nil | (apply eva_c <;> walk_at "ev")
  | exact evs_isi (evs_var rfl) rfl kit_int_int | exact evs_isi (evs_var rfl) rfl kit_int_bool | exact evs_isi (evs_var rfl) rfl kit_tuple_tuple | exact evs_isi (evs_var rfl) rfl kit_str_str
  | exact evs_ixT (evs_var rfl) evs_int rfl
  | (apply evs_I0 <;> walk_at "ev") | (apply evs_B0 <;> walk_at "ev")
  | (apply evs_andV <;> walk_at "ev") | (apply evs_orV <;> walk_at "ev") | (apply evs_notV; walk_at "ev")
  | (apply evs_chain <;> walk_at "ev")
  | (apply evs_neg; walk_at "ev")
  | (apply evt_test; walk_at "ev") | (apply evt_B; walk_at "ev") | (apply evt_not; walk_at "ev")
  | (apply evt_and1 <;> walk_at "ev") | (apply evt_or1 <;> walk_at "ev")
  | (intro _; walk_at "ev"))
local macro_rules | `(tactic| walk_at "ret") => `(tactic| (apply sx_ret; walk_at "ev"))
def putD1 : PyData := .tuple [.str "put"]
theorem lay_put1 : Lay 1 putD1 := .tup (.cons (.str ok_put) fun _ => .nil)
theorem eqv_put : PyData.eqv putD1 putD1 = true := lay_put1.self
theorem eqv_look (n : Nat) : PyData.eqv (.tuple [.str "look", natD n]) putD1 = false := by simp [putD1, PyData.eqv, PyData.eqvAll]
theorem eqv_see : PyData.eqv (.tuple [.str "see"]) putD1 = false := by
  have : ¬ (("see" : Str) = ("put" : Str)) := by decide +kernel
  simp [putD1, PyData.eqv, PyData.eqvAll, this]
theorem lay_look (n : Nat) : Lay 1 (.tuple [.str "look", natD n]) := .tup (.cons (.str ok_look) (.cons .int fun _ => .nil))
theorem lay_see1 : Lay 1 (.tuple [.str "see"]) := .tup (.cons (.str ok_see) fun _ => .nil)
structure NxA where
  i : Inp
  h : Nat
  c : PyData
  s : PyData
  b : Bool
def nextP (b : Bool) : Sv → Prop := fun s => ∃ d, s = .dat d ∧ Lay 1 d ∧ PyData.eqv d putD1 = b
section
variable {P : Program} {w : World} {K : PySem.W.Frag} {mg : Str → Option Value} {base : Heap}
abbrev N_next_of : List Str := ["play", "hand", "state"]
theorem sc_next_of : FnScope N_next_of ["play", "hand", "state"] (defScope (top 120)) := ⟨rfl, rfl, rfl, by decide +kernel, rfl, by decide +kernel, by decide +kernel⟩
theorem c_next_of (T : TX K mg) : C8.Cal P w K mg base 3 "next_of" (spS K (fun a : NxA => [plS K a.i, .dat (natD a.h), .dat a.s]) (fun a => a.i.ok ∧ PutB a.i a.h a.c a.s a.b) (fun a => nextP a.b)) [] := by
  refine cal_of T.d_next_of (fun F => F.bindsN (ps := ["play", "hand", "state"]) fun _ _ _ _ _ _ us hl => match us, hl with | [_, _, _], _ => rfl) fun F => fnS F sc_next_of (fun _ => rfl) (by intro a s hs ds z; subst z; simp at hs) fun cdv A outer s H E a hr ha => ?_
  refine ⟨_, (pss_cons (ps_if (pt_cmpR op_in_seq (pe_fld (pv 0) rfl) (C8.pe_gc rfl T.c_MANNERS) (by rfl)) (pss_one (ps_ret (C8.pe_c (c_manner_next T) hr (by decide) rfl (pa_cons (pv 0) (pa_cons (pv 1) (pa_cons (pv 2) pa_nil)))))) pss_nil) (pss_one (ps_ret (pe_ifExp (pt_cmpR op_eq (pe_fld (pv 0) rfl) (C8.pe_gc rfl T.c_LEVELS) (nomark _)) (C8.pe_c (c_level_next T) hr (by decide) rfl (pa_cons (pv 0) (pa_cons (pv 1) (pa_cons (pv 2) pa_nil)))) (C8.pe_c (c_top_next T) hr (by decide) rfl (pa_cons (pv 0) (pa_cons (pv 1) (pa_cons (pv 2) pa_nil)))))))), ?_⟩
  obtain ⟨i, h, c, s, b⟩ := a
  obtain ⟨ok0, hp0⟩ := ha
  have ok : i.ok := ok0
  have hp : PutB i h c s b := hp0
  have tm := t_man (B := ⟨K, none, H, []⟩) (δ := slots N_next_of [plS K i, .dat (natD h), .dat s]) (a := i) T rfl
  have tl := t_lev (B := ⟨K, none, H, []⟩) (δ := slots N_next_of [plS K i, .dat (natD h), .dat s]) (a := i) T rfl
  have isL : ∀ (s : Sv), nextP b s → s.isL = false := fun s ⟨_, e, _⟩ => by rw [e]; rfl
  have top : ∀ t : TSt, t.b = !b → nextP b (.dat (.tuple [.str (if t.b then "see" else "put")])) := fun t e => by
    cases b with
    | true => rw [e]; exact ⟨_, rfl, lay_put1, eqv_put⟩
    | false => rw [e]; exact ⟨_, rfl, lay_see1, eqv_see⟩
  cases i with
  | man k ss =>
    obtain ⟨ms, sc, e1, e2, hs, eb⟩ := hp
    subst e2 eb
    refine sx_seq (G := fun _ => False) (sx_yes tm (sx_retP (evs_call1 (α := MH × MS) (⟨k, ss, h, sc⟩, ms) (eva_c (evs_var rfl) (eva_c (evs_var rfl) (eva_c (evs_var rfl) eva_nil))) ⟨mh_ok ok e1, hs⟩) (fun s e => by rw [e]; rfl) fun s e => ?_)) fun _ q => q.elim
    have e : s = .dat (if pnext k (sc.getD ms.done .see) ms.ready then .tuple [.str "put"] else .tuple [.str "look", natD ms.now.length]) := e
    rw [e]
    show nextP (pnext k (sc.getD ms.done .see) ms.ready) _
    cases pnext k (sc.getD ms.done .see) ms.ready with
    | true => exact ⟨_, rfl, lay_put1, eqv_put⟩
    | false => exact ⟨_, rfl, lay_look _, eqv_look _⟩
  | lev vs =>
    obtain ⟨l, now, e2, hnow, eb⟩ := hp
    subst e2 eb
    have five : (Inp.lev vs).rows.length ≤ 5 := ok.1.2
    have lr : (Inp.lev vs).rows.length = vs.length := List.length_map _
    refine q_no tm (sx_retP (evs_ifT tl (evs_call1 (α := Inp × Nat × Int × Option (List PyData)) (.lev vs, h, l, now) (eva_c (evs_var rfl) (eva_c (evs_var rfl) (eva_c (evs_var rfl) eva_nil))) fun ls e => by have := (hnow ls e).1; omega)) (fun s e => by rw [e]; rfl) fun s e => ?_)
    cases now with
    | none => exact ⟨_, e, lay_put1, eqv_put⟩
    | some ls => exact ⟨_, e, lay_look _, eqv_look _⟩
  | nam vs =>
    obtain ⟨x, b', es, eb, _⟩ := hp
    subst es
    exact q_no tm (sx_retP (evs_ifF tl (evs_call1 (α := Inp × Nat × TSt) (.nam vs, h, .nam x b') (eva_c (evs_var rfl) (eva_c (evs_var rfl) (eva_c (evs_var rfl) eva_nil))) trivial)) (fun s e => by rw [e]; rfl) fun s e => by rw [show s = _ from e]; exact top (.nam x b') (by show b' = !b; rw [eb, Bool.not_not]))
  | near r vs =>
    obtain ⟨k, t, b', es, eb, _⟩ := hp
    subst es
    exact q_no tm (sx_retP (evs_ifF tl (evs_call1 (α := Inp × Nat × TSt) (.near r vs, h, .near k t b') (eva_c (evs_var rfl) (eva_c (evs_var rfl) (eva_c (evs_var rfl) eva_nil))) trivial)) (fun s e => by rw [e]; rfl) fun s e => by rw [show s = _ from e]; exact top (.near k t b') (by show b' = !b; rw [eb, Bool.not_not]))
  | cha ls =>
    obtain ⟨b', es, eb⟩ := hp
    subst es
    exact q_no tm (sx_retP (evs_ifF tl (evs_call1 (α := Inp × Nat × TSt) (.cha ls, h, .cha b') (eva_c (evs_var rfl) (eva_c (evs_var rfl) (eva_c (evs_var rfl) eva_nil))) trivial)) (fun s e => by rw [e]; rfl) fun s e => by rw [show s = _ from e]; exact top (.cha b') (by show b' = !b; rw [eb, Bool.not_not]))
abbrev N_after_of : List Str := ["play", "hand", "cells", "state"]
theorem sc_after_of : FnScope N_after_of ["play", "hand", "cells", "state"] (defScope (top 121)) := ⟨rfl, rfl, rfl, by decide +kernel, rfl, by decide +kernel, by decide +kernel⟩
theorem c_after_of (T : TX K mg) : C8.Cal P w K mg base 5 "after_of" (spS K (fun a : StA => [plS K a.i, .dat (natD a.h), .dat (.tuple a.cs), .dat a.s]) StA.ok stepP) [] := by
  refine cal_of T.d_after_of (fun F => F.bindsN (ps := ["play", "hand", "cells", "state"]) fun _ _ _ _ _ _ us hl => match us, hl with | [_, _, _, _], _ => rfl) fun F => fnS F sc_after_of (fun _ => rfl) (by intro a s hs ds z; subst z; simp at hs) fun cdv A outer s H E a hr ha => ?_
  refine ⟨_, (pss_cons (ps_if (pt_cmpR op_in_seq (pe_fld (pv 0) rfl) (C8.pe_gc rfl T.c_MANNERS) (by rfl)) (pss_one (ps_ret (C8.pe_c (c_manner_after T) hr (by decide) rfl (pa_cons (pv 0) (pa_cons (pv 1) (pa_cons (pv 2) (pa_cons (pv 3) pa_nil))))))) pss_nil) (pss_one (ps_ret (pe_ifExp (pt_cmpR op_eq (pe_fld (pv 0) rfl) (C8.pe_gc rfl T.c_LEVELS) (nomark _)) (C8.pe_c (c_level_after T) hr (by decide) rfl (pa_cons (pv 0) (pa_cons (pv 1) (pa_cons (pv 2) (pa_cons (pv 3) pa_nil))))) (C8.pe_c (c_top_after T) hr (by decide) rfl (pa_cons (pv 0) (pa_cons (pv 1) (pa_cons (pv 2) (pa_cons (pv 3) pa_nil))))))))), ?_⟩
  have aok := ha
  obtain ⟨i, h, cs, s, b⟩ := a
  obtain ⟨ok0, hh0, hn0, hall0, c, hc0, hp0⟩ := ha
  have ok : i.ok := ok0
  have hh : h < i.rows.length := hh0
  have hn : cs.length = i.rows.length := hn0
  have hc : cs[h]? = some c := hc0
  have hp : PutB i h c s b := hp0
  have hall : ∀ d ∈ cs, CellOk i d := hall0
  have oc : CellOk i c := hall c (List.mem_of_getElem? hc)
  have five := ok.1.2
  have tm := t_man (B := ⟨K, none, H, []⟩) (δ := slots N_after_of [plS K i, .dat (natD h), .dat (.tuple cs), .dat s]) (a := i) T rfl
  have tl := t_lev (B := ⟨K, none, H, []⟩) (δ := slots N_after_of [plS K i, .dat (natD h), .dat (.tuple cs), .dat s]) (a := i) T rfl
  have isL : ∀ {Pt : PyData → PyData → Prop} (s : Sv), trip Pt s → s.isL = false := fun s ⟨_, _, _, e, _⟩ => by rw [e]; rfl
  have four : EvA ⟨K, none, H, []⟩ (tCons (tVar 0) (tCons (tVar 1) (tCons (tVar 2) (tCons (tVar 3) tNil)))) (slots N_after_of [plS K i, .dat (natD h), .dat (.tuple cs), .dat s]) (· = [plS K i, .dat (natD h), .dat (.tuple cs), .dat s]) := eva_c (evs_var rfl) (eva_c (evs_var rfl) (eva_c (evs_var rfl) (eva_c (evs_var rfl) eva_nil)))
  cases hm : i.isMan with
  | true =>
    rw [hm] at tm
    obtain ⟨k, ss, rfl⟩ : ∃ k ss, i = .man k ss := by cases i <;> first | exact ⟨_, _, rfl⟩ | cases hm
    obtain ⟨ms, sc, e1, e2, hs, eb⟩ := hp
    have lr : (Inp.man k ss).rows.length = ss.length := List.length_map _
    obtain ⟨L, eL, _⟩ := map_of (F := cM) (G := fun _ => True) fun d hd => let ⟨c3, e⟩ := hall d hd; ⟨c3, e, trivial⟩
    have hnL : L.length = ss.length := by rw [← lr, ← hn, eL, List.length_map]
    have eb : b = pnext k (sc.getD ms.done .see) ms.ready := eb
    refine sx_seq (G := fun _ => False) (sx_yes tm (sx_retP (evs_call1 (α := MH × MS × List M3) (⟨k, ss, h, sc⟩, ms, L) (by subst eL e2; exact four) ⟨mh_ok ok e1, hs, hnL⟩) isL fun s ⟨c', t, it, e, h1, h2⟩ => ⟨c', t, it, e, fun c2 hc2 => ?_⟩)) fun _ q => q.elim
    have hc2 : cs[h]? = some c2 := hc2
    rw [hc] at hc2; cases hc2
    have st : t = .none ∨ ∃ b2, ∀ cx, PutB (.man k ss) h cx t b2 := h1.imp id fun ⟨s2, et, o2⟩ => ⟨_, fun cx => ⟨s2, sc, e1, et, o2, rfl⟩⟩
    have h2 : pnext k (sc.getD ms.done .see) ms.ready = true → ∃ c3 : M3, c' = cM c3 := h2
    show HP (.man k ss) h (if b then c' else c) t
    cases b with
    | true => exact ⟨h2 eb.symm, st.imp id fun ⟨b2, f⟩ => ⟨b2, f _⟩⟩
    | false => exact ⟨oc, st.imp id fun ⟨b2, f⟩ => ⟨b2, f _⟩⟩
  | false =>
    rw [hm] at tm
    refine q_no tm ?_
    cases hl : i.isLev with
    | true =>
      rw [hl] at tl
      obtain ⟨vs, rfl⟩ : ∃ vs, i = .lev vs := by cases i <;> first | exact ⟨_, rfl⟩ | cases hl
      obtain ⟨l, now, e2, hnow, eb⟩ := hp
      have lr : (Inp.lev vs).rows.length = vs.length := List.length_map _
      have eb : b = now.isNone := eb
      refine sx_retP (evs_ifT tl (evs_call1 (α := Inp × Nat × List PyData × Int × Option (List PyData)) (.lev vs, h, cs, l, now) (by subst e2; exact four) ⟨five, hh, hn, hall, fun ls e => by rw [lr]; exact hnow ls e⟩)) isL fun s ⟨c', t, it, e, h1, h2⟩ => ⟨c', t, it, e, fun c2 hc2 => ?_⟩
      have hc2 : cs[h]? = some c2 := hc2
      rw [hc] at hc2; cases hc2
      have h1 : isStL vs.length t := by have q : isStL (Inp.lev vs).rows.length t := h1; rwa [lr] at q
      have st : t = .none ∨ ∃ b2, ∀ cx, PutB (.lev vs) h cx t b2 := h1.imp id fun ⟨l2, now2, et, o2⟩ => ⟨_, fun cx => ⟨l2, now2, et, o2, rfl⟩⟩
      show HP (.lev vs) h (if b then c' else c) t
      cases b with
      | true => exact ⟨h2 (by cases now with | none => rfl | some _ => cases eb), st.imp id fun ⟨b2, f⟩ => ⟨b2, f _⟩⟩
      | false => exact ⟨oc, st.imp id fun ⟨b2, f⟩ => ⟨b2, f _⟩⟩
    | false =>
      rw [hl] at tl
      exact sx_retP (evs_ifF tl (evs_call1 (α := StA) ⟨i, h, cs, s, b⟩ four ⟨aok, hm, hl⟩)) isL fun s e => e
end
end K32
/-! Walks: runs, the first standing. -/
namespace K32
open PySem PySem.Spec PyProof.Rows L2
local macro_rules | `(tactic| walk_at "ev") => `(tactic| first
  | exact evs_var rfl | exact evs_own rfl | exact evs_int | exact evs_str | exact evs_bl | exact evs_non
  | exact eva_nil | (apply eva_c <;> walk_at "ev")
  | exact evs_isi (evs_var rfl) rfl kit_int_int | exact evs_isi (evs_var rfl) rfl kit_int_bool | exact evs_isi (evs_var rfl) rfl kit_tuple_tuple | exact evs_isi (evs_var rfl) rfl kit_str_str
  | exact evs_ixT (evs_var rfl) evs_int rfl
  | (apply evs_I0 <;> walk_at "ev") | (apply evs_B0 <;> walk_at "ev")
  | (apply evs_andV <;> walk_at "ev") | (apply evs_orV <;> walk_at "ev") | (apply evs_notV; walk_at "ev")
  | (apply evs_chain <;> walk_at "ev")
  | (apply evs_neg; walk_at "ev")
  | (apply evt_test; walk_at "ev") | (apply evt_B; walk_at "ev") | (apply evt_not; walk_at "ev")
  | (apply evt_and1 <;> walk_at "ev") | (apply evt_or1 <;> walk_at "ev")
  | (intro _; walk_at "ev"))
local macro_rules | `(tactic| walk_at "ret") => `(tactic| (apply sx_ret; walk_at "ev"))
section
variable {B : Bx} {δ : Dn} {ta te : TE} {wi : TI} {g : TG} {j : Nat} {ds : List PyData}
theorem rgV_nat (n : Nat) : rgV 0 (n : Int) = ((List.range n).map fun k : Nat => (k : Int)).map V.int := by
  unfold rgV
  rw [show ((n : Int) - 0).toNat = n by omega, List.map_map]
  exact List.map_congr_left fun k _ => by show V.int (0 + (k : Int)) = V.int (k : Int); rw [Int.zero_add]
theorem evl_listRg {n : Nat} (h : EvS B ta δ (Is (natD n))) (hz : n ≤ 1000) : EvL B (tLstRg (tRg1 ta)) δ (· = (List.range n).map natD) := fun σ H st Q k => h σ H st _ fun v H1 s r1 h1 o1 e => by
  subst e
  cases o1.int_inv
  refine ⟨_, rfl, .of_le (by omega) (by omega) (by omega) (by omega), fun q hq => ?_⟩
  have r2 : Rel B.hd H1 (upd H1 q (.lst (rgV 0 (n : Int)))) := .new hq
  refine k q _ ((List.range n).map natD) _ (r1.trans r2) (h1.new hq) (free_back h1 r1 hq) upd_same ?_ rfl
  have e2 : (List.range n).map natD = ((List.range n).map fun k : Nat => (k : Int)).map PyData.int := by rw [List.map_map]; rfl
  rw [rgV_nat, e2]
  exact DTs.of_ints _
/-- item by item, by its place -/
theorem evl_mapI {Q : Nat → PyData → Prop} (h : EvY B wi δ g j ds) (hz : ds.length ≤ 1000000) (he : ∀ γ k (hk : k < ds.length), EvS (B.add γ) te ((wipeD δ [j]).set j (some (.dat ds[k]))) (fun s => ∃ d, s = .dat d ∧ Q k d)) :
    EvL B (tLc wi g tYes te [j]) δ (fun out => out.length = ds.length ∧ ∀ k d, out[k]? = some d → Q k d) := evl_lc h fun n put e => by
  obtain ⟨e1, e2⟩ := e
  subst e1 e2
  refine ⟨hz, fun k acc => acc.length = k ∧ ∀ i d, acc[i]? = some d → Q i d, ⟨rfl, fun i d e => by simp at e⟩, fun γ k acc hk ga => ⟨_, evt_yes, fun _ => ?_, fun q => Bool.noConfusion (show false = true from q)⟩, fun acc ga => ga⟩
  have ed : putN j ds k (wipeD δ [j]) = (wipeD δ [j]).set j (some (.dat ds[k])) := by
    unfold putN
    rw [show ds.getD k .none = ds[k] from getD_of (List.getElem?_eq_getElem hk)]
  rw [ed]
  refine (he γ k hk).imp fun s ⟨d, e, q⟩ => ⟨d, e, by rw [List.length_append, ga.1]; rfl, fun i x hx => ?_⟩
  by_cases hi : i < acc.length
  · rw [List.getElem?_append_left hi] at hx
    exact ga.2 i x hx
  · rw [List.getElem?_append_right (by omega)] at hx
    have : i - acc.length = 0 := by
      have := (List.getElem?_eq_some_iff.mp hx).1
      simp at this
      omega
    rw [this] at hx
    have hx' : d = x := Option.some.inj hx
    rw [← hx', show i = k by have := ga.1; omega]
    exact q
end
def FirstC (i : Inp) (d : PyData) : Prop := CellOk i d ∧ ∀ r vs, i = .near r vs → d = tupI []
def Std (i : Inp) (t : Nat) (d : PyData) : Prop := ∃ cs ss ts, d = .tuple [.tuple cs, .tuple ss, .tuple ts] ∧ cs.length = i.rows.length ∧ ss.length = i.rows.length ∧ ts.length = i.rows.length ∧ (∀ h c s, cs[h]? = some c → ss[h]? = some s → HP i h c s) ∧ ∀ x ∈ ts, ∃ l, x = .tuple l ∧ l.length ≤ t
section
variable {P : Program} {w : World} {K : PySem.W.Frag} {mg : Str → Option Value} {base : Heap}
abbrev N_state_of : List Str := ["play", "hand"]
theorem sc_state_of : FnScope N_state_of ["play", "hand"] (defScope (top 119)) := ⟨rfl, rfl, rfl, by decide +kernel, rfl, by decide +kernel, by decide +kernel⟩
theorem c_state_of (T : TX K mg) : C8.Cal P w K mg base 3 "state_of" (spS K (fun x : Inp × Nat => [plS K x.1, .dat (natD x.2)]) (fun x => x.1.ok ∧ x.2 < x.1.rows.length) (fun x s => ∃ d, s = .dat d ∧ ∀ c, FirstC x.1 c → HP x.1 x.2 c d)) [] := by
  refine cal_of T.d_state_of (fun F => F.bindsN (ps := ["play", "hand"]) fun _ _ _ _ _ _ us hl => match us, hl with | [_, _], _ => rfl) fun F => fnS F sc_state_of (fun _ => rfl) (by intro a s hs ds z; subst z; simp at hs) fun cdv A outer s H E a hr ha => ?_
  refine ⟨_, (pss_cons (ps_if (pt_cmpR op_in_seq (pe_fld (pv 0) rfl) (C8.pe_gc rfl T.c_MANNERS) (by rfl)) (pss_one (ps_ret (C8.pe_c (c_manner_state T) hr (by decide) rfl (pa_cons (pv 0) (pa_cons (pv 1) pa_nil))))) pss_nil) (pss_one (ps_ret (pe_ifExp (pt_cmpR op_eq (pe_fld (pv 0) rfl) (C8.pe_gc rfl T.c_LEVELS) (nomark _)) (C8.pe_c (c_level_state T) hr (by decide) rfl (pa_cons (pv 0) (pa_cons (pv 1) pa_nil))) (C8.pe_c (c_top_state T) hr (by decide) rfl (pa_cons (pv 0) (pa_cons (pv 1) pa_nil))))))), ?_⟩
  obtain ⟨i, h⟩ := a
  obtain ⟨ok0, hh0⟩ := ha
  have ok : i.ok := ok0
  have hh : h < i.rows.length := hh0
  have five := ok.1.2
  have tm := t_man (B := ⟨K, none, H, []⟩) (δ := slots N_state_of [plS K i, .dat (natD h)]) (a := i) T rfl
  have tl := t_lev (B := ⟨K, none, H, []⟩) (δ := slots N_state_of [plS K i, .dat (natD h)]) (a := i) T rfl
  have two : EvA ⟨K, none, H, []⟩ (tCons (tVar 0) (tCons (tVar 1) tNil)) (slots N_state_of [plS K i, .dat (natD h)]) (· = [plS K i, .dat (natD h)]) := eva_c (evs_var rfl) (eva_c (evs_var rfl) eva_nil)
  cases i with
  | man k ss =>
    have lr : (Inp.man k ss).rows.length = ss.length := List.length_map _
    obtain ⟨sc, e1⟩ : ∃ sc, ss[h]? = some sc := ⟨_, List.getElem?_eq_getElem (by omega)⟩
    have mo := mh_ok ok e1
    refine sx_seq (G := fun _ => False) (sx_yes tm (sx_retP (evs_call1 (α := MH) ⟨k, ss, h, sc⟩ two mo) (fun s e => by rw [e]; rfl) fun s e => ⟨_, e, fun c fc => ⟨fc.1, ?_⟩⟩)) fun _ q => q.elim
    exact (fresh_ok mo 0).imp id fun ⟨s2, et, o2⟩ => ⟨_, s2, sc, e1, et, o2, rfl⟩
  | lev vs => exact q_no tm (sx_retP (evs_ifT tl (evs_call1 (α := Inp × Nat) (.lev vs, h) two five)) (fun s e => by rw [e]; rfl) fun s e => ⟨_, e, fun c fc => ⟨fc.1, .inr ⟨_, _, none, rfl, (fun ls e => by cases e), rfl⟩⟩⟩)
  | nam vs => exact q_no tm (sx_retP (evs_ifF tl (evs_call1 (α := Inp × Nat) (.nam vs, h) two hh)) (fun s e => by rw [e]; rfl) fun s e => ⟨_, e, fun c fc => ⟨fc.1, .inr ⟨_, _, _, rfl, rfl, (fun e => by cases e)⟩⟩⟩)
  | near r vs => exact q_no tm (sx_retP (evs_ifF tl (evs_call1 (α := Inp × Nat) (.near r vs, h) two hh)) (fun s e => by rw [e]; rfl) fun s e => ⟨_, e, fun c fc => ⟨fc.1, .inr ⟨_, 0, _, _, rfl, rfl, ok.2.1.1, [], fc.2 r vs rfl, rfl⟩⟩⟩)
  | cha ls => exact q_no tm (sx_retP (evs_ifF tl (evs_call1 (α := Inp × Nat) (.cha ls, h) two hh)) (fun s e => by rw [e]; rfl) fun s e => ⟨_, e, fun c fc => ⟨fc.1, .inr ⟨_, _, rfl, rfl⟩⟩⟩)
end
end K32
/-! Walks: runs, the first standing, who moves. -/
namespace K32
open PySem PySem.Spec PyProof.Rows L2
local macro_rules | `(tactic| walk_at "ev") => `(tactic| first
  | exact evs_var rfl | exact evs_own rfl | exact evs_int | exact evs_str | exact evs_bl | exact evs_non
  | exact eva_nil | (apply eva_c <;> walk_at "ev")
  | exact evs_isi (evs_var rfl) rfl kit_int_int | exact evs_isi (evs_var rfl) rfl kit_int_bool | exact evs_isi (evs_var rfl) rfl kit_tuple_tuple | exact evs_isi (evs_var rfl) rfl kit_str_str
  | exact evs_ixT (evs_var rfl) evs_int rfl
  | (apply evs_I0 <;> walk_at "ev") | (apply evs_B0 <;> walk_at "ev")
  | (apply evs_andV <;> walk_at "ev") | (apply evs_orV <;> walk_at "ev") | (apply evs_notV; walk_at "ev")
  | (apply evs_chain <;> walk_at "ev")
  | (apply evs_neg; walk_at "ev")
  | (apply evt_test; walk_at "ev") | (apply evt_B; walk_at "ev") | (apply evt_not; walk_at "ev")
  | (apply evt_and1 <;> walk_at "ev") | (apply evt_or1 <;> walk_at "ev")
  | (intro _; walk_at "ev"))
local macro_rules | `(tactic| walk_at "ret") => `(tactic| (apply sx_ret; walk_at "ev"))
section
variable {P : Program} {w : World} {K : PySem.W.Frag} {mg : Str → Option Value} {base : Heap}
abbrev N_begun : List Str := ["play", "hands", "cells", "hand"]
theorem sc_begun : FnScope N_begun ["play"] (defScope (top 122)) := ⟨rfl, rfl, rfl, by decide +kernel, rfl, by decide +kernel, by decide +kernel⟩
theorem c_begun (T : TX K mg) : C8.Cal P w K mg base 4 "begun" (spS K (fun i : Inp => [plS K i]) Inp.ok (fun i s => ∃ d, s = .dat d ∧ Std i 0 d)) [] := by
  refine cal_of T.d_begun (fun F => F.bindsN (ps := ["play"]) fun _ _ _ _ _ _ us hl => match us, hl with | [_], _ => rfl) fun F => fnS F sc_begun (fun _ => rfl) (by intro a s hs ds z; subst z; simp at hs) fun cdv A outer s H E a hr ha => ?_
  refine ⟨_, (pss_cons (ps_set (i := 1) sc_begun.nd rfl (Or.inl rfl) (pe_listRg rfl (by rfl) T.n_list (prg_1 (by rfl) T.n_range (pe_callB b_len (by rfl) T.n_len bt_len (pa_cons (pe_fld (pv 0) rfl) pa_nil))))) (pss_cons (ps_set (i := 2) sc_begun.nd rfl (Or.inl rfl) (pe_callTy b_tupO (by rfl) T.n_tuple bt_tuple (pa_cons (pe_lc (own := [("hand", 3)]) (g := gName 3) (by rfl) sc_begun.nd (pi_list (pv 1)) (blkOk_by (own := [("hand", 3)]) (N := N_begun) (sc := defScope (top 122)) (by decide +kernel)) (fun _ _ _ _ _ => (pg_name (i := 3) sc_begun.nd rfl (Or.inl rfl))) (fun _ _ _ _ _ => pts_nil) (fun _ _ _ _ _ => (C8.pe_c (c_cell_of T) hr (by decide) rfl (pa_cons (pv 0) (pa_cons (pv 3) pa_nil))))) pa_nil))) (pss_one (ps_ret (pe_tup (pa_cons (pv 2) (pa_cons (pe_callTy b_tupO (by rfl) T.n_tuple bt_tuple (pa_cons (pe_lc (own := [("hand", 3)]) (g := gName 3) (by rfl) sc_begun.nd (pi_list (pv 1)) (blkOk_by (own := [("hand", 3)]) (N := N_begun) (sc := defScope (top 122)) (by decide +kernel)) (fun _ _ _ _ _ => (pg_name (i := 3) sc_begun.nd rfl (Or.inl rfl))) (fun _ _ _ _ _ => pts_nil) (fun _ _ _ _ _ => (C8.pe_c (c_state_of T) hr (by decide) rfl (pa_cons (pv 0) (pa_cons (pv 3) pa_nil))))) pa_nil)) (pa_cons (pe_op op_repU (pe_tup (pa_cons (pe_tup pa_nil) pa_nil)) (pe_callB b_len (by rfl) T.n_len bt_len (pa_cons (pv 1) pa_nil))) pa_nil)))))))), ?_⟩
  have five := ha.1.2
  have one := ha.1.1
  have ln : ((List.range a.rows.length).map natD).length = a.rows.length := by rw [List.length_map, List.length_range]
  have gk : ∀ k (hk : k < ((List.range a.rows.length).map natD).length), ((List.range a.rows.length).map natD)[k] = natD k := fun k hk => by rw [List.getElem_map, List.getElem_range]
  refine q_asgL1 (ds := (List.range a.rows.length).map natD) (evl_listRg (n := a.rows.length) (evs_len (evs_rows (B := ⟨K, none, H, []⟩) T rfl) rfl (by omega)) (by omega)) ?_
  refine sx_share (i := 1) rfl ?_
  refine q_asg (evs_tupleL (evl_mapI (Q := fun _ d => FirstC a d) (ds := (List.range a.rows.length).map natD) (evi_lst rfl) (by omega) fun γ k hk => ?_).evs) (fun s ⟨ds, e, _⟩ => by rw [e]; rfl) fun s ⟨cs, e, hcl, hcs⟩ => ?_
  · exact evs_call (P := (· = [plS K a, .dat (natD k)])) (eva_c (evs_var rfl) (eva_c ((evs_var (s := .dat ((List.range a.rows.length).map natD)[k]) rfl).imp fun s e => by rw [e, gk]) eva_nil)) fun ss e => ⟨(a, k), e, trivial, fun s ⟨d, e, h1, h2⟩ => ⟨d, e, h1, h2⟩⟩
  · subst e
    refine sx_retP (P := fun s => ∃ d, s = .dat d ∧ Std a 0 d) ((evs_mid (d := .tuple cs) (e := .tuple (List.replicate a.rows.length (.tuple []))) (G := fun x => ∃ ss, x = .tuple ss ∧ ss.length = a.rows.length ∧ ∀ k d, ss[k]? = some d → ∀ c, FirstC a c → HP a k c d) (evs_var rfl) ((evs_tupleL (evl_mapI (Q := fun k d => ∀ c, FirstC a c → HP a k c d) (ds := (List.range a.rows.length).map natD) (evi_lst rfl) (by omega) fun γ k hk => ?_).evs).imp fun s ⟨ds, e, h1, h2⟩ => ⟨_, e, ds, rfl, by rw [h1, ln], h2⟩) (evs_repU (k := a.rows.length) (evs_tup (ds := [.tuple []]) (eva_c (evs_tup (ds := []) eva_nil) eva_nil)) ((evs_len (s := .lst ((List.range a.rows.length).map natD)) (evs_var rfl) rfl (by omega)).imp fun s e => by rw [e, ln]) one (by omega))).imp fun s ⟨x, e, ss, ex, h1, h2⟩ => ⟨_, e, cs, ss, List.replicate a.rows.length (.tuple []), by rw [ex], by rw [hcl, ln], h1, List.length_replicate, fun h c s hc hs => h2 h s hs c (hcs h c hc), fun x hx => ?_⟩) (fun s ⟨d, e, _⟩ => by rw [e]; rfl) fun s e => e
    · rw [ln] at hk
      exact evs_call (P := (· = [plS K a, .dat (natD k)])) (eva_c (evs_var rfl) (eva_c ((evs_var (s := .dat ((List.range a.rows.length).map natD)[k]) rfl).imp fun s e => by rw [e, gk]) eva_nil)) fun ss e => ⟨(a, k), e, ⟨ha, hk⟩, fun s ⟨d, e, h1⟩ => ⟨d, e, h1⟩⟩
    · exact ⟨[], List.eq_of_mem_replicate hx, Nat.le_refl _⟩
abbrev N_first_standing : List Str := ["play"]
theorem sc_first_standing : FnScope N_first_standing ["play"] (defScope (top 123)) := ⟨rfl, rfl, rfl, by decide +kernel, rfl, by decide +kernel, by decide +kernel⟩
theorem c_first_standing (T : TX K mg) : C8.Cal P w K mg base 5 "first_standing" (spS K (fun i : Inp => [plS K i]) Inp.ok (fun i s => ∃ d, s = .dat d ∧ Std i 0 d)) [] := by
  refine cal_of T.d_first_standing (fun F => F.bindsN (ps := ["play"]) fun _ _ _ _ _ _ us hl => match us, hl with | [_], _ => rfl) fun F => fnS F sc_first_standing (fun _ => rfl) (by intro a s hs ds z; subst z; simp at hs) fun cdv A outer s H E a hr ha => ?_
  refine ⟨_, (pss_one (ps_ret (C8.pe_c (c_begun T) hr (by decide) rfl (pa_cons (pv 0) pa_nil)))), ?_⟩
  exact sx_retP (evs_call1 (α := Inp) a (eva_c (evs_var rfl) eva_nil) ha) (fun s ⟨d, e, _⟩ => by rw [e]; rfl) fun s e => e
/-- the hands that are not over -/
def MvOk (ss : List PyData) (d : PyData) : Prop := ∃ hs : List Nat, d = .tuple (hs.map natD) ∧ hs.length ≤ ss.length ∧ ∀ h ∈ hs, ∃ s, ss[h]? = some s ∧ isN (.dat s) = false
abbrev N_movers : List Str := ["standing", "hand", "state"]
theorem sc_movers : FnScope N_movers ["standing"] (defScope (top 124)) := ⟨rfl, rfl, rfl, by decide +kernel, rfl, by decide +kernel, by decide +kernel⟩
theorem c_movers (T : TX K mg) : C8.Cal P w K mg base 1 "movers" (spS K (fun x : List PyData × List PyData × List PyData => [.dat (.tuple [.tuple x.1, .tuple x.2.1, .tuple x.2.2])]) (fun x => x.2.1.length ≤ 5) (fun x s => ∃ d, s = .dat d ∧ MvOk x.2.1 d)) [] := by
  refine cal_of T.d_movers (fun F => F.bindsN (ps := ["standing"]) fun _ _ _ _ _ _ us hl => match us, hl with | [_], _ => rfl) fun F => fnS F sc_movers (fun _ => rfl) (by intro a s hs ds z; subst z; simp at hs) fun cdv A outer s H E a hr ha => ?_
  refine ⟨_, (pss_one (ps_ret (pe_callTy b_tupO (by rfl) T.n_tuple bt_tuple (pa_cons (pe_lc (own := [("hand", 1), ("state", 2)]) (g := gTup K 2 (gNames [1, 2])) (by rfl) sc_movers.nd (pi_enumT (by rfl) T.n_enumerate (pa_cons (pe_ix ix_tup (pv 0) pe_int (fun _ _ => rfl)) pa_nil)) (blkOk_by (own := [("hand", 1), ("state", 2)]) (N := N_movers) (sc := defScope (top 124)) (by decide +kernel)) (fun _ _ _ _ _ => (pg_is (is := [1, 2]) (pg_tup rfl (pgs_cons (pg_name (i := 1) sc_movers.nd rfl (Or.inl rfl)) (pgs_cons (pg_name (i := 2) sc_movers.nd rfl (Or.inl rfl)) pgs_nil))))) (fun _ _ _ _ _ => (pts_one (pt_cmpR o_notN (pv 2) pe_non (nomark _)))) (fun _ _ _ _ _ => (pv 1))) pa_nil)))), ?_⟩
  obtain ⟨cs, ss, ts⟩ := a
  have hz : ss.length ≤ 5 := ha
  refine sx_retP (P := fun s => ∃ d, s = .dat d ∧ MvOk ss d) ((evs_tupleL (evl_enumP (Q := fun d => ∃ h : Nat, d = natD h ∧ ∃ s, ss[h]? = some s ∧ isN (.dat s) = false) (ds := ss) (evs_ixT (ds := [.tuple cs, .tuple ss, .tuple ts]) (evs_var rfl) evs_int rfl) (by omega) fun γ k hk => ?_).evs).imp fun s ⟨ds, e, hl, h2⟩ => ?_) (fun s ⟨d, e, _⟩ => by rw [e]; rfl) fun s e => e
  · exact ⟨(· = !isN (.dat ss[k])), evt_test (evs_notN (s := .dat ss[k]) (evs_var rfl)), fun q => (evs_var rfl).imp fun s e => ⟨_, e, k, rfl, ss[k], List.getElem?_eq_getElem hk, by cases z : isN (.dat ss[k]) with | true => rw [z] at q; cases q | false => rfl⟩⟩
  · obtain ⟨hs, e2, h3⟩ := map_of (F := natD) (G := fun h => ∃ s, ss[h]? = some s ∧ isN (.dat s) = false) h2
    exact ⟨_, e, hs, by rw [e2], by rw [e2, List.length_map] at hl; exact hl, h3⟩
abbrev N_can_step : List Str := ["play", "standing"]
theorem sc_can_step : FnScope N_can_step ["play", "standing"] (defScope (top 125)) := ⟨rfl, rfl, rfl, by decide +kernel, rfl, by decide +kernel, by decide +kernel⟩
theorem c_can_step (T : TX K mg) : C8.Cal P w K mg base 2 "can_step" (spS K (fun x : Inp × List PyData × List PyData × List PyData => [plS K x.1, .dat (.tuple [.tuple x.2.1, .tuple x.2.2.1, .tuple x.2.2.2])]) (fun x => x.2.2.1.length ≤ 5) (fun x s => ∃ d, s = .dat d ∧ MvOk x.2.2.1 d)) [] := by
  refine cal_of T.d_can_step (fun F => F.bindsN (ps := ["play", "standing"]) fun _ _ _ _ _ _ us hl => match us, hl with | [_, _], _ => rfl) fun F => fnS F sc_can_step (fun _ => rfl) (by intro a s hs ds z; subst z; simp at hs) fun cdv A outer s H E a hr ha => ?_
  refine ⟨_, (pss_one (ps_ret (C8.pe_c (c_movers T) hr (by decide) rfl (pa_cons (pv 1) pa_nil)))), ?_⟩
  exact sx_retP (evs_call1 (α := List PyData × List PyData × List PyData) a.2 (eva_c (evs_var rfl) eva_nil) ha) (fun s ⟨d, e, _⟩ => by rw [e]; rfl) fun s e => e
end
end K32
/-! Walks: runs, a step. -/
namespace K32
open PySem PySem.Spec PyProof.Rows L2
local macro_rules | `(tactic| walk_at "ev") => `(tactic| first
  | exact evs_var rfl | exact evs_own rfl | exact evs_int | exact evs_str | exact evs_bl | exact evs_non
  | exact eva_nil | (apply eva_c <;> walk_at "ev")
  | exact evs_isi (evs_var rfl) rfl kit_int_int | exact evs_isi (evs_var rfl) rfl kit_int_bool | exact evs_isi (evs_var rfl) rfl kit_tuple_tuple | exact evs_isi (evs_var rfl) rfl kit_str_str
  | exact evs_ixT (evs_var rfl) evs_int rfl
  | (apply evs_I0 <;> walk_at "ev") | (apply evs_B0 <;> walk_at "ev")
  | (apply evs_andV <;> walk_at "ev") | (apply evs_orV <;> walk_at "ev") | (apply evs_notV; walk_at "ev")
  | (apply evs_chain <;> walk_at "ev")
  | (apply evs_neg; walk_at "ev")
  | (apply evt_test; walk_at "ev") | (apply evt_B; walk_at "ev") | (apply evt_not; walk_at "ev")
  | (apply evt_and1 <;> walk_at "ev") | (apply evt_or1 <;> walk_at "ev")
  | (intro _; walk_at "ev"))
local macro_rules | `(tactic| walk_at "ret") => `(tactic| (apply sx_ret; walk_at "ev"))
theorem evs_eqDP {B : Bx} {δ : Dn} {ta tb : TE} {e : PyData} {b : Bool} (ha : EvS B ta δ (fun s => ∃ d, s = .dat d ∧ Lay 1 d ∧ PyData.eqv d e = b)) (hb : EvS B tb δ (Is e)) (he : Lay 1 e) : EvS B (tOp (rEqD B.K) ta tb) δ (Is (.bool b)) := evs_op ha hb fun s u ⟨d, e1, l, q⟩ e2 => by
  subst e1 e2
  exact fun H v w hh o1 o2 Q k => ⟨d, e, o1.dp rfl, o2.dp rfl, l.shaped, he.shaped, k.dat .refl hh (DT.bl _) (by rw [q])⟩
structure SsA where
  i : Inp
  h : Nat
  cs : List PyData
  ss : List PyData
  ts : List PyData
  t : Nat
structure SsA.ok (a : SsA) : Prop where
  i : a.i.ok
  hh : a.h < a.i.rows.length
  n1 : a.cs.length = a.i.rows.length
  n2 : a.ss.length = a.i.rows.length
  n3 : a.ts.length = a.i.rows.length
  hp : ∀ h c s, a.cs[h]? = some c → a.ss[h]? = some s → HP a.i h c s
  tl : ∀ x ∈ a.ts, ∃ l, x = .tuple l ∧ l.length ≤ a.t
  tt : a.t ≤ 1000
  go : ∃ s, a.ss[a.h]? = some s ∧ isN (.dat s) = false
abbrev SsA.d (a : SsA) : PyData := .tuple [.tuple a.cs, .tuple a.ss, .tuple a.ts]
section
variable {P : Program} {w : World} {K : PySem.W.Frag} {mg : Str → Option Value} {base : Heap}
abbrev N_after_step : List Str := ["play", "standing", "hand", "cells", "states", "told", "cell", "state", "item"]
theorem sc_after_step : FnScope N_after_step ["play", "standing", "hand"] (defScope (top 126)) := ⟨rfl, rfl, rfl, by decide +kernel, rfl, by decide +kernel, by decide +kernel⟩
theorem c_after_step (T : TX K mg) : C8.Cal P w K mg base 6 "after_step" (spS K (fun a : SsA => [plS K a.i, .dat a.d, .dat (natD a.h)]) SsA.ok (fun a s => ∃ d, s = .dat d ∧ Std a.i (a.t + 1) d)) [] := by
  refine cal_of T.d_after_step (fun F => F.bindsN (ps := ["play", "standing", "hand"]) fun _ _ _ _ _ _ us hl => match us, hl with | [_, _, _], _ => rfl) fun F => fnS F sc_after_step (fun _ => rfl) (by intro a s hs ds z; subst z; simp at hs) fun cdv A outer s H E a hr ha => ?_
  refine ⟨_, (pss_cons (ps_asg (pv 1) (pg_is (is := [3, 4, 5]) (pg_tup rfl (pgs_cons (pg_name (i := 3) sc_after_step.nd rfl (Or.inl rfl)) (pgs_cons (pg_name (i := 4) sc_after_step.nd rfl (Or.inl rfl)) (pgs_cons (pg_name (i := 5) sc_after_step.nd rfl (Or.inl rfl)) pgs_nil)))))) (pss_cons (ps_asg (C8.pe_c (c_after_of T) hr (by decide) rfl (pa_cons (pv 0) (pa_cons (pv 2) (pa_cons (pv 3) (pa_cons (pe_ix ix_tup (pv 4) (pv 2) (fun _ _ => rfl)) pa_nil))))) (pg_is (is := [6, 7, 8]) (pg_tup rfl (pgs_cons (pg_name (i := 6) sc_after_step.nd rfl (Or.inl rfl)) (pgs_cons (pg_name (i := 7) sc_after_step.nd rfl (Or.inl rfl)) (pgs_cons (pg_name (i := 8) sc_after_step.nd rfl (Or.inl rfl)) pgs_nil)))))) (pss_cons (ps_if (pt_cmpR (op_eqDk (K := K) rfl hr.units) (C8.pe_c (c_next_of T) hr (by decide) rfl (pa_cons (pv 0) (pa_cons (pv 2) (pa_cons (pe_ix ix_tup (pv 4) (pv 2) (fun _ _ => rfl)) pa_nil)))) (pe_tup (pa_cons (C8.pe_gc rfl T.c_PUT_plays) pa_nil)) (nomark _)) (pss_one (ps_set (i := 3) sc_after_step.nd rfl (Or.inl rfl) (C8.pe_c (c_replaced T) hr (by decide) rfl (pa_cons (pv 3) (pa_cons (pv 2) (pa_cons (pv 6) pa_nil)))))) pss_nil) (pss_cons (ps_if (pt_cmpR o_notN (pv 8) pe_non (nomark _)) (pss_one (ps_set (i := 5) sc_after_step.nd rfl (Or.inl rfl) (C8.pe_c (c_replaced T) hr (by decide) rfl (pa_cons (pv 5) (pa_cons (pv 2) (pa_cons (pe_op op_catA (pe_ix ix_tup (pv 5) (pv 2) (fun _ _ => rfl)) (pe_tup (pa_cons (pv 8) pa_nil))) pa_nil)))))) pss_nil) (pss_one (ps_ret (pe_tup (pa_cons (pv 3) (pa_cons (C8.pe_c (c_replaced T) hr (by decide) rfl (pa_cons (pv 4) (pa_cons (pv 2) (pa_cons (pv 7) pa_nil)))) (pa_cons (pv 5) pa_nil)))))))))), ?_⟩
  obtain ⟨i, h, cs, ss, ts, t⟩ := a
  obtain ⟨ok, hh, n1, n2, n3, hp, tl, tt, s, hs, hsn⟩ := ha
  have ok : i.ok := ok
  have hh : h < i.rows.length := hh
  have n1 : cs.length = i.rows.length := n1
  have n2 : ss.length = i.rows.length := n2
  have n3 : ts.length = i.rows.length := n3
  have hs : ss[h]? = some s := hs
  have tt : t ≤ 1000 := tt
  have hp : ∀ h c s, cs[h]? = some c → ss[h]? = some s → HP i h c s := hp
  have tl : ∀ x ∈ ts, ∃ l, x = .tuple l ∧ l.length ≤ t := tl
  have five := ok.1.2
  obtain ⟨c, hc⟩ : ∃ c, cs[h]? = some c := ⟨_, List.getElem?_eq_getElem (by omega)⟩
  obtain ⟨l, hl, hlt⟩ : ∃ l, ts[h]? = some (.tuple l) ∧ l.length ≤ t := by
    have e : ts[h]? = some ts[h] := List.getElem?_eq_getElem (by omega)
    obtain ⟨l, e2, h2⟩ := tl ts[h] (List.getElem_mem _)
    exact ⟨l, by rw [e, e2], h2⟩
  obtain ⟨b, pb⟩ : ∃ b, PutB i h c s b := by
    rcases (hp h c s hc hs).2 with z | z
    · rw [z] at hsn; cases hsn
    · exact z
  have all : ∀ d ∈ cs, CellOk i d := fun d hd => by
    obtain ⟨k, hk, rfl⟩ := List.getElem_of_mem hd
    exact (hp k cs[k] _ (List.getElem?_eq_getElem hk) (List.getElem?_eq_getElem (by omega))).1
  have sok : StA.ok ⟨i, h, cs, s, b⟩ := ⟨ok, hh, n1, all, c, hc, pb⟩
  refine q_unp (ds := [.tuple cs, .tuple ss, .tuple ts]) (evs_var rfl) rfl rfl ?_
  refine q_unpP (P := fun ds => ∃ c' t' it, ds = [c', t', it] ∧ HP i h (if b then c' else c) t') ((evs_call1 (α := StA) ⟨i, h, cs, s, b⟩ (eva_c (evs_var rfl) (eva_c (evs_var rfl) (eva_c (evs_var rfl) (eva_c (evs_ixD (ds := ss) (evs_var rfl) (evs_var rfl) hs) eva_nil)))) sok).imp fun z ⟨c', t', it, e, f⟩ => ⟨_, e, c', t', it, rfl, f c hc⟩) (fun ds ⟨_, _, _, e, _⟩ => by rw [e]; exact ⟨rfl, rfl⟩) fun ds ⟨c', t', it, e, hp2⟩ => ?_
  subst e
  let cs2 := if b then cs.set h c' else cs
  have l2 : cs2.length = cs.length := by show (if b then cs.set h c' else cs).length = _; split <;> simp
  refine sx_seq (G := (· = [some (plS K i), some (.dat (.tuple [.tuple cs, .tuple ss, .tuple ts])), some (.dat (natD h)), some (.dat (.tuple cs2)), some (.dat (.tuple ss)), some (.dat (.tuple ts)), some (.dat c'), some (.dat t'), some (.dat it)])) (sx_if (P := (· = b)) (evt_test (evs_eqDP (e := putD1) (evs_call1 (α := NxA) ⟨i, h, c, s, b⟩ (eva_c (evs_var rfl) (eva_c (evs_var rfl) (eva_c (evs_ixD (ds := ss) (evs_var rfl) (evs_var rfl) hs) eva_nil))) ⟨ok, pb⟩) (evs_tup (ds := [.str "put"]) (eva_c evs_str eva_nil)) lay_put1)) (fun e => ?_) fun e => ?_) fun δ' e => ?_
  · refine sx_asg1 (s := .dat (.tuple cs2)) ((evs_call1 (α := List PyData × Nat × PyData) (cs, h, c') (eva_c (evs_var rfl) (eva_c (evs_var rfl) (eva_c (evs_var rfl) eva_nil))) ⟨by show h < cs.length; omega, by show cs.length ≤ 1000; omega⟩).imp fun z q => by rw [q]; show Sv.dat (.tuple (cs.set h c')) = Sv.dat (.tuple (if b then cs.set h c' else cs)); rw [← e]; rfl) rfl rfl
  · exact sx_next (by show _ = _; have q : cs2 = cs := by show (if b then cs.set h c' else cs) = cs; rw [← e]; rfl
                      rw [q]; rfl)
  subst e
  refine sx_seq (G := fun δ => ∃ ts2 : List PyData, δ = [some (plS K i), some (.dat (.tuple [.tuple cs, .tuple ss, .tuple ts])), some (.dat (natD h)), some (.dat (.tuple cs2)), some (.dat (.tuple ss)), some (.dat (.tuple ts2)), some (.dat c'), some (.dat t'), some (.dat it)] ∧ ts2.length = ts.length ∧ ∀ x ∈ ts2, ∃ l, x = .tuple l ∧ l.length ≤ t + 1) (sx_if (P := fun _ => True) (evt_any (evs_notN (s := .dat it) (evs_var rfl))) (fun _ => ?_) fun _ => ?_) fun δ' q => ?_
  · refine sx_asg1 (s := .dat (.tuple (ts.set h (.tuple (l ++ [it]))))) (evs_call1 (α := List PyData × Nat × PyData) (ts, h, .tuple (l ++ [it])) (eva_c (evs_var rfl) (eva_c (evs_var rfl) (eva_c (evs_catA (evs_ixD (ds := ts) (evs_var rfl) (evs_var rfl) hl) (evs_tup (ds := [it]) (eva_c (evs_var rfl) eva_nil)) (by show l.length + 1 ≤ _; omega)) eva_nil))) ⟨by show h < ts.length; omega, by show ts.length ≤ 1000; omega⟩) rfl ⟨_, rfl, List.length_set .., fun x hx => ?_⟩
    rcases List.mem_or_eq_of_mem_set hx with hx | rfl
    · obtain ⟨l3, e, h3⟩ := tl x hx
      exact ⟨l3, e, by omega⟩
    · exact ⟨_, rfl, by rw [List.length_append]; show l.length + 1 ≤ t + 1; omega⟩
  · exact sx_next ⟨ts, rfl, rfl, fun x hx => by obtain ⟨l3, e, h3⟩ := tl x hx; exact ⟨l3, e, by omega⟩⟩
  obtain ⟨ts2, e, n4, tl2⟩ := q
  subst e
  refine sx_ret (evs_tup (ds := [.tuple cs2, .tuple (ss.set h t'), .tuple ts2]) (eva_c (evs_var rfl) (eva_c (evs_call1 (α := List PyData × Nat × PyData) (ss, h, t') (eva_c (evs_var rfl) (eva_c (evs_var rfl) (eva_c (evs_var rfl) eva_nil))) ⟨by show h < ss.length; omega, by show ss.length ≤ 1000; omega⟩) (eva_c (evs_var rfl) eva_nil)))) ⟨_, rfl, cs2, ss.set h t', ts2, rfl, by rw [l2, n1], by rw [List.length_set]; exact n2, by rw [n4]; exact n3, fun h2 c2 s2 q1 q2 => ?_, tl2⟩
  by_cases eh : h2 = h
  · subst eh
    rw [List.getElem?_set, if_pos rfl, if_pos (by omega)] at q2
    cases q2
    have : c2 = if b then c' else c := by
      have q1' : (if b then cs.set h2 c' else cs)[h2]? = some c2 := q1
      cases b with
      | true =>
        have q3 : (cs.set h2 c')[h2]? = some c2 := q1'
        rw [List.getElem?_set, if_pos rfl, if_pos (by omega)] at q3
        exact (Option.some.inj q3).symm
      | false =>
        have q3 : cs[h2]? = some c2 := q1'
        rw [hc] at q3
        exact (Option.some.inj q3).symm
    rw [this]
    exact hp2
  · rw [List.getElem?_set_ne (Ne.symm eh)] at q2
    refine hp h2 c2 s2 ?_ q2
    have q1' : (if b then cs.set h c' else cs)[h2]? = some c2 := q1
    cases b with
    | true => exact (List.getElem?_set_ne (Ne.symm eh)).symm.trans q1'
    | false => exact q1'
abbrev N_check_step : List Str := ["play", "standing", "hand"]
theorem sc_check_step : FnScope N_check_step ["play", "standing", "hand"] (defScope (top 127)) := ⟨rfl, rfl, rfl, by decide +kernel, rfl, by decide +kernel, by decide +kernel⟩
theorem c_check_step (T : TX K mg) : C8.Cal P w K mg base 6 "check_step" (spS K (fun a : SsA => [plS K a.i, .dat a.d, .dat (natD a.h)]) SsA.ok (fun _ => Is .none)) [] := by
  refine cal_of T.d_check_step (fun F => F.bindsN (ps := ["play", "standing", "hand"]) fun _ _ _ _ _ _ us hl => match us, hl with | [_, _, _], _ => rfl) fun F => fnS F sc_check_step (fun _ => rfl) (by intro a s hs ds z; subst z; simp at hs) fun cdv A outer s H E a hr ha => ?_
  refine ⟨_, (pss_cons (ps_expr (C8.pe_c (c_check_hand T) hr (by decide) rfl (pa_cons (pv 0) (pa_cons (pv 2) pa_nil)))) (pss_one (ps_if (pt_cmpR o_isN (pe_ix ix_tup (pe_ix ix_tup (pv 1) pe_int (fun _ _ => rfl)) (pv 2) (fun _ _ => rfl)) pe_non (nomark _)) (pss_one ps_never) pss_nil))), ?_⟩
  obtain ⟨s, hs, hsn⟩ := ha.go
  refine sx_seq (G := (· = slots N_check_step [plS K a.i, .dat a.d, .dat (natD a.h)])) (sx_drop (evs_call1 (α := Inp × Nat) (a.i, a.h) (eva_c (evs_var rfl) (eva_c (evs_var rfl) eva_nil)) ⟨ha.i, ha.hh⟩) rfl) fun δ' e => ?_
  subst e
  exact sx_no (evt_test (evs_is (evs_isN (s := .dat s) (evs_ixD (ds := a.ss) (evs_ixT (ds := [.tuple a.cs, .tuple a.ss, .tuple a.ts]) (evs_var rfl) evs_int rfl) (evs_var rfl) hs)) hsn)) (sx_next rfl)
abbrev N_step : List Str := ["play", "standing", "hand"]
theorem sc_step : FnScope N_step ["play", "standing", "hand"] (defScope (top 128)) := ⟨rfl, rfl, rfl, by decide +kernel, rfl, by decide +kernel, by decide +kernel⟩
theorem c_step (T : TX K mg) : C8.Cal P w K mg base 7 "step" (spS K (fun a : SsA => [plS K a.i, .dat a.d, .dat (natD a.h)]) SsA.ok (fun a s => ∃ d, s = .dat d ∧ Std a.i (a.t + 1) d)) [] := by
  refine cal_of T.d_step (fun F => F.bindsN (ps := ["play", "standing", "hand"]) fun _ _ _ _ _ _ us hl => match us, hl with | [_, _, _], _ => rfl) fun F => fnS F sc_step (fun _ => rfl) (by intro a s hs ds z; subst z; simp at hs) fun cdv A outer s H E a hr ha => ?_
  refine ⟨_, (pss_cons (ps_expr (C8.pe_c (c_check_step T) hr (by decide) rfl (pa_cons (pv 0) (pa_cons (pv 1) (pa_cons (pv 2) pa_nil))))) (pss_one (ps_ret (C8.pe_c (c_after_step T) hr (by decide) rfl (pa_cons (pv 0) (pa_cons (pv 1) (pa_cons (pv 2) pa_nil))))))), ?_⟩
  refine sx_seq (G := (· = slots N_step [plS K a.i, .dat a.d, .dat (natD a.h)])) (sx_drop (evs_call1 (α := SsA) a (eva_c (evs_var rfl) (eva_c (evs_var rfl) (eva_c (evs_var rfl) eva_nil))) ha) rfl) fun δ' e => ?_
  subst e
  exact sx_retP (evs_call1 (α := SsA) a (eva_c (evs_var rfl) (eva_c (evs_var rfl) (eva_c (evs_var rfl) eva_nil))) ha) (fun s ⟨d, e, _⟩ => by rw [e]; rfl) fun s e => e
end
end K32
/-! Pure ints at one heap; the law's hand read and written. -/
namespace K32
open PySem PySem.Spec PyProof.Rows L2
def IV (te : TE) (σ : L2.St) (H : Hp) (i : Int) : Prop := ∀ Q : VK, Q (.int i) H → te σ H Q
section
variable {σ : L2.St} {H : Hp} {ta tb te : TE} {i j : Int} {K : PySem.W.Frag} {p q : Addr} {a b c d : Int} {ns : List Int} {u : TS} {D : Ends}
theorem iv_c : IV (tC (.int i)) σ H i := fun Q k => k
theorem iv_var {n : Nat} (h : σ[n]? = some (some (.int i))) : IV (tVar n) σ H i := fun Q k => ⟨_, h, k⟩
theorem iv_I0 {g : Int → Int → Int} (h1 : IV ta σ H i) (h2 : IV tb σ H j) : IV (tOp (rI0 fun i j => .int (g i j)) ta tb) σ H (g i j) := fun Q k => h1 _ (h2 _ ⟨i, j, rfl, rfl, k⟩)
theorem iv_I {C : Int → Int → Prop} {g : Int → Int → Int} (h1 : IV ta σ H i) (h2 : IV tb σ H j) (c : C i j) : IV (tOp (rI C fun i j => .int (g i j)) ta tb) σ H (g i j) := fun Q k => h1 _ (h2 _ ⟨i, j, rfl, rfl, c, k⟩)
theorem iv_int (h : IV ta σ H i) : IV (tCB rInt1 (tCons ta tNil)) σ H i := fun Q k => h _ (.inl ⟨i, rfl, k⟩)
theorem iv_hand {n : Int} (hs : σ[0]? = some (some (.ref p))) (hp : H p = some (.lst [.ref q, .int a, .int b, .int c, .int d])) (hn : atI [V.ref q, .int a, .int b, .int c, .int d] n = some (.int i)) : IV (tOp (rIxL K) (tVar 0) (tC (.int n))) σ H i := fun Q k => ⟨_, hs, p, _, n, _, rfl, rfl, SqL.of hp, hn, k⟩
theorem iv_B {g : Int → Int → Bool} {Q : Bool → Hp → Prop} (h1 : IV ta σ H i) (h2 : IV tb σ H j) (k : Q (g i j) H) : tTest (tOp (rI0 fun i j => .bl (g i j)) ta tb) σ H Q := h1 _ (h2 _ ⟨i, j, rfl, rfl, _, rfl, k⟩)
theorem iv_set {n : Nat} (h : IV te σ H i) (k : u D (σ.set n (some (.int i))) H) : tSeq (tAsg te (gName n)) u D σ H := h _ k
/-- hand[n] = e -/
theorem iv_put {n : Int} {j : Nat} (hs : σ[0]? = some (some (.ref p))) (hp : H p = some (.lst [.ref q, .int a, .int b, .int c, .int d])) (hn : ixN 5 n = some j) (h : IV te σ H i) {Q : L2.St → Hp → Prop} (k : Q σ (upd H p (.lst ([V.ref q, .int a, .int b, .int c, .int d].set j (.int i))))) : tAsg te (gSub (tVar 0) (tC (.int n)) rSetL) { D with nx := Q } σ H := h _ ⟨_, hs, p, _, n, j, rfl, rfl, hp, hn, k⟩
end
end K32
namespace K32
open PySem PySem.Spec PyProof.Rows L2
theorem cut1 {t u : TS} {D : Ends} {σ : L2.St} {H : Hp} (Φ : L2.St → Hp → Prop) (h1 : ∀ U : L2.St → Hp → Prop, (∀ σ' H', Φ σ' H' → U σ' H') → t { D with nx := U } σ H) (h2 : ∀ σ' H', Φ σ' H' → u D σ' H') : tSeq t u D σ H := h1 (u D) h2
end K32
/-! Walks: the law's draw. -/
namespace K32
open PySem PySem.Spec PyProof.Rows L2
local macro_rules | `(tactic| walk_at "ev") => `(tactic| first
  | exact evs_var rfl | exact evs_own rfl | exact evs_int | exact evs_str | exact evs_bl | exact evs_non
  | exact eva_nil | (apply eva_c <;> walk_at "ev")
  | exact evs_isi (evs_var rfl) rfl kit_int_int | exact evs_isi (evs_var rfl) rfl kit_int_bool | exact evs_isi (evs_var rfl) rfl kit_tuple_tuple | exact evs_isi (evs_var rfl) rfl kit_str_str
  | exact evs_ixT (evs_var rfl) evs_int rfl
  | (apply evs_I0 <;> walk_at "ev") | (apply evs_B0 <;> walk_at "ev")
  | (apply evs_andV <;> walk_at "ev") | (apply evs_orV <;> walk_at "ev") | (apply evs_notV; walk_at "ev")
  | (apply evs_chain <;> walk_at "ev")
  | (apply evs_neg; walk_at "ev")
  | (apply evt_test; walk_at "ev") | (apply evt_B; walk_at "ev") | (apply evt_not; walk_at "ev")
  | (apply evt_and1 <;> walk_at "ev") | (apply evt_or1 <;> walk_at "ev")
  | (intro _; walk_at "ev"))
local macro_rules | `(tactic| walk_at "ret") => `(tactic| (apply sx_ret; walk_at "ev"))
section
variable {P : Program} {w : World} {K : PySem.W.Frag} {mg : Str → Option Value} {base : Heap}
abbrev N_law_draw : List Str := ["_law_hand_here", "_law_many", "_law_cell", "_law_digit", "_law_number"]
theorem sc_law_draw : FnScope N_law_draw ["_law_hand_here", "_law_many"] (defScope (top 131)) := ⟨rfl, rfl, rfl, by decide +kernel, rfl, by decide +kernel, by decide +kernel⟩
abbrev spDraw (K : PySem.W.Frag) : Sp := spH K (fun m : Nat => [.dat (natD m)]) (fun m => 1 ≤ m ∧ m < 1073741824) (fun m s => ∃ d : Nat, s = .dat (natD d) ∧ d < m)
theorem c_law_draw (T : TX K mg) : C8.Cal P w K mg base 1 "_law_draw" (spDraw K) [] := by
  refine cal_of T.d_law_draw (fun F => F.bindsN (ps := ["_law_hand_here", "_law_many"]) fun _ _ _ _ _ _ us hl => match us, hl with | [_, _], _ => rfl) fun F => F.ok sc_law_draw (fun vs H Q E h => ?_) (fun cdv A outer s H vs Q E hr h => ?_)
  · obtain ⟨a, p, q, ws, rfl, _, o, _⟩ := h
    obtain ⟨v, rfl, _⟩ := paired1 o
    rfl
  obtain ⟨m, p, q, ws, rfl, ⟨⟨a, b, c, d, hp, a0, b0, c0, d0, c1⟩, ns, hq, hz⟩, o, ⟨m1, m2⟩, k⟩ := h
  obtain ⟨v, rfl, ov⟩ := paired1 o
  have ev : v = .int (m : Nat) := DT.int_inv ov
  subst ev
  refine ⟨_, PSs.nox (pss_cons (ps_if (PW.pt (pw_and (pt_cmpR op_eq (pe_ix ix_list (pv 0) pe_int (fun _ _ => rfl)) pe_int (nomark _)) (pw_and1 (pt_cmpR op_lt (pe_ix ix_list (pv 0) pe_int (fun _ _ => rfl)) (pe_callB b_len (by rfl) T.n_len bt_len (pa_cons (pe_ix ix_list (pv 0) pe_int (fun _ _ => rfl)) pa_nil)) (nomark _))))) (pss_cons (ps_set (i := 2) sc_law_draw.nd rfl (Or.inl rfl) (pe_ix ix_list (pe_ix ix_list (pv 0) pe_int (fun _ _ => rfl)) (pe_ix ix_list (pv 0) pe_int (fun _ _ => rfl)) (fun _ _ => rfl))) (pss_cons (ps_asg (pe_op op_add (pe_ix ix_list (pv 0) pe_int (fun _ _ => rfl)) pe_int) (pg_sub (pv 0) pe_int set_list)) (pss_cons (ps_asg (pe_op op_mod (pe_callTy b_int1 (by rfl) T.n_int bt_int (pa_cons (pe_op op_add (pe_op op_add (pe_op op_mul (pe_ix ix_list (pv 0) pe_int (fun _ _ => rfl)) pe_int) (pe_op op_mul (pv 2) pe_int)) pe_int) pa_nil)) pe_int) (pg_sub (pv 0) pe_int set_list)) (pss_one (ps_if (pt_cmpR op_ge (pv 2) (pe_op op_pow pe_int pe_int) (nomark _)) (pss_one (ps_asg (pv 2) (pg_sub (pv 0) pe_int set_list))) pss_nil))))) pss_nil) (pss_cons (ps_if (pt_cmpR op_gt (pe_ix ix_list (pv 0) pe_int (fun _ _ => rfl)) pe_int (nomark _)) (pss_cons (ps_set (i := 3) sc_law_draw.nd rfl (Or.inl rfl) (pe_op op_mod (pe_callTy b_int1 (by rfl) T.n_int bt_int (pa_cons (pe_ix ix_list (pv 0) pe_int (fun _ _ => rfl)) pa_nil)) (pv 1))) (pss_cons (ps_asg (pe_op op_fdiv (pe_ix ix_list (pv 0) pe_int (fun _ _ => rfl)) (pv 1)) (pg_sub (pv 0) pe_int set_list)) (pss_one (ps_ret (pv 3))))) pss_nil) (pss_cons (ps_asg (pe_op op_add (pe_ix ix_list (pv 0) pe_int (fun _ _ => rfl)) pe_int) (pg_sub (pv 0) pe_int set_list)) (pss_cons (ps_set (i := 4) sc_law_draw.nd rfl (Or.inl rfl) (pe_op op_mod (pe_callTy b_int1 (by rfl) T.n_int bt_int (pa_cons (pe_op op_mul (pe_callTy b_int1 (by rfl) T.n_int bt_int (pa_cons (pe_op op_add (pe_ix ix_list (pv 0) pe_int (fun _ _ => rfl)) (pe_op op_mul pe_int (pe_ix ix_list (pv 0) pe_int (fun _ _ => rfl)))) pa_nil)) pe_int) pa_nil)) pe_int)) (pss_cons (ps_set (i := 4) sc_law_draw.nd rfl (Or.inl rfl) (pe_op op_mod (pe_callTy b_int1 (by rfl) T.n_int bt_int (pa_cons (pe_op op_mul (pv 4) (pe_op op_add (pe_op op_fdiv (pv 4) pe_int) pe_int)) pa_nil)) pe_int)) (pss_cons (ps_set (i := 4) sc_law_draw.nd rfl (Or.inl rfl) (pe_op op_mod (pe_callTy b_int1 (by rfl) T.n_int bt_int (pa_cons (pe_op op_mul (pv 4) (pe_op op_add (pe_op op_fdiv (pv 4) pe_int) pe_int)) pa_nil)) pe_int)) (pss_one (ps_ret (pe_op op_mod (pe_callTy b_int1 (by rfl) T.n_int bt_int (pa_cons (pe_op op_fdiv (pv 4) pe_int) pa_nil)) (pv 1)))))))))), ?_⟩
  have h0 : (start N_law_draw [V.ref p, V.int (m : Nat)])[0]? = some (some (.ref p)) := rfl
  let Φ : L2.St → Hp → Prop := fun σ' H1 => (σ'[0]? = some (some (.ref p)) ∧ σ'[1]? = some (some (.int (m : Nat))) ∧ σ'.length = 5) ∧ Rel (some (p, q)) H H1 ∧ HandAt H1 p q
  refine cut1 Φ (fun U hU => ?_) fun σ' H1 ⟨⟨s0, s1, sl⟩, rel, ⟨a, b, c, d, hp, a0, b0, c0, d0, c1⟩, ns, hq, hz⟩ => ?_
  · have nq : q ≠ p := fun z => by
      subst z
      rw [hq] at hp
      have z2 := congrArg (fun o : Option HO => match o with | some (.lst (V.ref _ :: _)) => true | _ => false) hp
      cases ns <;> cases z2
    have stay : U (start N_law_draw [V.ref p, V.int (m : Nat)]) H := hU _ _ ⟨⟨rfl, rfl, rfl⟩, .refl, ⟨a, b, c, d, hp, a0, b0, c0, d0, c1⟩, ns, hq, hz⟩
    refine iv_hand h0 hp rfl _ ⟨rfl, _, rfl, ?_⟩
    by_cases hb : b = 0
    · rw [decide_eq_true (show V.int b = V.int 0 by rw [hb])]
      have ivl : IV (tCB (rLen K) (tCons (tOp (rIxL K) (tVar 0) (tC (.int 0))) tNil)) (start N_law_draw [V.ref p, V.int (m : Nat)]) H ((ns.length : Nat) : Int) := fun Q k => ⟨_, h0, p, _, 0, _, rfl, rfl, SqL.of hp, rfl, .ref q, ns.length, rfl, .inl ⟨ns.map V.int, SqL.of hq, by rw [List.length_map]⟩, k⟩
      refine iteT (iv_B (iv_hand h0 hp rfl) ivl ?_)
      by_cases ha : a < ((ns.length : Nat) : Int)
      · rw [decide_eq_true ha]
        refine iteT ?_
        obtain ⟨an, ean⟩ : ∃ an : Nat, a = (an : Nat) := ⟨a.toNat, by omega⟩
        have hlt : an < ns.length := by omega
        have ivc : IV (tOp (rIxL K) (tOp (rIxL K) (tVar 0) (tC (.int 0))) (tOp (rIxL K) (tVar 0) (tC (.int 1)))) (start N_law_draw [V.ref p, V.int (m : Nat)]) H ns[an] := fun Q k => ⟨_, h0, p, _, 0, _, rfl, rfl, SqL.of hp, rfl, iv_hand h0 hp rfl _ ⟨q, ns.map V.int, a, _, rfl, rfl, SqL.of hq, by rw [ean, atI_nat, List.getElem?_map, List.getElem?_eq_getElem hlt]; rfl, k⟩⟩
        refine iv_set ivc ?_
        generalize ns[an] = cell
        have h0' : ((start N_law_draw [V.ref p, V.int (m : Nat)]).set 2 (some (.int cell)))[0]? = some (some (.ref p)) := rfl
        have h2' : ((start N_law_draw [V.ref p, V.int (m : Nat)]).set 2 (some (.int cell)))[2]? = some (some (.int cell)) := rfl
        have at3 : ∀ (a b c d : Int), 0 ≤ a → 0 ≤ b → 0 ≤ c → 0 ≤ d → c < 2147483648 → U ((start N_law_draw [V.ref p, V.int (m : Nat)]).set 2 (some (.int cell))) (upd H p (.lst [.ref q, .int a, .int b, .int c, .int d])) := fun a b c d a0 b0 c0 d0 c1 =>
          hU _ _ ⟨⟨rfl, rfl, rfl⟩, (fun b o hb e => by rw [upd_ne (hb p q rfl)]; exact e), ⟨⟨a, b, c, d, upd_same, a0, b0, c0, d0, c1⟩, ns, by rw [upd_ne nq]; exact hq, hz⟩⟩
        generalize (start N_law_draw [V.ref p, V.int (m : Nat)]).set 2 (some (.int cell)) = τ at h0' h2' at3 ⊢
        refine iv_put h0' hp rfl (iv_I0 (iv_hand h0' hp rfl) iv_c) ?_
        have hp2 : (upd H p (.lst [.ref q, .int (a + 1), .int b, .int c, .int d])) p = some (.lst [.ref q, .int (a + 1), .int b, .int c, .int d]) := upd_same
        refine iv_put h0' hp2 rfl (iv_I (iv_int (iv_I0 (iv_I0 (iv_I (iv_hand h0' hp2 rfl) iv_c (.inr ⟨by decide, by decide⟩)) (iv_I (iv_var h2') iv_c (.inr ⟨by decide, by decide⟩))) iv_c)) iv_c (by decide)) ?_
        generalize hx : _ % (2147483629 : Int) = x
        have x0 : 0 ≤ x := by rw [← hx]; exact Int.emod_nonneg _ (by decide)
        have x1 : x < 2147483629 := by rw [← hx]; exact Int.emod_lt_of_pos _ (by decide)
        clear hx
        rw [upd_upd]
        have hp3 : (upd H p (.lst [.ref q, .int (a + 1), .int b, .int x, .int d])) p = some (.lst [.ref q, .int (a + 1), .int b, .int x, .int d]) := upd_same
        refine iv_B (iv_var h2') (iv_I iv_c iv_c ⟨by decide, by decide, by decide⟩) ?_
        by_cases hc18 : (10 : Int) ^ (18 : Int).toNat ≤ cell
        · rw [decide_eq_true hc18]
          refine iteT (iv_put h0' hp3 rfl (iv_var h2') ?_)
          rw [upd_upd]
          exact at3 (a + 1) cell x d (by omega) (Int.le_trans (by decide) hc18) x0 d0 (by omega)
        · rw [decide_eq_false hc18]
          exact iteF (at3 (a + 1) b x d (by omega) b0 x0 d0 (by omega))
      · rw [decide_eq_false ha]
        exact iteF stay
    · rw [decide_eq_false (show ¬ V.int b = V.int 0 from fun z => hb (by injection z))]
      exact iteF (iteF stay)
  · have mp : (0 : Int) < (m : Int) := by have : 1 ≤ m := m1; omega
    have mb : (m : Int) < 1073741824 := by have : m < 1073741824 := m2; omega
    have fin : ∀ (H2 : Hp) (x : Int), Rel (some (p, q)) H H2 → HandAt H2 p q → Q (.int (x % (m : Int))) H2 := fun H2 x r hh => by
      have e1 := Int.emod_nonneg x (show (m : Int) ≠ 0 by omega)
      have e2 := Int.emod_lt_of_pos x mp
      have e3 : x % (m : Int) = ((x % (m : Int)).toNat : Nat) := by omega
      exact k _ H2 (.dat (natD (x % (m : Int)).toNat)) r hh (by rw [e3]; exact DT.int _) (fun z => by cases z) ⟨_, rfl, by show (x % (m : Int)).toNat < m; omega⟩
    have putR : ∀ (l : List V), Rel (some (p, q)) H (upd H1 p (.lst l)) := fun l b o hb e => by
      rw [upd_ne (hb p q rfl)]
      exact rel b o hb e
    have nq : q ≠ p := fun z => by
      subst z
      rw [hq] at hp
      have z2 := congrArg (fun o : Option HO => match o with | some (.lst (V.ref _ :: _)) => true | _ => false) hp
      cases ns <;> cases z2
    have at2 : ∀ (a b c d : Int), 0 ≤ a → 0 ≤ b → 0 ≤ c → 0 ≤ d → c < 2147483648 → HandAt (upd H1 p (.lst [.ref q, .int a, .int b, .int c, .int d])) p q := fun a b c d a0 b0 c0 d0 c1 => ⟨⟨a, b, c, d, upd_same, a0, b0, c0, d0, c1⟩, ns, by rw [upd_ne nq]; exact hq, hz⟩
    refine iv_B (iv_hand s0 hp rfl) iv_c ?_
    by_cases hb : 0 < b
    · rw [decide_eq_true hb]
      refine iteT (iv_set (iv_I (iv_int (iv_hand s0 hp rfl)) (iv_var s1) mp) ?_)
      refine iv_put (by rw [List.getElem?_set_ne (by decide)]; exact s0) hp rfl (iv_I (iv_hand (by rw [List.getElem?_set_ne (by decide)]; exact s0) hp rfl) (iv_var (by rw [List.getElem?_set_ne (by decide)]; exact s1)) ⟨mp, mb⟩) ?_
      refine ⟨.int (b % (m : Int)), by rw [List.getElem?_set, if_pos rfl, if_pos (by omega)], fin _ b (putR _) (at2 a (b / (m : Int)) c d a0 (Int.ediv_nonneg b0 (by omega)) c0 d0 c1)⟩
    · rw [decide_eq_false hb]
      refine iteF ?_
      have hH2 := at2 a b c (d + 1) a0 b0 c0 (by omega) c1
      have rel2 := putR [.ref q, .int a, .int b, .int c, .int (d + 1)]
      have hp2 : (upd H1 p (.lst [.ref q, .int a, .int b, .int c, .int (d + 1)])) p = some (.lst [.ref q, .int a, .int b, .int c, .int (d + 1)]) := upd_same
      refine iv_put s0 hp rfl (iv_I0 (iv_hand s0 hp rfl) iv_c) ?_
      show tSeq _ _ _ σ' (upd H1 p (.lst [.ref q, .int a, .int b, .int c, .int (d + 1)]))
      generalize upd H1 p (.lst [.ref q, .int a, .int b, .int c, .int (d + 1)]) = H2 at hH2 rel2 hp2
      have g4 : ∀ (τ : L2.St) (x : Int), τ.length = 5 → (τ.set 4 (some (V.int x)))[4]? = some (some (V.int x)) := fun τ x hl => by rw [List.getElem?_set, if_pos rfl, if_pos (by omega)]
      refine iv_set (iv_I (iv_int (iv_I (iv_int (iv_I0 (iv_hand s0 hp2 rfl) (iv_I iv_c (iv_hand s0 hp2 rfl) (.inl ⟨by decide, by decide⟩)))) iv_c (.inr ⟨by decide, by decide⟩))) iv_c (by decide)) ?_
      generalize hx : _ % (2147483647 : Int) = x1
      have x10 : 0 ≤ x1 := by rw [← hx]; exact Int.emod_nonneg _ (by decide)
      have x11 : x1 < 2147483647 := by rw [← hx]; exact Int.emod_lt_of_pos _ (by decide)
      clear hx
      refine iv_set (iv_I (iv_int (iv_I (iv_var (g4 σ' x1 sl)) (iv_I0 (iv_I (iv_var (g4 σ' x1 sl)) iv_c ⟨by decide, by decide⟩) iv_c) (.inl ⟨by omega, by omega⟩))) iv_c (by decide)) ?_
      generalize hx : _ % (2147483647 : Int) = x2
      have x20 : 0 ≤ x2 := by rw [← hx]; exact Int.emod_nonneg _ (by decide)
      have x21 : x2 < 2147483647 := by rw [← hx]; exact Int.emod_lt_of_pos _ (by decide)
      clear hx
      rw [List.set_set]
      refine iv_set (iv_I (iv_int (iv_I (iv_var (g4 σ' x2 sl)) (iv_I0 (iv_I (iv_var (g4 σ' x2 sl)) iv_c ⟨by decide, by decide⟩) iv_c) (.inl ⟨by omega, by omega⟩))) iv_c (by decide)) ?_
      rw [List.set_set]
      generalize _ % (2147483399 : Int) = x3
      exact iv_I (iv_int (iv_I (iv_var (g4 σ' x3 sl)) iv_c ⟨by decide, by decide⟩)) (iv_var (by rw [List.getElem?_set_ne (by decide)]; exact s1)) mp _ (fin _ _ rel2 hH2)
end
end K32
/-! Walks: the law's small defs. -/
namespace K32
open PySem PySem.Spec PyProof.Rows L2 TL
local macro_rules | `(tactic| walk_at "ev") => `(tactic| first
  | exact evs_var rfl | exact evs_own rfl | exact evs_int | exact evs_str | exact evs_bl | exact evs_non
  | exact eva_nil | (apply eva_c <;> walk_at "ev")
  | exact evs_isi (evs_var rfl) rfl kit_int_int | exact evs_isi (evs_var rfl) rfl kit_int_bool | exact evs_isi (evs_var rfl) rfl kit_tuple_tuple | exact evs_isi (evs_var rfl) rfl kit_str_str
  | exact evs_ixT (evs_var rfl) evs_int rfl
  | (apply evs_I0 <;> walk_at "ev") | (apply evs_B0 <;> walk_at "ev")
  | (apply evs_andV <;> walk_at "ev") | (apply evs_orV <;> walk_at "ev") | (apply evs_notV; walk_at "ev")
  | (apply evs_chain <;> walk_at "ev")
  | (apply evs_neg; walk_at "ev")
  | (apply evt_test; walk_at "ev") | (apply evt_B; walk_at "ev") | (apply evt_not; walk_at "ev")
  | (apply evt_and1 <;> walk_at "ev") | (apply evt_or1 <;> walk_at "ev")
  | (intro _; walk_at "ev"))
local macro_rules | `(tactic| walk_at "ret") => `(tactic| (apply sx_ret; walk_at "ev"))
section
variable {P : Program} {w : World} {K : PySem.W.Frag} {mg : Str → Option Value} {base : Heap}
abbrev N_law_dash : List Str := ["_law_thing"]
theorem sc_law_dash : FnScope N_law_dash ["_law_thing"] (defScope (top 138)) := ⟨rfl, rfl, rfl, by decide +kernel, rfl, by decide +kernel, by decide +kernel⟩
theorem c_law_dash (T : TX K mg) : C8.Cal P w K mg base 1 "_law_dash" (spS K (fun o : Option Nat => [.dat (optD o)]) (fun o => ∀ x, o = some x → x < 10 ^ 20) (fun o => Is (.str (wordD (optW o))))) [] := by
  refine cal_of T.d_law_dash (fun F => F.bindsN (ps := ["_law_thing"]) fun _ _ _ _ _ _ us hl => match us, hl with | [_], _ => rfl) fun F => fnS F sc_law_dash (fun _ => rfl) (by intro a s hs ds z; subst z; simp at hs) fun cdv A outer s H E a hr ha => ?_
  refine ⟨_, (pss_one (ps_ret (pe_ifExp (pt_cmpR o_isN (pv 0) pe_non (nomark _)) pe_str (pe_callTy b_str (by rfl) T.n_str bt_str (pa_cons (pv 0) pa_nil))))), ?_⟩
  cases a with
  | none => exact sx_ret (evs_ifT (evt_test (evs_isN (s := .dat .none) (evs_var rfl))) evs_str) rfl
  | some n => exact sx_ret (evs_ifF (evt_test (evs_isN (s := .dat (natD n)) (evs_var rfl))) (evs_str1 (d := natD n) (evs_var rfl) (okw_nat (ha n rfl)).1)) rfl
abbrev N_law_closed : List Str := ["_law_lines", "_law_line"]
theorem sc_law_closed : FnScope N_law_closed ["_law_lines"] (defScope (top 136)) := ⟨rfl, rfl, rfl, by decide +kernel, rfl, by decide +kernel, by decide +kernel⟩
theorem c_law_closed (T : TX K mg) : C8.Cal P w K mg base 1 "_law_closed" (spS K (fun rows : List Str => [.lst (rows.map PyData.str)]) (fun rows => rows.length ≤ 400 ∧ ∀ r ∈ rows, r.length ≤ 3100) (fun rows => Is (.str (closedS rows)))) [] := by
  refine cal_of T.d_law_closed (fun F => F.bindsN (ps := ["_law_lines"]) fun _ _ _ _ _ _ us hl => match us, hl with | [_], _ => rfl) fun F => fnS F sc_law_closed (fun _ => rfl) (by intro a s hs ds z; subst z; simp at hs) fun cdv A outer s H E a hr ha => ?_
  refine ⟨_, (pss_one (ps_ret (pe_jn pe_str (pe_lc (own := [("_law_line", 1)]) (g := gName 1) (by rfl) sc_law_closed.nd (pi_list (pv 0)) (blkOk_by (own := [("_law_line", 1)]) (N := N_law_closed) (sc := defScope (top 136)) (by decide +kernel)) (fun _ _ _ _ _ => (pg_name (i := 1) sc_law_closed.nd rfl (Or.inl rfl))) (fun _ _ _ _ _ => pts_nil) (fun _ _ _ _ _ => (pe_op o_addS (pv 1) pe_str)))))), ?_⟩
  have n1 : NLs.length = 1 := by decide +kernel
  have e1 : (a.map (· ++ NLs)).map PyData.str = a.map fun r => PyData.str (r ++ NLs) := by rw [List.map_map]; rfl
  refine sx_ret (evs_join (x := "") (ys := a.map (· ++ NLs)) evs_str (EvL.evs1 (by rw [e1]; exact evl_mapL (L := a) (F := PyData.str) (evi_lst rfl) (by omega) fun γ r hr => evs_addS (x := r) (y := NLs) (evs_var rfl) evs_str (by have := ha.2 r hr; omega))) ?_) rfl
  have : ((a.map (· ++ NLs)).map (·.length)).sum ≤ 3101 * (a.map (· ++ NLs)).length := by
    have := sum_le (l := (a.map (· ++ NLs)).map (·.length)) (k := 3101) fun x hx => by
      obtain ⟨y, hy, rfl⟩ := List.mem_map.mp hx
      obtain ⟨r, hr, rfl⟩ := List.mem_map.mp hy
      show (r ++ NLs).length ≤ _
      rw [len_tl, tl_append, List.length_append, ← len_tl, ← len_tl, n1]
      have := ha.2 r hr
      omega
    rwa [List.length_map (as := a.map (· ++ NLs))] at this
  rw [show ("" : Str).length = 0 by decide +kernel]
  rw [List.length_map] at this ⊢
  have := ha.1
  omega
end
end K32
/-! Walks: the law's scripts. -/
namespace K32
open PySem PySem.Spec PyProof.Rows L2 TL
local macro_rules | `(tactic| walk_at "ev") => `(tactic| first
  | exact evs_var rfl | exact evs_own rfl | exact evs_int | exact evs_str | exact evs_bl | exact evs_non
  | exact eva_nil | (apply eva_c <;> walk_at "ev")
  | exact evs_isi (evs_var rfl) rfl kit_int_int | exact evs_isi (evs_var rfl) rfl kit_int_bool | exact evs_isi (evs_var rfl) rfl kit_tuple_tuple | exact evs_isi (evs_var rfl) rfl kit_str_str
  | exact evs_ixT (evs_var rfl) evs_int rfl
  | (apply evs_I0 <;> walk_at "ev") | (apply evs_B0 <;> walk_at "ev")
  | (apply evs_andV <;> walk_at "ev") | (apply evs_orV <;> walk_at "ev") | (apply evs_notV; walk_at "ev")
  | (apply evs_chain <;> walk_at "ev")
  | (apply evs_neg; walk_at "ev")
  | (apply evt_test; walk_at "ev") | (apply evt_B; walk_at "ev") | (apply evt_not; walk_at "ev")
  | (apply evt_and1 <;> walk_at "ev") | (apply evt_or1 <;> walk_at "ev")
  | (intro _; walk_at "ev"))
local macro_rules | `(tactic| walk_at "ret") => `(tactic| (apply sx_ret; walk_at "ev"))
theorem evs_draw {B : Bx} {δ : Dn} {p q i : Nat} {te : TE} {E : XK} {m : Nat} (hb : B.hd = some (p, q)) (hi : δ[i]? = some (some (.val (.ref p)))) (h : EvS B te δ (Is (natD m))) (h1 : 1 ≤ m) (h2 : m < 1073741824) :
    EvS B (tCall (spDraw B.K) [] E (tCons (tVar i) (tCons te tNil))) δ (fun s => ∃ d : Nat, s = .dat (natD d) ∧ d < m) := evs_callH hb hi (eva_c h eva_nil) fun ss e => ⟨m, e, ⟨h1, h2⟩, fun s q => q⟩
section
variable {P : Program} {w : World} {K : PySem.W.Frag} {mg : Str → Option Value} {base : Heap}
abbrev N_law_scripts : List Str := ["_law_hand_here", "_law_many", "_law_most", "_law_found", "_law_one", "_law_deeds", "_law_turn"]
theorem sc_law_scripts : FnScope N_law_scripts ["_law_hand_here", "_law_many", "_law_most"] (defScope (top 133)) := ⟨rfl, rfl, rfl, by decide +kernel, rfl, by decide +kernel, by decide +kernel⟩
def scrsD (ss : List (List Deed)) : PyData := .tuple (ss.map scrD)
theorem c_law_scripts (T : TX K mg) : C8.Cal P w K mg base 2 "_law_scripts" (spH K (fun x : Nat × Nat => [.dat (natD x.1), .dat (natD x.2)]) (fun x => x.1 ≤ 5 ∧ x.2 ≤ 6) (fun x s => ∃ ss : List (List Deed), s = .dat (scrsD ss) ∧ ss.length = x.1 ∧ ∀ l ∈ ss, scrOk l)) [] := by
  refine cal_of T.d_law_scripts (fun F => F.bindsN (ps := ["_law_hand_here", "_law_many", "_law_most"]) fun _ _ _ _ _ _ us hl => match us, hl with | [_, _, _], _ => rfl) fun F => fnH F sc_law_scripts (fun _ => rfl) (by intro a s hs ds z; subst z; simp at hs) fun cdv A outer s H E a p q hr ha => ?_
  refine ⟨_, (pss_cons (ps_set (i := 3) sc_law_scripts.nd rfl (Or.inl rfl) (pe_lst pa_nil)) (pss_cons (ps_for PassesOwn.never rfl (pi_range1 (by rfl) T.n_range (pa_cons (pv 1) pa_nil)) (pg_name (i := 4) sc_law_scripts.nd rfl (Or.inl rfl)) (pss_cons (ps_set (i := 5) sc_law_scripts.nd rfl (Or.inl rfl) (pe_lst pa_nil)) (pss_cons (ps_for PassesOwn.never rfl (pi_range1 (by rfl) T.n_range (pa_cons (C8.pe_c (c_law_draw T) hr (by decide) rfl (pa_cons (pv 0) (pa_cons (pe_op op_add (pv 2) pe_int) pa_nil))) pa_nil)) (pg_name (i := 6) sc_law_scripts.nd rfl (Or.inl rfl)) (pss_one (ps_if (pt_cmpR op_eq (C8.pe_c (c_law_draw T) hr (by decide) rfl (pa_cons (pv 0) (pa_cons pe_int pa_nil))) pe_int (nomark _)) (pss_one (ps_expr (pe_app (pv 5) (pe_tup (pa_cons pe_str pa_nil))))) (pss_one (ps_expr (pe_app (pv 5) (pe_tup (pa_cons pe_str (pa_cons (pe_ix ix_list (pe_lst (pa_cons pe_int (pa_cons pe_int (pa_cons pe_int (pa_cons pe_int (pa_cons pe_int pa_nil)))))) (C8.pe_c (c_law_draw T) hr (by decide) rfl (pa_cons (pv 0) (pa_cons pe_int pa_nil))) (fun _ _ => rfl)) pa_nil))))))))) (pss_one (ps_expr (pe_app (pv 3) (pe_callTy b_tupO (by rfl) T.n_tuple bt_tuple (pa_cons (pv 5) pa_nil)))))))) (pss_one (ps_ret (pe_callTy b_tupO (by rfl) T.n_tuple bt_tuple (pa_cons (pv 3) pa_nil)))))), ?_⟩
  obtain ⟨many, most⟩ := a
  obtain ⟨h1, h2⟩ := ha
  have h1 : many ≤ 5 := h1
  have h2 : most ≤ 6 := h2
  let I : Nat → Dn → Prop := fun k δ => ∃ (ss : List (List Deed)) (x y z : Option Sv), δ = [some (.val (.ref p)), some (.dat (natD many)), some (.dat (natD most)), some (.own (ss.map scrD)), x, y, z] ∧ ss.length = k ∧ ∀ l ∈ ss, scrOk l
  refine q_asgL1 (evl_lst (ds := []) eva_nil) ?_
  refine sx_seq (G := I many) (sx_for (evi_rng1 (P := (· = (many : Int))) ((eva_c (evs_var rfl) eva_nil).imp fun ss e => ⟨(many : Int), e, rfl, by omega, by omega⟩)) fun n put q => ?_) fun δ' q => ?_
  · obtain ⟨j, ej, en, ep⟩ := q
    have en' : n = many := by rw [en, show j = (many : Int) from ej]; omega
    subst en' ep
    refine ⟨I, ⟨[], none, none, none, rfl, rfl, fun l hl => (nomatch hl)⟩, fun γ k δ' hk q2 => ?_, fun δ' q2 => q2⟩
    obtain ⟨ss, x, y, z, e, hl, ho⟩ := q2
    subst e
    refine q_asgL1 (ds := []) (evl_lst (ds := []) eva_nil) ?_
    let J : Nat → Dn → Prop := fun k δ => ∃ (s : List Deed) (x z : Option Sv), δ = [some (.val (.ref p)), some (.dat (natD n)), some (.dat (natD most)), some (.own (ss.map scrD)), x, some (.own (s.map Deed.d)), z] ∧ s.length = k ∧ ∀ d ∈ s, d.ok
    refine sx_seq (G := fun δ => ∃ k, k ≤ 6 ∧ J k δ) (sx_for (evi_rng1 (P := fun i => 0 ≤ i ∧ i ≤ 6) ((eva_cons (evs_draw (p := p) (q := q) (m := most + 1) rfl rfl (evs_I0 (i := (most : Int)) (j := 1) (evs_var rfl) evs_int) (by omega) (by omega)) eva_nil).imp fun ss ⟨s, r, e1, ⟨d, e2, hd⟩, e3⟩ => ⟨(d : Int), by rw [e1, e2, e3]; rfl, ⟨by omega, by omega⟩, by omega, by omega⟩)) fun n2 put2 q => ?_) fun δ' q => ?_
    · obtain ⟨j2, ⟨g1, g2⟩, en2, ep2⟩ := q
      subst ep2
      have hn2 : n2 ≤ 6 := by omega
      refine ⟨J, ⟨[], _, _, rfl, rfl, fun d hd => (nomatch hd)⟩, fun γ2 k2 δ2 hk2 q2 => ?_, fun δ2 q2 => ⟨n2, hn2, q2⟩⟩
      obtain ⟨s, x2, z2, e, hl2, ho2⟩ := q2
      subst e
      refine sx_if (P := fun _ => True) (evt_testP (evs_op (S := fun s => ∃ b, s = .dat (.bool b) ∧ True) (evs_draw (p := p) (q := q) (m := 2) rfl rfl evs_int (by decide) (by decide)) (evs_int (i := 0)) fun s u ⟨d, e1, _⟩ e2 => by
        subst e1 e2
        exact fun H v w hh o1 o2 Q k => by
          cases DT.int_inv o1; cases DT.int_inv o2
          exact ⟨rfl, k.dat .refl hh (DT.bl _) ⟨_, rfl, trivial⟩⟩)) (fun _ => ?_) fun _ => ?_
      · exact sx_app1 (i := 5) (d := Deed.d .see) rfl (evs_tup (ds := [.str "see"]) (eva_c evs_str eva_nil)) (by rw [List.length_map]; omega) ⟨s ++ [.see], _, _, by rw [List.map_append]; rfl, by rw [List.length_append, hl2]; rfl, fun d hd => by
          rcases List.mem_append.mp hd with h3 | h3
          · exact ho2 d h3
          · rw [List.mem_singleton.mp h3]; trivial⟩
      · refine sx_app (i := 5) (P := fun d => ∃ v : Nat, d = Deed.d (.put v) ∧ v < 1000) rfl ((evs_tupP (P := fun ds => ∃ v : Nat, ds = [.str "put", natD v] ∧ v < 1000) ((eva_cons (P := Is (.str "put")) evs_str (eva_cons (evs_ixLP (ds := [natD 5, natD 5, natD 6, natD 0, natD 999]) (P := fun d => ∃ v : Nat, d = natD v ∧ v < 1000) (EvL.evs1 (evl_lst (ds := [natD 5, natD 5, natD 6, natD 0, natD 999]) (eva_c evs_int (eva_c evs_int (eva_c evs_int (eva_c evs_int (eva_c evs_int eva_nil))))))) ((evs_draw (p := p) (q := q) (m := 5) rfl rfl evs_int (by decide) (by decide)).imp fun s ⟨d, e, hd⟩ => ⟨(d : Int), e, Int.natCast_nonneg _, by show (d : Int) < 5; omega⟩) fun d hd => ?_) eva_nil)).imp fun ss ⟨s, r, e1, e2, s2, r2, e3, ⟨d, e4, v, e5, hv⟩, e6⟩ => ⟨[.str "put", natD v], by rw [e1, e2, e3, e4, e5, e6]; rfl, (show 2 ≤ 1000 by decide), v, rfl, hv⟩)).imp fun s ⟨ds, e, v, e2, hv⟩ => ⟨_, e, v, by rw [e2]; rfl, hv⟩) (by rw [List.length_map]; omega) fun d ⟨v, e, hv⟩ => ?_
        · simp only [List.mem_cons, List.not_mem_nil, or_false] at hd
          rcases hd with rfl | rfl | rfl | rfl | rfl
          · exact ⟨5, rfl, by decide⟩
          · exact ⟨5, rfl, by decide⟩
          · exact ⟨6, rfl, by decide⟩
          · exact ⟨0, rfl, by decide⟩
          · exact ⟨999, rfl, by decide⟩
        · subst e
          exact ⟨s ++ [.put v], _, _, by rw [List.map_append]; rfl, by rw [List.length_append, hl2]; rfl, fun d hd => by
            rcases List.mem_append.mp hd with h3 | h3
            · exact ho2 d h3
            · rw [List.mem_singleton.mp h3]; exact hv⟩
    · obtain ⟨k2, hk2, s, x2, z2, e, hl2, ho2⟩ := q
      subst e
      refine sx_app1 (i := 3) (d := scrD s) rfl (evs_tupleL1 (evs_own rfl)) (by rw [List.length_map]; omega) ⟨ss ++ [s], _, _, _, by rw [List.map_append]; rfl, by rw [List.length_append, hl]; rfl, fun l hl3 => ?_⟩
      rcases List.mem_append.mp hl3 with h3 | h3
      · exact ho l h3
      · rw [List.mem_singleton.mp h3]; exact ⟨by omega, ho2⟩
  · obtain ⟨ss, x, y, z, e, hl, ho⟩ := q
    subst e
    exact sx_ret (evs_tupleL1 (evs_own rfl)) ⟨ss, rfl, hl, ho⟩
end
end K32
/-! Walks: words that are read. -/
namespace K32
open PySem PySem.Spec PyProof.Rows L2 TL
local macro_rules | `(tactic| walk_at "ev") => `(tactic| first
  | exact evs_var rfl | exact evs_own rfl | exact evs_int | exact evs_str | exact evs_bl | exact evs_non
  | exact eva_nil | (apply eva_c <;> walk_at "ev")
  | exact evs_isi (evs_var rfl) rfl kit_int_int | exact evs_isi (evs_var rfl) rfl kit_int_bool | exact evs_isi (evs_var rfl) rfl kit_tuple_tuple | exact evs_isi (evs_var rfl) rfl kit_str_str
  | exact evs_ixT (evs_var rfl) evs_int rfl
  | (apply evs_I0 <;> walk_at "ev") | (apply evs_B0 <;> walk_at "ev")
  | (apply evs_andV <;> walk_at "ev") | (apply evs_orV <;> walk_at "ev") | (apply evs_notV; walk_at "ev")
  | (apply evs_chain <;> walk_at "ev")
  | (apply evs_neg; walk_at "ev")
  | (apply evt_test; walk_at "ev") | (apply evt_B; walk_at "ev") | (apply evt_not; walk_at "ev")
  | (apply evt_and1 <;> walk_at "ev") | (apply evt_or1 <;> walk_at "ev")
  | (intro _; walk_at "ev"))
local macro_rules | `(tactic| walk_at "ret") => `(tactic| (apply sx_ret; walk_at "ev"))
def FIG : Str := "0123456789"
theorem tl_FIG : tl FIG = [48, 49, 50, 51, 52, 53, 54, 55, 56, 57] := by decide +kernel
theorem in_FIG {c : Nat} (h : 48 ≤ c ∧ c ≤ 57) : decide (c ∈ FIG.cps.toList) = true := by
  refine decide_eq_true ?_
  show c ∈ tl FIG
  rw [tl_FIG]
  obtain ⟨h1, h2⟩ := h
  have : c = 48 ∨ c = 49 ∨ c = 50 ∨ c = 51 ∨ c = 52 ∨ c = 53 ∨ c = 54 ∨ c = 55 ∨ c = 56 ∨ c = 57 := by omega
  simp only [List.mem_cons, List.not_mem_nil, or_false]
  exact this
section
variable {P : Program} {w : World} {K : PySem.W.Frag} {mg : Str → Option Value} {base : Heap}
abbrev N_number_in : List Str := ["word", "sign"]
theorem sc_number_in : FnScope N_number_in ["word"] (defScope (top 68)) := ⟨rfl, rfl, rfl, by decide +kernel, rfl, by decide +kernel, by decide +kernel⟩
theorem c_number_in (T : TX K mg) : C8.Cal P w K mg base 1 "number_in" (spS K (fun n : Nat => [.dat (.str (num n))]) (fun n => n < 10 ^ 20) (fun n => Is (natD n))) [] := by
  refine cal_of T.d_number_in (fun F => F.bindsN (ps := ["word"]) fun _ _ _ _ _ _ us hl => match us, hl with | [_], _ => rfl) fun F => fnS F sc_number_in (fun _ => rfl) (by intro a s hs ds z; subst z; simp at hs) fun cdv A outer s H E a hr ha => ?_
  refine ⟨_, (pss_cons (ps_if (PW.pt (pw_or (pt_not (pt_chain op_le op_le pe_int (pe_callB b_len (by rfl) T.n_len bt_len (pa_cons (pv 0) pa_nil)) (C8.pe_gc rfl T.c_MOST_FIGURES))) (pw_or1 (pt_not (pt_val (pe_callB (cr_all rfl) (by rfl) T.n_all bt_all (pa_cons (pe_lc (own := [("sign", 1)]) (g := gName 1) (by rfl) sc_number_in.nd (pi_str (pv 0)) (blkOk_by (own := [("sign", 1)]) (N := N_number_in) (sc := defScope (top 68)) (by decide +kernel)) (fun _ _ _ _ _ => (pg_name (i := 1) sc_number_in.nd rfl (Or.inl rfl))) (fun _ _ _ _ _ => pts_nil) (fun _ _ _ _ _ => (pe_cmpR o_inSg (pv 1) (C8.pe_gc rfl T.c_FIGURES) (by rfl)))) pa_nil))))))) (pss_one (ps_ret pe_non)) pss_nil) (pss_one (ps_ret (pe_ifExp (PW.pt (pw_or (pt_cmpR op_eq (pv 0) pe_str (nomark _)) (pw_or1 (pt_cmpR op_ne (pe_ix ix_str (pv 0) pe_int (fun _ _ => rfl)) pe_str (nomark _))))) (pe_callTy b_intS (by rfl) T.n_int bt_int (pa_cons (pv 0) pa_nil)) pe_non)))), ?_⟩
  have h1 := num_pos a
  have h2 := num_len ha
  have hl : ∀ B : Bx, ∀ δ : Dn, δ[0]? = some (some (.dat (.str (num a)))) → EvS B (tCB (rLen B.K) (tCons (tVar 0) tNil)) δ (Is (.int ((num a).length : Nat))) := fun B δ h => evs_len (evs_var h) rfl (by omega)
  refine q_no (evt_orF (evt_notT (evt_test (evs_is (evs_chain (i := 1) (j := ((num a).length : Nat)) (l := 20) evs_int (hl _ _ rfl) fun _ => evs_int) ?_))) (evt_notT (evt_B (evs_allLc (evi_str (evs_var rfl)) fun n put e => ?_)))) ?_
  · rw [decide_eq_true (show (1 : Int) ≤ ((num a).length : Nat) by omega), decide_eq_true (show (((num a).length : Nat) : Int) ≤ 20 by omega)]; rfl
  · obtain ⟨e1, e2⟩ := e
    subst e1 e2
    refine ⟨by omega, fun γ i hi => evs_is (evs_inSg (z := FIG) (evs_var rfl) evs_str) (in_FIG ?_)⟩
    have hi' : i < (tl (num a)).length := by rw [← len_tl]; exact hi
    have hm : (num a).cps.toList.getD i 0 ∈ numL a := by
      have e : (num a).cps.toList.getD i 0 = (tl (num a))[i] := getD_of (List.getElem?_eq_getElem hi')
      rw [e, ← tl_n]
      exact List.getElem_mem hi'
    exact numL_digits a _ hm
  · have hv := num_val ha
    refine sx_ret (evs_ifT ?_ (evs_intS (evs_var rfl) hv (by omega))) rfl
    by_cases h0 : a = 0
    · subst h0
      exact evt_orT (evt_test (evs_isK (x := num 0) (evs_var rfl) (by decide +kernel)))
    · obtain ⟨c, l, e, ne⟩ := numL_head (show 0 < a by omega)
      have n0 : num a ≠ ("0" : Str) := fun q => by
        have z : tl (num a) = [48] := by rw [q]; decide +kernel
        rw [tl_n, e] at z
        injection z with z _
        exact ne z
      have n1 : (⟨#[c]⟩ : Str) ≠ ("0" : Str) := fun q => by
        have z : tl (⟨#[c]⟩ : Str) = [48] := by rw [q]; decide +kernel
        injection z with z _
        exact ne z
      refine evt_orT2 (evt_test (evs_isK (x := num a) (evs_var rfl) (decide_eq_false n0))) (evt_test (evs_neT (d := .str ⟨#[c]⟩) (e := .str "0") (evs_ixS (x := num a) (i := ((0 : Nat) : Int)) (evs_var rfl) evs_int (by omega) ?_) evs_str rfl rfl rfl (str_ne n1)))
      rw [atI_nat]
      show (tl (num a))[0]? = _
      rw [tl_n, e]
      rfl
end
end K32
/-! Walks: words that are read, on. -/
namespace K32
open PySem PySem.Spec PyProof.Rows L2 TL
local macro_rules | `(tactic| walk_at "ev") => `(tactic| first
  | exact evs_var rfl | exact evs_own rfl | exact evs_int | exact evs_str | exact evs_bl | exact evs_non
  | exact eva_nil | (apply eva_c <;> walk_at "ev")
  | exact evs_isi (evs_var rfl) rfl kit_int_int | exact evs_isi (evs_var rfl) rfl kit_int_bool | exact evs_isi (evs_var rfl) rfl kit_tuple_tuple | exact evs_isi (evs_var rfl) rfl kit_str_str
  | exact evs_ixT (evs_var rfl) evs_int rfl
  | (apply evs_I0 <;> walk_at "ev") | (apply evs_B0 <;> walk_at "ev")
  | (apply evs_andV <;> walk_at "ev") | (apply evs_orV <;> walk_at "ev") | (apply evs_notV; walk_at "ev")
  | (apply evs_chain <;> walk_at "ev")
  | (apply evs_neg; walk_at "ev")
  | (apply evt_test; walk_at "ev") | (apply evt_B; walk_at "ev") | (apply evt_not; walk_at "ev")
  | (apply evt_and1 <;> walk_at "ev") | (apply evt_or1 <;> walk_at "ev")
  | (intro _; walk_at "ev"))
local macro_rules | `(tactic| walk_at "ret") => `(tactic| (apply sx_ret; walk_at "ev"))
theorem tl_cut_to (x : Str) (k : Nat) : tl (cutS x none (some (k : Int))) = (tl x).take k := by
  unfold cutS
  rw [tl_mk, HT.sIx_none, HT.sIx_nat, List.drop_zero, Nat.sub_zero]
  show (tl x).take _ = _
  by_cases h : k ≤ x.length
  · rw [Nat.min_eq_left h]
  · rw [Nat.min_eq_right (by omega), List.take_of_length_le (by rw [len_tl]; exact Nat.le_refl _), List.take_of_length_le (by rw [← len_tl]; omega)]
theorem tl_cut_from (x : Str) (k : Nat) : tl (cutS x (some (k : Int)) none) = (tl x).drop k := by
  unfold cutS
  rw [tl_mk, HT.sIx_none, HT.sIx_nat]
  show ((tl x).drop _).take _ = _
  by_cases h : k ≤ x.length
  · rw [Nat.min_eq_left h, List.take_of_length_le (by rw [List.length_drop, ← len_tl]; exact Nat.le_refl _)]
  · rw [Nat.min_eq_right (by omega), List.drop_of_length_le (by rw [len_tl]; exact Nat.le_refl _), List.drop_of_length_le (by rw [← len_tl]; omega), List.take_nil]
section
variable {P : Program} {w : World} {K : PySem.W.Frag} {mg : Str → Option Value} {base : Heap}
abbrev N_integer_in : List Str := ["word", "found"]
theorem sc_integer_in : FnScope N_integer_in ["word"] (defScope (top 69)) := ⟨rfl, rfl, rfl, by decide +kernel, rfl, by decide +kernel, by decide +kernel⟩
theorem c_integer_in (T : TX K mg) : C8.Cal P w K mg base 2 "integer_in" (spS K (fun i : Int => [.dat (.str (wordD (.int i)))]) (fun i => -1000 ≤ i ∧ i ≤ 1000) (fun i => Is (.int i))) [] := by
  refine cal_of T.d_integer_in (fun F => F.bindsN (ps := ["word"]) fun _ _ _ _ _ _ us hl => match us, hl with | [_], _ => rfl) fun F => fnS F sc_integer_in (fun _ => rfl) (by intro a s hs ds z; subst z; simp at hs) fun cdv A outer s H E a hr ha => ?_
  refine ⟨_, (pss_cons (ps_if (pt_cmpR op_ne (pe_slice sl_str (pv 0) po_none (po_some pe_int)) (C8.pe_gc rfl T.c_MINUS) (nomark _)) (pss_one (ps_ret (C8.pe_c (c_number_in T) hr (by decide) rfl (pa_cons (pv 0) pa_nil)))) pss_nil) (pss_cons (ps_set (i := 1) sc_integer_in.nd rfl (Or.inl rfl) (C8.pe_c (c_number_in T) hr (by decide) rfl (pa_cons (pe_slice sl_str (pv 0) (po_some pe_int) po_none) pa_nil))) (pss_one (ps_ret (pe_ifExp (PW.pt (pw_and (pt_cmpR o_notN (pv 1) pe_non (nomark _)) (pw_and1 (pt_cmpR op_gt (pv 1) pe_int (nomark _))))) (pe_un un_neg (pv 1)) pe_non))))), ?_⟩
  have hlen := (wordOk_int ha).2.2
  have m0 : tl ("-" : Str) = [45] := by decide +kernel
  rcases int_word a with ⟨n, e, q⟩ | ⟨n, e, q⟩
  · subst e
    have hn : n < 10 ^ 20 := by omega
    have ne : cutS (num n) none (some ((1 : Nat) : Int)) ≠ ("-" : Str) := fun z => by
      have z2 := congrArg tl z
      rw [tl_cut_to, tl_n, m0] at z2
      have : 45 ∈ numL n := List.mem_of_mem_take (i := 1) (by rw [z2]; exact List.mem_singleton.mpr rfl)
      exact numL_free (.inl (by decide)) this
    exact sx_seq (G := fun _ => False) (sx_yes (evt_test (evs_neT (d := .str (cutS (num n) none (some ((1 : Nat) : Int)))) (e := .str "-") (evs_slS (evs_var rfl) evo_none (evo_some evs_int) (by have := num_len hn; omega)) evs_str rfl rfl rfl (str_ne ne))) (sx_ret (evs_call1 n (eva_c (evs_var rfl) eva_nil) hn) rfl)) fun _ q => q.elim
  · have hn : n + 1 < 10 ^ 20 := by omega
    have e1 : cutS (toString a : Str) none (some ((1 : Nat) : Int)) = ("-" : Str) := ext_tl (by rw [tl_cut_to, q, m0]; rfl)
    have e2 : cutS (toString a : Str) (some ((1 : Nat) : Int)) none = num (n + 1) := ext_tl (by rw [tl_cut_from, q, tl_n]; rfl)
    refine q_no (evt_test (evs_neF (d := .str "-") ((evs_slS (x := (toString a : Str)) (lo := none) (hi := some ((1 : Nat) : Int)) (evs_var rfl) evo_none (evo_some evs_int) (by omega)).imp fun s z => by rw [z, e1]) evs_str rfl rfl)) ?_
    refine q_asg1 (s := .dat (natD (n + 1))) (evs_call1 (n + 1) (eva_c ((evs_slS (x := (toString a : Str)) (lo := some ((1 : Nat) : Int)) (hi := none) (evs_var rfl) (evo_some evs_int) evo_none (by omega)).imp fun s z => by rw [z, e2]) eva_nil) hn) rfl ?_
    refine sx_ret (evs_ifT (evt_andT (evt_test (evs_notN (s := .dat (natD (n + 1))) (evs_var rfl))) (evt_test (evs_is (evs_B0 (i := ((n + 1 : Nat) : Int)) (j := 0) (evs_var rfl) evs_int) (decide_eq_true (by omega))))) (evs_neg (i := ((n + 1 : Nat) : Int)) (evs_var rfl))) ?_
    rw [e]
abbrev N_numbers_in : List Str := ["words", "found", "word"]
theorem sc_numbers_in : FnScope N_numbers_in ["words"] (defScope (top 70)) := ⟨rfl, rfl, rfl, by decide +kernel, rfl, by decide +kernel, by decide +kernel⟩
theorem inD_none : ∀ ns : List Nat, inD .none (ns.map natD) = false := fun ns => by
  induction ns with
  | nil => rfl
  | cons n ns ih => exact ih
theorem c_numbers_in (T : TX K mg) : C8.Cal P w K mg base 2 "numbers_in" (spS K (fun ns : List Nat => [.lst (ns.map fun n => .str (num n))]) (fun ns => ns.length ≤ 100 ∧ ∀ n ∈ ns, n < 10 ^ 20) (fun ns => Is (.tuple (ns.map natD)))) [] := by
  refine cal_of T.d_numbers_in (fun F => F.bindsN (ps := ["words"]) fun _ _ _ _ _ _ us hl => match us, hl with | [_], _ => rfl) fun F => fnS F sc_numbers_in (fun _ => rfl) (by intro a s hs ds z; subst z; simp at hs) fun cdv A outer s H E a hr ha => ?_
  refine ⟨_, (pss_cons (ps_set (i := 1) sc_numbers_in.nd rfl (Or.inl rfl) (pe_callTy b_tupO (by rfl) T.n_tuple bt_tuple (pa_cons (pe_lc (own := [("word", 2)]) (g := gName 2) (by rfl) sc_numbers_in.nd (pi_list (pv 0)) (blkOk_by (own := [("word", 2)]) (N := N_numbers_in) (sc := defScope (top 70)) (by decide +kernel)) (fun _ _ _ _ _ => (pg_name (i := 2) sc_numbers_in.nd rfl (Or.inl rfl))) (fun _ _ _ _ _ => pts_nil) (fun _ _ _ _ _ => (C8.pe_c (c_number_in T) hr (by decide) rfl (pa_cons (pv 2) pa_nil)))) pa_nil))) (pss_one (ps_ret (pe_ifExp (pt_cmpR op_in_seq pe_non (pv 1) (by rfl)) pe_non (pv 1))))), ?_⟩
  obtain ⟨h1, h2⟩ := ha
  refine q_asg1 (s := .dat (.tuple (a.map natD))) (evs_tupleL1 (EvL.evs1 (evl_mapL (L := a) (F := fun n => .str (num n)) (evi_lst rfl) (by omega) fun γ n hn => evs_call1 n (eva_c (evs_var rfl) eva_nil) (h2 n hn)))) rfl ?_
  exact sx_ret (evs_ifF (evt_test (evs_is (evs_in (d := .none) (neg := false) (s := .dat (.tuple (a.map natD))) evs_non (evs_var rfl) rfl rfl (by rw [List.all_eq_true]; intro d hd; obtain ⟨n, _, rfl⟩ := List.mem_map.mp hd; rfl)) (inD_none a))) (evs_var rfl)) rfl
end
end K32
/-! Walks: scripts, inputs, calls that are read. -/
namespace K32
open PySem PySem.Spec PyProof.Rows L2 TL
local macro_rules | `(tactic| walk_at "ev") => `(tactic| first
  | exact evs_var rfl | exact evs_own rfl | exact evs_int | exact evs_str | exact evs_bl | exact evs_non
  | exact eva_nil | (apply eva_c <;> walk_at "ev")
  | exact evs_isi (evs_var rfl) rfl kit_int_int | exact evs_isi (evs_var rfl) rfl kit_int_bool | exact evs_isi (evs_var rfl) rfl kit_tuple_tuple | exact evs_isi (evs_var rfl) rfl kit_str_str
  | exact evs_ixT (evs_var rfl) evs_int rfl
  | (apply evs_I0 <;> walk_at "ev") | (apply evs_B0 <;> walk_at "ev")
  | (apply evs_andV <;> walk_at "ev") | (apply evs_orV <;> walk_at "ev") | (apply evs_notV; walk_at "ev")
  | (apply evs_chain <;> walk_at "ev")
  | (apply evs_neg; walk_at "ev")
  | (apply evt_test; walk_at "ev") | (apply evt_B; walk_at "ev") | (apply evt_not; walk_at "ev")
  | (apply evt_and1 <;> walk_at "ev") | (apply evt_or1 <;> walk_at "ev")
  | (intro _; walk_at "ev"))
local macro_rules | `(tactic| walk_at "ret") => `(tactic| (apply sx_ret; walk_at "ev"))
def strW (d : PyData) : PyData := .str (wordD d)
section
variable {P : Program} {w : World} {K : PySem.W.Frag} {mg : Str → Option Value} {base : Heap}
theorem lenI {B : Bx} {δ : Dn} {i : Nat} {ds : List PyData} (h : δ[i]? = some (some (.own ds))) (hz : ds.length ≤ 16000000) : EvS B (tCB (rLen B.K) (tCons (tVar i) tNil)) δ (Is (.int (ds.length : Nat))) := evs_len (s := .lst ds) (evs_own h) rfl hz
abbrev N_read_script : List Str := ["words", "found", "left", "word", "number"]
theorem sc_read_script : FnScope N_read_script ["words"] (defScope (top 80)) := ⟨rfl, rfl, rfl, by decide +kernel, rfl, by decide +kernel, by decide +kernel⟩
theorem c_read_script (T : TX K mg) : C8.Cal P w K mg base 2 "read_script" (spS K (fun s : List Deed => [.lst ((s.flatMap deedW).map strW)]) scrOk (fun s => Is (scrD s))) [] := by
  refine cal_of T.d_read_script (fun F => F.bindsN (ps := ["words"]) fun _ _ _ _ _ _ us hl => match us, hl with | [_], _ => rfl) fun F => fnS F sc_read_script (fun _ => rfl) (by intro a s hs ds z; subst z; simp at hs) fun cdv A outer s H E a hr ha => ?_
  refine ⟨_, (pss_cons (ps_set (i := 1) sc_read_script.nd rfl (Or.inl rfl) (pe_lst pa_nil)) (pss_cons (ps_set (i := 2) sc_read_script.nd rfl (Or.inl rfl) (pe_callTy b_listO (by rfl) T.n_list bt_list (pa_cons (pv 0) pa_nil))) (pss_cons (ps_while PassesOwn.never (pt_cmpR op_gt (pe_callB b_len (by rfl) T.n_len bt_len (pa_cons (pv 2) pa_nil)) pe_int (nomark _)) (pss_cons (ps_set (i := 3) sc_read_script.nd rfl (Or.inl rfl) (pe_popAt (pv 2) pe_int)) (pss_cons (ps_set (i := 4) sc_read_script.nd rfl (Or.inl rfl) (pe_ifExp (PW.pt (pw_and (pt_cmpR op_eq (pv 3) (C8.pe_gc rfl T.c_PUT_plays) (nomark _)) (pw_and1 (pt_cmpR op_gt (pe_callB b_len (by rfl) T.n_len bt_len (pa_cons (pv 2) pa_nil)) pe_int (nomark _))))) (C8.pe_c (c_number_in T) hr (by decide) rfl (pa_cons (pe_popAt (pv 2) pe_int) pa_nil)) pe_non)) (pss_cons (ps_if (PW.pt (pw_and (pt_cmpR op_ne (pv 3) (C8.pe_gc rfl T.c_SEE) (nomark _)) (pw_and1 (pt_cmpR o_isN (pv 4) pe_non (nomark _))))) (pss_one (ps_ret pe_non)) pss_nil) (pss_one (ps_expr (pe_app (pv 1) (pe_ifExp (pt_cmpR op_eq (pv 3) (C8.pe_gc rfl T.c_SEE) (nomark _)) (pe_tup (pa_cons (C8.pe_gc rfl T.c_SEE) pa_nil)) (pe_tup (pa_cons (C8.pe_gc rfl T.c_PUT_plays) (pa_cons (pv 4) pa_nil))))))))))) (pss_one (ps_ret (pe_callTy b_tupO (by rfl) T.n_tuple bt_tuple (pa_cons (pv 1) pa_nil))))))), ?_⟩
  have hz := ha.1
  have hfl := flat_len a
  refine q_asgL1 (evl_lst (ds := []) eva_nil) ?_
  refine q_asgL1 (evl_list (ds := (a.flatMap deedW).map strW) (evs_var rfl) (.inl rfl)) ?_
  let I : Nat → Dn → Prop := fun m δ => ∃ pre post x y, a = pre ++ post ∧ m = post.length ∧ δ = [some (.lst ((a.flatMap deedW).map strW)), some (.own (pre.map Deed.d)), some (.own ((post.flatMap deedW).map strW)), x, y]
  refine sx_seq (G := I 0) (sx_while I a.length ⟨[], a, none, none, rfl, rfl, rfl⟩ fun m δ' q => ?_) fun δ' q => ?_
  · obtain ⟨pre, post, x, y, el, em, e⟩ := q
    subst em e
    have hp : pre.length + post.length ≤ 6 := by rw [← List.length_append, ← el]; exact hz
    have hfp := flat_len post
    have hl : ((post.flatMap deedW).map strW).length ≤ 16000000 := by rw [List.length_map]; omega
    refine ⟨(· = decide ((((post.flatMap deedW).map strW).length : Int) > 0)), evt_test (evs_B0 (j := 0) (lenI rfl hl) evs_int), fun q => ?_, fun q => ?_⟩
    · cases post with
      | nil => exact absurd q (by decide)
      | cons c post =>
        have okc : c.ok := ha.2 c (by rw [el]; simp)
        have dn : a = (pre ++ [c]) ++ post := by rw [el]; simp
        cases c with
        | see =>
          refine q_pop (i := 2) (d := .str "see") rfl (by decide) ?_
          refine q_asg1 (s := .dat .none) (evs_ifF (evt_andF (evt_test (evs_isK (y := "put") (x := "see") (evs_var rfl) (by decide +kernel)))) evs_non) rfl ?_
          refine q_no (evt_andF (evt_test (evs_neF (d := .str "see") (evs_var rfl) evs_str rfl rfl))) ?_
          refine sx_app1 (i := 1) (d := Deed.d .see) rfl (evs_ifT (evt_test (evs_eqT (d := .str "see") (evs_var rfl) evs_str rfl rfl)) (evs_tup (ds := [.str "see"]) (eva_c evs_str eva_nil))) (by rw [List.length_map]; omega) ⟨post.length, Nat.lt_succ_self _, pre ++ [.see], post, some (.dat (.str "see")), some (.dat .none), dn, rfl, ?_⟩
          rw [List.map_append]
          rfl
        | put v =>
          have hv : v < 1000 := okc
          refine q_pop (i := 2) (d := .str "put") (ds := .str (num v) :: (post.flatMap deedW).map strW) rfl (by decide) ?_
          refine q_popCall (i := 2) (ds := (post.flatMap deedW).map strW) v (e := natD v) rfl (evt_andT (evt_test (evs_eqT (d := .str "put") (evs_var rfl) evs_str rfl rfl)) (evt_test (evs_is (evs_B0 (j := 0) (lenI (ds := .str (num v) :: (post.flatMap deedW).map strW) rfl (by rw [List.length_cons, List.length_map]; have := flat_len post; simp only [List.length_cons] at hp; omega)) evs_int) (decide_eq_true (by rw [List.length_cons]; omega))))) rfl (by omega) (fun s q => q) ?_
          refine q_no (evt_andF2 (evt_test (evs_neT (d := .str "put") (e := .str "see") (evs_var rfl) evs_str rfl rfl rfl (str_ne (by decide +kernel)))) (evt_test (evs_isN (s := .dat (natD v)) (evs_var rfl)))) ?_
          refine sx_app1 (i := 1) (d := Deed.d (.put v)) rfl (evs_ifF (evt_test (evs_isK (y := "see") (x := "put") (evs_var rfl) (by decide +kernel))) (evs_tup (ds := [.str "put", natD v]) (eva_c evs_str (eva_c (evs_var rfl) eva_nil)))) (by rw [List.length_map]; omega) ⟨post.length, Nat.lt_succ_self _, pre ++ [.put v], post, some (.dat (.str "put")), some (.dat (natD v)), dn, rfl, ?_⟩
          rw [List.map_append]
          rfl
    · cases post with
      | nil => exact ⟨pre, [], x, y, el, rfl, rfl⟩
      | cons c post =>
        have q' := of_decide_eq_false q.symm
        cases c <;> (simp [deedW] at q' <;> omega)
  · obtain ⟨pre, post, x, y, el, em, e⟩ := q
    have : post = [] := List.eq_nil_of_length_eq_zero em.symm
    subst this e
    rw [List.append_nil] at el
    subst el
    exact sx_ret (evs_tupleL1 (evs_own rfl)) rfl
/-- the def that reads a single input -/
def Inp.rdr : Inp → Str
  | .near _ _ => "integer_in"
  | _ => "number_in"
def Inp.rdP : Inp → PyData → Prop
  | .near _ _, d => ∃ v : Int, d = .int v ∧ -1000 ≤ v ∧ v ≤ 1000
  | _, d => ∃ n : Nat, d = natD n ∧ n < 10 ^ 20
theorem spS_imp {α β : Type} {arg : α → List Sv} {pre : α → Prop} {res : α → Sv → Prop} {arg' : β → List Sv} {pre' : β → Prop} {res' : β → Sv → Prop} (f : ∀ b, pre' b → ∃ a, arg a = arg' b ∧ pre a ∧ ∀ s, res a s → res' b s) {vs : List V} {H : Hp} {Q : VK} {E : XK} (h : spS K arg' pre' res' vs H Q E) : spS K arg pre res vs H Q E := by
  obtain ⟨b, o, p, k⟩ := h
  obtain ⟨a, e, pa, r⟩ := f b p
  exact ⟨a, by rw [e]; exact o, pa, fun v H' s m o f q => k v H' s m o f (r s q)⟩
theorem rd_at (T : TX K mg) (i : Inp) : C8.CalAt P w K mg base 2 (He.ga K i.rdr) (spS K (fun d : PyData => [.dat (strW d)]) i.rdP (fun d => Is d)) := by
  have n : C8.CalAt P w K mg base 2 (He.ga K "number_in") (spS K (fun d : PyData => [.dat (strW d)]) (fun d => ∃ n : Nat, d = natD n ∧ n < 10 ^ 20) (fun d => Is d)) := by
    obtain ⟨fd, ps, F, r⟩ := (calAt_of T.d_number_in (c_number_in (P := P) (w := w) (base := base) T)).ex
    refine ⟨fd, ps, (F.mono (by decide)).imp fun vs H Q E h => ?_, r⟩
    exact spS_imp (fun d ⟨n, e, hn⟩ => ⟨n, by rw [e]; rfl, hn, fun s q => by rw [q, e]⟩) h
  cases i with
  | near r vs =>
    obtain ⟨fd, ps, F, r⟩ := (calAt_of T.d_integer_in (c_integer_in (P := P) (w := w) (base := base) T)).ex
    refine ⟨fd, ps, (F.mono (by decide)).imp fun vs H Q E h => ?_, r⟩
    exact spS_imp (fun d ⟨v, e, hv⟩ => ⟨v, by rw [e]; rfl, hv, fun s q => by rw [q, e]⟩) h
  | man k ss => exact n
  | lev vs => exact n
  | nam vs => exact n
  | cha vs => exact n
end
end K32
/-! Walks: inputs and calls that are read. -/
namespace K32
open PySem PySem.Spec PyProof.Rows L2 TL
local macro_rules | `(tactic| walk_at "ev") => `(tactic| first
  | exact evs_var rfl | exact evs_own rfl | exact evs_int | exact evs_str | exact evs_bl | exact evs_non
  | exact eva_nil | (apply eva_c <;> walk_at "ev")
  | exact evs_isi (evs_var rfl) rfl kit_int_int | exact evs_isi (evs_var rfl) rfl kit_int_bool | exact evs_isi (evs_var rfl) rfl kit_tuple_tuple | exact evs_isi (evs_var rfl) rfl kit_str_str
  | exact evs_ixT (evs_var rfl) evs_int rfl
  | (apply evs_I0 <;> walk_at "ev") | (apply evs_B0 <;> walk_at "ev")
  | (apply evs_andV <;> walk_at "ev") | (apply evs_orV <;> walk_at "ev") | (apply evs_notV; walk_at "ev")
  | (apply evs_chain <;> walk_at "ev")
  | (apply evs_neg; walk_at "ev")
  | (apply evt_test; walk_at "ev") | (apply evt_B; walk_at "ev") | (apply evt_not; walk_at "ev")
  | (apply evt_and1 <;> walk_at "ev") | (apply evt_or1 <;> walk_at "ev")
  | (intro _; walk_at "ev"))
local macro_rules | `(tactic| walk_at "ret") => `(tactic| (apply sx_ret; walk_at "ev"))
theorem strW_nat (l : List Nat) : (l.map natD).map strW = l.map fun n => PyData.str (num n) := by rw [List.map_map]; rfl
section
variable {P : Program} {w : World} {K : PySem.W.Frag} {mg : Str → Option Value} {base : Heap}
abbrev N_read_input : List Str := ["kind", "words", "found", "reader"]
theorem sc_read_input : FnScope N_read_input ["kind", "words"] (defScope (top 81)) := ⟨rfl, rfl, rfl, by decide +kernel, rfl, by decide +kernel, by decide +kernel⟩
theorem c_read_input (T : TX K mg) : C8.Cal P w K mg base 3 "read_input" (spS K (fun x : Inp × PyData × List PyData => [.dat (.str x.1.kind), .lst (x.2.2.map strW)]) (fun x => RowRel x.1 x.2.1 x.2.2) (fun x => Is (.tuple [x.2.1]))) [] := by
  refine cal_of T.d_read_input (fun F => F.bindsN (ps := ["kind", "words"]) fun _ _ _ _ _ _ us hl => match us, hl with | [_, _], _ => rfl) fun F => fnS F sc_read_input (fun _ => rfl) (by intro a s hs ds z; subst z; simp at hs) fun cdv A outer s H E a hr ha => ?_
  refine ⟨_, (pss_cons (ps_if (PW.pt (pw_or (pt_cmpR op_in_seq (pv 0) (C8.pe_gc rfl T.c_MANNERS) (by rfl)) (pw_or1 (pt_cmpR op_eq (pv 0) (C8.pe_gc rfl T.c_CHAIN) (nomark _))))) (pss_one (ps_set (i := 2) sc_read_input.nd rfl (Or.inl rfl) (pe_ifExp (pt_cmpR op_in_seq (pv 0) (C8.pe_gc rfl T.c_MANNERS) (by rfl)) (C8.pe_c (c_read_script T) hr (by decide) rfl (pa_cons (pv 1) pa_nil)) (C8.pe_c (c_numbers_in T) hr (by decide) rfl (pa_cons (pv 1) pa_nil))))) (pss_cons (ps_set (i := 3) sc_read_input.nd rfl (Or.inl rfl) (pe_ifExp (pt_cmpR op_eq (pv 0) (C8.pe_gc rfl T.c_NEAR) (nomark _)) (pe_glob (v := .ref (He.ga K "integer_in")) rfl T.d_integer_in.mgf rfl) (pe_glob (v := .ref (He.ga K "number_in")) rfl T.d_number_in.mgf rfl))) (pss_one (ps_set (i := 2) sc_read_input.nd rfl (Or.inl rfl) (pe_ifExp (pt_cmpR op_eq (pe_callB b_len (by rfl) T.n_len bt_len (pa_cons (pv 1) pa_nil)) pe_int (nomark _)) (pe_held (i := 3) (rd_at T a.1) hr (by decide) rfl (by first | exact Or.inl rfl | exact Or.inr (Or.inl rfl) | exact Or.inr (Or.inr rfl)) (pa_cons (pe_ix ix_list (pv 1) pe_int (fun _ _ => rfl)) pa_nil)) pe_non))))) (pss_one (ps_ret (pe_ifExp (pt_cmpR o_isN (pv 2) pe_non (nomark _)) pe_non (pe_tup (pa_cons (pv 2) pa_nil)))))), ?_⟩
  obtain ⟨i, r, ws⟩ := a
  have kd := kind_dec i
  have hm : ∀ {te : TE} {δ : Dn}, EvS ⟨K, none, H, []⟩ te δ (Is (.str i.kind)) → EvS ⟨K, none, H, []⟩ (tOp (rIn K false) te (tC (.ref (He.ga K "MANNERS")))) δ (Is (.bool i.isMan)) := fun h => evs_isMan (B := ⟨K, none, H, []⟩) T h
  have fin : ∀ (x : Option Sv) {d : PyData}, isN (.dat d) = false → d = r → SX ⟨K, none, H, []⟩ (tRet (tIf (tTest (tOp rIsNo (tVar 2) (tC .non))) (tC .non) (tTup (tCons (tVar 2) tNil)))) [some (.dat (.str i.kind)), some (.lst (ws.map strW)), some (.dat d), x] { nx := fun _ => Is (.tuple [r]) (.dat .none), rt := Is (.tuple [r]) } := fun x d h e => by
    subst e
    exact sx_ret (evs_ifF (evt_test (evs_is (evs_isN (s := .dat d) (evs_var rfl)) h)) (evs_tup (ds := [d]) (eva_c (evs_var rfl) eva_nil))) rfl
  let G : Dn → Prop := fun δ => ∃ x d, isN (.dat d) = false ∧ d = r ∧ δ = [some (.dat (.str i.kind)), some (.lst (ws.map strW)), some (.dat d), x]
  refine sx_seq (G := G) ?h1 fun δ' ⟨x, d, h1, h2, h3⟩ => by rw [h3]; exact fin x h1 h2
  have one : ∀ (δ : Dn), δ[0]? = some (some (.dat (.str i.kind))) → EvS ⟨K, none, H, []⟩ (tIf (tTest (tOp rEq (tVar 0) (tC (.str "near")))) (tC (.ref (He.ga K "integer_in"))) (tC (.ref (He.ga K "number_in")))) δ (· = .val (.ref (He.ga K i.rdr))) := fun δ h => by
    have t : EvT ⟨K, none, H, []⟩ (tTest (tOp rEq (tVar 0) (tC (.str "near")))) δ (· = i.isNear) := evt_test (evs_isK (evs_var h) kd.1)
    cases i with
    | near k vs => exact evs_ifT t evs_val
    | man k vs => exact evs_ifF t evs_val
    | lev vs => exact evs_ifF t evs_val
    | nam vs => exact evs_ifF t evs_val
    | cha vs => exact evs_ifF t evs_val
  cases hman : i.isMan with
  | true =>
    obtain ⟨s, rfl, hs, rfl⟩ : ∃ s, r = scrD s ∧ scrOk s ∧ ws = s.flatMap deedW := by cases i <;> first | exact ha | cases hman
    refine sx_yes (evt_orT (evt_test (evs_is (hm (evs_var rfl)) hman))) (sx_asg1 (s := .dat (scrD s)) (evs_ifT (evt_test (evs_is (hm (evs_var rfl)) hman)) (evs_call1 s (eva_c (evs_var rfl) eva_nil) hs)) rfl ⟨none, scrD s, rfl, rfl, rfl⟩)
  | false =>
    cases hcha : i.isCha with
    | true =>
      obtain ⟨l, rfl, hs, rfl⟩ : ∃ l, r = lotD l ∧ lotOk l ∧ ws = l.map natD := by cases i <;> first | exact ha | cases hcha
      have hl := hs.len
      refine sx_yes (evt_orT2 (evt_test (evs_is (hm (evs_var rfl)) hman)) (evt_test (evs_isK (evs_var rfl) (kd.2.1.trans hcha)))) (sx_asg1 (s := .dat (lotD l)) (evs_ifF (evt_test (evs_is (hm (evs_var rfl)) hman)) (evs_call1 l (eva_c (by rw [← strW_nat]; exact evs_var rfl) eva_nil) ⟨by omega, fun n hn => by have := hs.2 n hn; omega⟩)) rfl ⟨none, lotD l, rfl, rfl, rfl⟩)
    | false =>
      obtain ⟨hw, hr2, hnn⟩ : ws = [r] ∧ i.rdP r ∧ isN (.dat r) = false := by
        cases i with
        | man k ss => cases hman
        | lev vs => obtain ⟨n, rfl, hn, rfl⟩ := ha; exact ⟨rfl, ⟨n, rfl, by omega⟩, rfl⟩
        | nam vs => obtain ⟨n, rfl, hn, rfl⟩ := ha; exact ⟨rfl, ⟨n, rfl, by omega⟩, rfl⟩
        | near k vs => obtain ⟨n, rfl, hn, rfl⟩ := ha; exact ⟨rfl, ⟨n, rfl, hn⟩, rfl⟩
        | cha ls => cases hcha
      subst hw
      refine sx_no (evt_orF (evt_test (evs_is (hm (evs_var rfl)) hman)) (evt_test (evs_isK (evs_var rfl) (kd.2.1.trans hcha)))) (q_asg1 (one _ rfl) rfl (sx_asg1 (s := .dat r) (evs_ifT (evt_test (evs_eqT (d := .int 1) (evs_len (s := .lst [strW r]) (evs_var rfl) rfl (show 1 ≤ 16000000 by decide)) evs_int rfl rfl)) (evs_call1L r rfl (eva_c (evs_ixL (ds := [strW r]) (evs_var rfl) evs_int rfl) eva_nil) hr2)) rfl ⟨_, r, hnn, rfl, rfl⟩))
abbrev N_pair_in : List Str := ["words", "found"]
theorem sc_pair_in : FnScope N_pair_in ["words"] (defScope (top 82)) := ⟨rfl, rfl, rfl, by decide +kernel, rfl, by decide +kernel, by decide +kernel⟩
theorem lay_dash : Lay 1 (.list [.str "-"]) := .lst (.cons (.str (by decide +kernel)) fun _ => .nil)
theorem c_pair_in (T : TX K mg) : C8.Cal P w K mg base 3 "pair_in" (spS K (fun o : Option Nat => [.lst [strW (optW o)]]) (fun o => ∀ x, o = some x → x < 10 ^ 20) (fun o => Is (.tuple [optD o]))) [] := by
  refine cal_of T.d_pair_in (fun F => F.bindsN (ps := ["words"]) fun _ _ _ _ _ _ us hl => match us, hl with | [_], _ => rfl) fun F => fnS F sc_pair_in (fun _ => rfl) (by intro a s hs ds z; subst z; simp at hs) fun cdv A outer s H E a hr ha => ?_
  refine ⟨_, (pss_cons (ps_if (pt_cmpR (op_eqDk (K := K) rfl hr.units) (pv 0) (pe_lst (pa_cons (C8.pe_gc rfl T.c_NOTHING) pa_nil)) (nomark _)) (pss_one (ps_ret (pe_tup (pa_cons pe_non pa_nil)))) pss_nil) (pss_cons (ps_set (i := 1) sc_pair_in.nd rfl (Or.inl rfl) (C8.pe_c (c_numbers_in T) hr (by decide) rfl (pa_cons (pv 0) pa_nil))) (pss_one (ps_ret (pe_ifExp (PW.pt (pw_and (pt_cmpR o_notN (pv 1) pe_non (nomark _)) (pw_and1 (pt_cmpR op_eq (pe_callB b_len (by rfl) T.n_len bt_len (pa_cons (pv 1) pa_nil)) pe_int (nomark _))))) (pv 1) pe_non))))), ?_⟩
  cases a with
  | none => exact sx_seq (G := fun _ => False) (sx_yes (evt_test (evs_is (evs_eqD (s := .lst [.str "-"]) (u := .lst [.str "-"]) (evs_var rfl) (EvL.evs1 (evl_lst (ds := [.str "-"]) (eva_c evs_str eva_nil))) rfl rfl lay_dash.shaped lay_dash.shaped) lay_dash.self)) (sx_ret (evs_tup (ds := [.none]) (eva_c evs_non eva_nil)) rfl)) fun _ q => q.elim
  | some n =>
    have hn := ha n rfl
    have ly : Lay 1 (.list [.str (num n)]) := .lst (.cons (.str (ok_num n)) fun _ => .nil)
    have ne : PyData.eqv (.list [.str (num n)]) (.list [.str "-"]) = false := by
      have : num n ≠ ("-" : Str) := num_ne ⟨45, by decide +kernel, .inl (by decide)⟩
      simp [PyData.eqv, PyData.eqvAll, this]
    refine q_no (evt_test (evs_is (evs_eqD (s := .lst [.str (num n)]) (u := .lst [.str "-"]) (evs_var rfl) (EvL.evs1 (evl_lst (ds := [.str "-"]) (eva_c evs_str eva_nil))) rfl rfl ly.shaped lay_dash.shaped) ne)) ?_
    refine q_asg1 (s := .dat (.tuple [natD n])) (evs_call1 [n] (eva_c (evs_var rfl) eva_nil) ⟨show 1 ≤ 100 by decide, fun m hm => by rw [List.mem_singleton.mp hm]; exact hn⟩) rfl ?_
    exact sx_ret (evs_ifT (evt_andT (evt_test (evs_notN (s := .dat (.tuple [natD n])) (evs_var rfl))) (evt_test (evs_eqT (d := .int 1) (evs_len (evs_var rfl) rfl (show 1 ≤ 16000000 by decide)) evs_int rfl rfl))) (evs_var rfl)) rfl
end
end K32
/-! Walks: calls that are read. -/
namespace K32
open PySem PySem.Spec PyProof.Rows L2 TL
local macro_rules | `(tactic| walk_at "ev") => `(tactic| first
  | exact evs_var rfl | exact evs_own rfl | exact evs_int | exact evs_str | exact evs_bl | exact evs_non
  | exact eva_nil | (apply eva_c <;> walk_at "ev")
  | exact evs_isi (evs_var rfl) rfl kit_int_int | exact evs_isi (evs_var rfl) rfl kit_int_bool | exact evs_isi (evs_var rfl) rfl kit_tuple_tuple | exact evs_isi (evs_var rfl) rfl kit_str_str
  | exact evs_ixT (evs_var rfl) evs_int rfl
  | (apply evs_I0 <;> walk_at "ev") | (apply evs_B0 <;> walk_at "ev")
  | (apply evs_andV <;> walk_at "ev") | (apply evs_orV <;> walk_at "ev") | (apply evs_notV; walk_at "ev")
  | (apply evs_chain <;> walk_at "ev")
  | (apply evs_neg; walk_at "ev")
  | (apply evt_test; walk_at "ev") | (apply evt_B; walk_at "ev") | (apply evt_not; walk_at "ev")
  | (apply evt_and1 <;> walk_at "ev") | (apply evt_or1 <;> walk_at "ev")
  | (intro _; walk_at "ev"))
local macro_rules | `(tactic| walk_at "ret") => `(tactic| (apply sx_ret; walk_at "ev"))
theorem cutD_mid {ds : List PyData} {k m : Nat} (h : k ≤ m) (hm : m ≤ ds.length) : cutD ds (some (k : Int)) (some (m : Int)) = (ds.drop k).take (m - k) := by
  unfold cutD
  rw [HT.sIx_nat, HT.sIx_nat, Nat.min_eq_left hm, Nat.min_eq_left (Nat.le_trans h hm)]
section
variable {P : Program} {w : World} {K : PySem.W.Frag} {mg : Str → Option Value} {base : Heap}
abbrev N_read_call : List Str := ["words", "numbers", "end", "told", "word", "item"]
theorem sc_read_call : FnScope N_read_call ["words"] (defScope (top 83)) := ⟨rfl, rfl, rfl, by decide +kernel, rfl, by decide +kernel, by decide +kernel⟩
theorem c_read_call (T : TX K mg) : C8.Cal P w K mg base 4 "read_call" (spS K (fun c : Call => [.lst ((callW c).map strW)]) (fun c => (∃ m, m ≤ 8 ∧ c.okAt m) ∧ c.short) (fun c => Is c.d)) [] := by
  refine cal_of T.d_read_call (fun F => F.bindsN (ps := ["words"]) fun _ _ _ _ _ _ us hl => match us, hl with | [_], _ => rfl) fun F => fnS F sc_read_call (fun _ => rfl) (by intro a s hs ds z; subst z; simp at hs) fun cdv A outer s H E a hr ha => ?_
  refine ⟨_, (pss_cons (ps_if (PW.pt (pw_and (pt_cmpR op_eq (pe_ix ix_list (pv 0) pe_int (fun _ _ => rfl)) (C8.pe_gc rfl T.c_PUT_plays) (nomark _)) (pw_and1 (pt_cmpR op_eq (pe_callB b_len (by rfl) T.n_len bt_len (pa_cons (pv 0) pa_nil)) pe_int (nomark _))))) (pss_cons (ps_par (i := 1) (j := 2) (by rfl) sc_read_call.nd rfl rfl (by decide) rfl rfl (pa_cons (C8.pe_c (c_numbers_in T) hr (by decide) rfl (pa_cons (pe_slice sl_list (pv 0) (po_some pe_int) (po_some pe_int)) pa_nil)) (pa_cons (C8.pe_c (c_pair_in T) hr (by decide) rfl (pa_cons (pe_slice sl_list (pv 0) (po_some pe_int) po_none) pa_nil)) pa_nil)) (by rfl)) (pss_one (ps_ret (pe_ifExp (PW.pt (pw_or (pt_cmpR o_isN (pv 1) pe_non (nomark _)) (pw_or1 (pt_cmpR o_isN (pv 2) pe_non (nomark _))))) pe_non (pe_op op_catA (pe_op op_catA (pe_tup (pa_cons (C8.pe_gc rfl T.c_PUT_plays) pa_nil)) (pv 1)) (pv 2)))))) pss_nil) (pss_cons (ps_if (PW.pt (pw_or (pt_cmpR op_ne (pe_ix ix_list (pv 0) pe_int (fun _ _ => rfl)) (C8.pe_gc rfl T.c_LOOK_records) (nomark _)) (pw_or1 (pt_cmpR op_lt (pe_callB b_len (by rfl) T.n_len bt_len (pa_cons (pv 0) pa_nil)) pe_int (nomark _))))) (pss_one (ps_ret pe_non)) pss_nil) (pss_cons (ps_par (i := 1) (j := 3) (by rfl) sc_read_call.nd rfl rfl (by decide) rfl rfl (pa_cons (C8.pe_c (c_numbers_in T) hr (by decide) rfl (pa_cons (pe_slice sl_list (pv 0) (po_some pe_int) (po_some pe_int)) pa_nil)) (pa_cons (pe_lc (own := [("word", 4)]) (g := gName 4) (by rfl) sc_read_call.nd (pi_list (pe_slice sl_list (pv 0) (po_some pe_int) po_none)) (blkOk_by (own := [("word", 4)]) (N := N_read_call) (sc := defScope (top 83)) (by decide +kernel)) (fun _ _ _ _ _ => (pg_name (i := 4) sc_read_call.nd rfl (Or.inl rfl))) (fun _ _ _ _ _ => pts_nil) (fun _ _ _ _ _ => (C8.pe_c (c_pair_in T) hr (by decide) rfl (pa_cons (pe_lst (pa_cons (pv 4) pa_nil)) pa_nil)))) pa_nil)) (by rfl)) (pss_cons (ps_if (PW.pt (pw_or (pt_cmpR o_isN (pv 1) pe_non (nomark _)) (pw_or1 (pt_cmpR (op_inD (hu65 hr)) pe_non (pv 3) (by rfl))))) (pss_one (ps_ret pe_non)) pss_nil) (pss_one (ps_ret (pe_tup (pa_cons (C8.pe_gc rfl T.c_LOOK_records) (pa_cons (pe_ix ix_tup (pv 1) pe_int (fun _ _ => rfl)) (pa_cons (pe_callTy b_tupO (by rfl) T.n_tuple bt_tuple (pa_cons (pe_lc (own := [("item", 5)]) (g := gName 5) (by rfl) sc_read_call.nd (pi_list (pv 3)) (blkOk_by (own := [("item", 5)]) (N := N_read_call) (sc := defScope (top 83)) (by decide +kernel)) (fun _ _ _ _ _ => (pg_name (i := 5) sc_read_call.nd rfl (Or.inl rfl))) (fun _ _ _ _ _ => pts_nil) (fun _ _ _ _ _ => (pe_ix (ix_tupK (K := K) rfl) (pv 5) pe_int (fun _ _ => rfl)))) pa_nil)) (pa_cons (pe_ix ix_tup (pv 1) pe_int (fun _ _ => rfl)) (pa_cons (pe_ix ix_tup (pv 1) pe_int (fun _ _ => rfl)) pa_nil)))))))))))), ?_⟩
  obtain ⟨⟨m, hm, hok⟩, s1, s2, s3⟩ := ha
  obtain ⟨hand, what, b, e⟩ := a
  have hh : hand < 10 ^ 20 := by have : hand < m := hok.1; omega
  have s1' : b < 10 ^ 20 := s1
  cases what with
  | put v =>
    have s3' : v < 10 ^ 20 := s3
    refine sx_seq (G := fun _ => False) (sx_yes (evt_andT (evt_test (evs_eqT (d := .str "put") (evs_ixL (ds := (callW ⟨hand, .put v, b, e⟩).map strW) (evs_var rfl) evs_int rfl) evs_str rfl rfl)) (evt_test (evs_eqT (d := .int 5) (evs_len (s := .lst ((callW ⟨hand, .put v, b, e⟩).map strW)) (evs_var rfl) rfl (show 5 ≤ 16000000 by decide)) evs_int rfl rfl))) ?_) fun _ q => q.elim
    refine q_par (s1 := .dat (.tuple [natD hand, natD v, natD b])) (s2 := .dat (.tuple [optD e])) (evs_call1 [hand, v, b] (eva_c (EvL.evs1 ((evl_slL (lo := some ((1 : Nat) : Int)) (hi := some ((4 : Nat) : Int)) (evs_var rfl) (evo_some evs_int) (evo_some evs_int)).imp fun ds q => ?_)) eva_nil) ⟨show 3 ≤ 100 by decide, fun n hn => ?_⟩) (evs_call1 e (eva_c (EvL.evs1 ((evl_slL (lo := some ((4 : Nat) : Int)) (hi := none) (evs_var rfl) (evo_some evs_int) evo_none).imp fun ds q => ?_)) eva_nil) s2) rfl rfl ?_
    · rw [q, cutD_mid (by decide) (show 4 ≤ 5 by decide)]; rfl
    · rcases List.mem_cons.mp hn with rfl | hn
      · exact hh
      rcases List.mem_cons.mp hn with rfl | hn
      · exact s3'
      rw [List.mem_singleton.mp hn]; exact s1'
    · rw [q, cutD_from]; rfl
    · exact sx_ret (evs_ifF (evt_orF (evt_test (evs_isN (s := .dat (.tuple [natD hand, natD v, natD b])) (evs_var rfl))) (evt_test (evs_isN (s := .dat (.tuple [optD e])) (evs_var rfl)))) (evs_catA (evs_catA (evs_tup (ds := [.str "put"]) (eva_c evs_str eva_nil)) (evs_var rfl) (show 1 + 3 ≤ 16000000 by decide)) (evs_var rfl) (show 4 + 1 ≤ 16000000 by decide))) rfl
  | look l =>
    obtain ⟨⟨x, hx⟩, hl⟩ := hok.2.2
    have hx' : e = some x := hx
    subst hx'
    have hl' : l.length = m := hl
    have sx : x < 10 ^ 20 := s2 x rfl
    have s3' : ∀ y, some y ∈ l → y < 10 ^ 20 := s3
    have wl : ((callW ⟨hand, .look l, b, some x⟩).map strW).length = l.length + 4 := by rw [List.length_map]; show (l.map optW).length + 4 = _; rw [List.length_map]
    have w0 : atI ((callW ⟨hand, .look l, b, some x⟩).map strW) 0 = some (.str "look") := by
      rw [show (0 : Int) = ((0 : Nat) : Int) from rfl, atI_nat]; rfl
    refine q_no (evt_andF (evt_test (evs_eqF (d := .str "look") (e := .str "put") (evs_ixL (ds := (callW ⟨hand, .look l, b, some x⟩).map strW) (evs_var rfl) evs_int w0) evs_str rfl rfl rfl (str_ne (by decide +kernel))))) ?_
    refine q_no (evt_orF (evt_test (evs_neF (d := .str "look") (evs_ixL (ds := (callW ⟨hand, .look l, b, some x⟩).map strW) (evs_var rfl) evs_int w0) evs_str rfl rfl)) (evt_test (evs_is (evs_B0 (i := ((l.length + 4 : Nat) : Int)) (j := 4) (evs_len (s := .lst ((callW ⟨hand, .look l, b, some x⟩).map strW)) (evs_var rfl) (congrArg some wl) (by omega)) evs_int) (decide_eq_false (by omega))))) ?_
    refine q_parL (i := 1) (j := 3) (s1 := .dat (.tuple [natD hand, natD b, natD x])) (es := l.map fun o => .tuple [optD o]) (evs_call1 [hand, b, x] (eva_c (EvL.evs1 ((evl_slL (lo := some ((1 : Nat) : Int)) (hi := some ((4 : Nat) : Int)) (evs_var rfl) (evo_some evs_int) (evo_some evs_int)).imp fun ds q => ?_)) eva_nil) ⟨show 3 ≤ 100 by decide, fun n hn => ?_⟩) (evl_mapL (L := l) (F := fun o => strW (optW o)) (evi_newY ((evl_slL (lo := some ((4 : Nat) : Int)) (hi := none) (evs_var rfl) (evo_some evs_int) evo_none).imp fun ds q => ?_)) (by omega) fun γ o ho => evs_call1 o (eva_c (EvL.evs1 (evl_lst (ds := [strW (optW o)]) (eva_c (evs_var rfl) eva_nil))) eva_nil) (by intro y ey; exact s3' y (ey ▸ ho))) rfl (by decide) ?_
    · rw [q, cutD_mid (by decide) (by rw [wl]; omega)]; rfl
    · rcases List.mem_cons.mp hn with rfl | hn
      · exact hh
      rcases List.mem_cons.mp hn with rfl | hn
      · exact s1'
      rw [List.mem_singleton.mp hn]; exact sx
    · rw [q, cutD_from]
      show (l.map optW).map strW = _
      rw [List.map_map]; rfl
    · refine sx_share (i := 3) (ds := l.map fun o => .tuple [optD o]) rfl ?_
      have ly : Lay 2 (.list (l.map fun o => .tuple [optD o])) := .lst fun d hd => by
        obtain ⟨o, _, rfl⟩ := List.mem_map.mp hd
        exact .tup (.cons (lay_opt o) fun _ => .nil)
      have na : (l.map fun o => PyData.tuple [optD o]).any (fun z => PyData.eqv z .none) = false := by
        rw [List.any_eq_false]
        intro d hd
        obtain ⟨o, _, rfl⟩ := List.mem_map.mp hd
        simp [PyData.eqv]
      refine q_no (evt_orF (evt_test (evs_isN (s := .dat (.tuple [natD hand, natD b, natD x])) (evs_var rfl))) (evt_test (evs_is (evs_inD (s := .dat .none) (u := .lst (l.map fun o => .tuple [optD o])) evs_non (evs_var rfl) rfl rfl (Lay.none (n := 0)).shaped ly.shaped) na))) ?_
      exact sx_ret (evs_tup (ds := [.str "look", natD hand, .tuple (l.map optD), natD b, natD x]) (eva_c evs_str (eva_c (evs_ixT (ds := [natD hand, natD b, natD x]) (evs_var rfl) evs_int rfl) (eva_c (evs_tupleL1 (EvL.evs1 (evl_mapL (L := l) (F := fun o => .tuple [optD o]) (f := optD) (evi_lst rfl) (by omega) fun γ o ho => evs_ixT (ds := [optD o]) (evs_var rfl) evs_int rfl))) (eva_c (evs_ixT (ds := [natD hand, natD b, natD x]) (evs_var rfl) evs_int rfl) (eva_c (evs_ixT (ds := [natD hand, natD b, natD x]) (evs_var rfl) evs_int rfl) eva_nil)))))) rfl
end
end K32
/-! Walks: the class TextReader. -/
namespace K32
open PySem PySem.Spec PyProof.Rows L2 TL
local macro_rules | `(tactic| walk_at "ev") => `(tactic| first
  | exact evs_var rfl | exact evs_own rfl | exact evs_int | exact evs_str | exact evs_bl | exact evs_non
  | exact eva_nil | (apply eva_c <;> walk_at "ev")
  | exact evs_isi (evs_var rfl) rfl kit_int_int | exact evs_isi (evs_var rfl) rfl kit_int_bool | exact evs_isi (evs_var rfl) rfl kit_tuple_tuple | exact evs_isi (evs_var rfl) rfl kit_str_str
  | exact evs_ixT (evs_var rfl) evs_int rfl
  | (apply evs_I0 <;> walk_at "ev") | (apply evs_B0 <;> walk_at "ev")
  | (apply evs_andV <;> walk_at "ev") | (apply evs_orV <;> walk_at "ev") | (apply evs_notV; walk_at "ev")
  | (apply evs_chain <;> walk_at "ev")
  | (apply evs_neg; walk_at "ev")
  | (apply evt_test; walk_at "ev") | (apply evt_B; walk_at "ev") | (apply evt_not; walk_at "ev")
  | (apply evt_and1 <;> walk_at "ev") | (apply evt_or1 <;> walk_at "ev")
  | (intro _; walk_at "ev"))
local macro_rules | `(tactic| walk_at "ret") => `(tactic| (apply sx_ret; walk_at "ev"))
theorem calm_all {l : List Sv} (h : l.all Sv.calm = true) : ∀ s ∈ l, s.calm = true := fun s hs => List.all_eq_true.mp h s hs
def LnAt (ls : List Str) (k : Nat) (l : List PyData) : Prop := ls[k]? = some (lineD l) ∧ LineOk l ∧ k + 1 < ls.length ∧ ls.length ≤ 1000
abbrev rdC (K : PySem.W.Frag) : Addr := He.ga K "TextReader"
theorem gh0 {K : PySem.W.Frag} {H : Hp} {p q : Addr} {ls : List Str} : (V.ref q, Sv.lst (ls.map PyData.str)) ∈ (rdB K H p q ls).gh := List.mem_singleton.mpr rfl
theorem h0p {K : PySem.W.Frag} {H : Hp} {p q : Addr} {ls : List Str} : (rdB K H p q ls).H0 p = none := if_pos rfl
theorem calmBut_of {δ : Dn} {i : Nat} {o : Option Sv} (h : ((δ.set i none).all fun o => match o with | none => true | some s => s.calm) = true) : calmBut δ i := fun j s hj e => by
  have m : some s ∈ δ.set i none := List.mem_of_getElem? (by rw [List.getElem?_set_ne (Ne.symm hj)]; exact e)
  exact List.all_eq_true.mp h _ m
abbrev spTake (K : PySem.W.Frag) : Sp := spR K (rdC K) (fun d : PyData => [.dat d]) (fun d _ _ => isN (.dat d) = false) (fun d _ k k' s => k' = k + 1 ∧ s = .dat d)
theorem evm_take {B : Bx} {δ : Dn} {i : Nat} {p dx q : Addr} {k : Nat} {ls : List Str} {te : TE} {d : PyData} (h0 : B.H0 p = none) (hg : (V.ref q, Sv.lst (ls.map PyData.str)) ∈ B.gh) (hi : δ[i]? = some (some (.obj p (rdO (rdC B.K) dx q k)))) (hc : calmBut δ i) (h : EvS B te δ (Is d)) (hd : isN (.dat d) = false) :
    EvM B (tMeth (rdC B.K) "take" (spTake B.K) [] C8.E0 (tVar i) (tCons te tNil)) δ (fun s δ' => s = .dat d ∧ δ' = δ.set i (some (.obj p (rdO (rdC B.K) dx q (k + 1))))) :=
  (evm_meth (α := PyData) d h0 hg hi hc (by decide +kernel) (by decide +kernel) (eva_c h eva_nil) hd fun k' s r => by rw [r.2]; rfl).imp fun s δ' ⟨k', r, e⟩ => ⟨r.2, by rw [e, r.1]⟩
theorem bx_take {B : Bx} {δ : Dn} {p dx q : Addr} {k : Nat} {ls : List Str} {te : TE} {d : PyData} {R : Nat → Sv → Prop} (h0 : B.H0 p = none) (hg : (V.ref q, Sv.lst (ls.map PyData.str)) ∈ B.gh) (hi : δ[0]? = some (some (.obj p (rdO (rdC B.K) dx q k)))) (hc : calmBut δ 0) (h : EvS B te δ (Is d)) (hd : isN (.dat d) = false) (r : R (k + 1) (.dat d)) :
    BX B (rdC B.K) p dx q (tRet (tMeth (rdC B.K) "take" (spTake B.K) [] C8.E0 (tVar 0) (tCons te tNil))) δ R := bx_retM ((evm_take h0 hg hi hc h hd).imp fun s δ' ⟨e1, e2⟩ => ⟨k + 1, by rw [e2]; exact getSet_eq hi, by rw [e1]; exact r⟩)
section
variable {P : Program} {w : World} {K : PySem.W.Frag} {mg : Str → Option Value} {base : Heap}
abbrev N_TextReader_is_more : List Str := ["self"]
theorem sc_TextReader_is_more : FnScope N_TextReader_is_more ["self"] (defScope (inClass (top 84) 1)) := ⟨rfl, rfl, rfl, by decide +kernel, rfl, by decide +kernel, by decide +kernel⟩
theorem m_is_more (T : TX K mg) : C8.Met P w K mg base 1 (rdC K) "is_more" (spR K (rdC K) (fun _ : Unit => []) (fun _ ls _ => ls.length ≤ 1000) (fun _ ls k k' s => k' = k ∧ s = .dat (.bool (decide (k + 1 < ls.length))))) [] := by
  obtain ⟨fd, F⟩ := T.d_TextReader_is_more
  refine ⟨_, fd, ["self"], [], T.cls_TextReader, T.me_TextReader_is_more, fnR F sc_TextReader_is_more (fun _ => rfl) (by intro a s hs ds z; subst z; simp at hs) (fun a => calm_all rfl) fun cdv A outer s H E a p dx q ls n hr ha => ?_, (fun F => F.bindsN (ps := ["self"]) fun _ _ _ _ _ _ us hl => match us, hl with | [_], _ => rfl) F, .nil⟩
  refine ⟨_, (pss_one (ps_ret (pe_cmpR op_lt (pe_fld (pv 0) rfl) (pe_op op_sub (pe_callB b_len (by rfl) T.n_len bt_len (pa_cons (pe_fld (pv 0) rfl) pa_nil)) pe_int) (nomark _)))), ?_⟩
  refine bx_ret (s := .dat (.bool (decide (n + 1 < ls.length)))) (evs_is (evs_B0 (i := (n : Int)) (j := ((ls.map PyData.str).length : Int) - 1) (evs_rdA (B := rdB K H p q ls) T.cls_TextReader T.no_TextReader_at rfl) (evs_I0 (evs_len (evs_rdL (B := rdB K H p q ls) T.cls_TextReader T.no_TextReader_lines_told gh0 rfl) rfl (by rw [List.length_map]; omega)) evs_int)) ?_) rfl rfl ⟨rfl, rfl⟩
  rw [List.length_map]
  by_cases h : n + 1 < ls.length
  · rw [decide_eq_true h, decide_eq_true (by omega)]
  · rw [decide_eq_false h, decide_eq_false (by omega)]
abbrev N_TextReader_next_words : List Str := ["self"]
theorem sc_TextReader_next_words : FnScope N_TextReader_next_words ["self"] (defScope (inClass (top 84) 2)) := ⟨rfl, rfl, rfl, by decide +kernel, rfl, by decide +kernel, by decide +kernel⟩
theorem m_next_words (T : TX K mg) : C8.Met P w K mg base 2 (rdC K) "next_words" (spR K (rdC K) (fun _ : List PyData => []) (fun l ls k => LnAt ls k l) (fun l ls k k' s => k' = k ∧ s = .lst (l.map strW))) [] := by
  obtain ⟨fd, F⟩ := T.d_TextReader_next_words
  refine ⟨_, fd, ["self"], [], T.cls_TextReader, T.me_TextReader_next_words, fnR F sc_TextReader_next_words (fun _ => rfl) (by intro a s hs ds z; subst z; simp at hs) (fun a => calm_all rfl) fun cdv A outer s H E a p dx q ls n hr ha => ?_, (fun F => F.bindsN (ps := ["self"]) fun _ _ _ _ _ _ us hl => match us, hl with | [_], _ => rfl) F, .nil⟩
  refine ⟨_, (pss_one (ps_ret (pe_ifExp (pt_val (C8.pe_mt0 (m_is_more T) hr (by decide) (pv 0))) (pe_spl (pe_ix ix_list (pe_fld (pv 0) rfl) (pe_fld (pv 0) rfl) (fun _ _ => rfl)) (C8.pe_gc rfl T.c_BLANK)) (pe_lst (pa_cons pe_str pa_nil))))), ?_⟩
  obtain ⟨h1, h2, h3, h4⟩ := ha
  have hl := h2.len
  refine bx_retL (L := (· = a.map strW)) (k := n) (evl_if (P := (· = true)) (evt_B (evs_meth (B := rdB K H p q ls) () gh0 rfl (by decide +kernel) (by decide +kernel) eva_nil h4 fun k' s r => ⟨r.1, by rw [r.2, decide_eq_true h3]⟩)) (fun _ => ?_) fun e => Bool.noConfusion (show false = true from e)) rfl fun ds e => ⟨rfl, by rw [e]⟩
  refine (evl_split (x := lineD a) (y := BL) (evs_ixL (B := rdB K H p q ls) (ds := ls.map PyData.str) (i := (n : Int)) (evs_rdL (B := rdB K H p q ls) T.cls_TextReader T.no_TextReader_lines_told gh0 rfl) (evs_rdA (B := rdB K H p q ls) T.cls_TextReader T.no_TextReader_at rfl) ?_) evs_str (by decide +kernel) (by omega)).imp fun ds e => ?_
  · rw [atI_nat, List.getElem?_map, h1]; rfl
  · rw [e, h2.split, List.map_map]; rfl
abbrev N_TextReader_take : List Str := ["self", "found"]
theorem sc_TextReader_take : FnScope N_TextReader_take ["self", "found"] (defScope (inClass (top 84) 3)) := ⟨rfl, rfl, rfl, by decide +kernel, rfl, by decide +kernel, by decide +kernel⟩
theorem m_take (T : TX K mg) : C8.Met P w K mg base 1 (rdC K) "take" (spTake K) [] := by
  obtain ⟨fd, F⟩ := T.d_TextReader_take
  refine ⟨_, fd, ["self", "found"], [], T.cls_TextReader, T.me_TextReader_take, fnR F sc_TextReader_take (fun _ => rfl) (by intro a s hs ds z; subst z; simp at hs) (fun a => calm_all rfl) fun cdv A outer s H E a p dx q ls n hr ha => ?_, (fun F => F.bindsN (ps := ["self", "found"]) fun _ _ _ _ _ _ us hl => match us, hl with | [_, _], _ => rfl) F, .nil⟩
  refine ⟨_, (pss_cons (ps_if (pt_cmpR o_isN (pv 1) pe_non (nomark _)) (pss_one ps_never) pss_nil) (pss_cons (ps_fldaug (pv 0) pe_int in_add) (pss_one (ps_ret (pv 1))))), ?_⟩
  refine bx_no (evt_test (evs_is (evs_isN (s := .dat a) (evs_var rfl)) ha)) ?_
  exact bx_inc T.cls_TextReader T.no_TextReader_at h0p rfl (calmBut_of (o := none) rfl) (bx_ret (s := .dat a) (evs_var rfl) rfl rfl ⟨rfl, rfl⟩)
def kindsD : List PyData := [.str "sweep", .str "twice", .str "borrow", .str "levels", .str "names", .str "near", .str "chain"]
theorem kind_kinds (i : Inp) : inD (.str i.kind) kindsD = true := by
  cases i with
  | man k ss => show inD (.str k.s) _ = true; cases k <;> decide +kernel
  | lev vs => show inD (.str "levels") _ = true; decide +kernel
  | nam vs => show inD (.str "names") _ = true; decide +kernel
  | near r vs => show inD (.str "near") _ = true; decide +kernel
  | cha vs => show inD (.str "chain") _ = true; decide +kernel
theorem evs_kinds {B : Bx} {δ : Dn} (T : TX B.K mg) : EvS B (tC (.ref (He.ga B.K "KINDS"))) δ (Is (.tuple kindsD)) := evs_ktup T.t_KINDS fun H => .cons (.str _) (.cons (.str _) (.cons (.str _) (.cons (.str _) (.cons (.str _) (.cons (.str _) (.cons (.str _) .nil))))))
abbrev N_TextReader_take_kind : List Str := ["self", "words", "is_right"]
theorem sc_TextReader_take_kind : FnScope N_TextReader_take_kind ["self"] (defScope (inClass (top 84) 5)) := ⟨rfl, rfl, rfl, by decide +kernel, rfl, by decide +kernel, by decide +kernel⟩
theorem m_take_kind (T : TX K mg) : C8.Met P w K mg base 3 (rdC K) "take_kind" (spR K (rdC K) (fun _ : Inp => []) (fun i ls k => LnAt ls k [.str "kind", .str i.kind]) (fun i _ k k' s => k' = k + 1 ∧ s = .dat (.str i.kind))) [] := by
  obtain ⟨fd, F⟩ := T.d_TextReader_take_kind
  refine ⟨_, fd, ["self"], [], T.cls_TextReader, T.me_TextReader_take_kind, fnR F sc_TextReader_take_kind (fun _ => rfl) (by intro a s hs ds z; subst z; simp at hs) (fun a => calm_all rfl) fun cdv A outer s H E a p dx q ls n hr ha => ?_, (fun F => F.bindsN (ps := ["self"]) fun _ _ _ _ _ _ us hl => match us, hl with | [_], _ => rfl) F, .nil⟩
  refine ⟨_, (pss_cons (ps_set (i := 1) sc_TextReader_take_kind.nd rfl (Or.inl rfl) (C8.pe_mt0 (m_next_words T) hr (by decide) (pv 0))) (pss_cons (ps_set (i := 2) sc_TextReader_take_kind.nd rfl (Or.inl rfl) (pe_and (pe_cmpR op_eq (pe_callB b_len (by rfl) T.n_len bt_len (pa_cons (pv 1) pa_nil)) pe_int (nomark _)) (pe_and (pe_cmpR op_eq (pe_ix ix_list (pv 1) pe_int (fun _ _ => rfl)) (C8.pe_gc rfl T.c_KIND) (nomark _)) (pe_one (pe_cmpR op_in_seq (pe_ix ix_list (pv 1) pe_int (fun _ _ => rfl)) (C8.pe_gc rfl T.c_KINDS) (by rfl)))))) (pss_one (ps_ret (C8.pe_mt (m_take T) hr (by decide) (pv 0) (pa_cons (pe_ifExp (pt_val (pv 2)) (pe_ix ix_list (pv 1) pe_int (fun _ _ => rfl)) pe_non) pa_nil)))))), ?_⟩
  refine bx_seq (G := (· = [some (.obj p (rdO (rdC K) dx q n)), some (.own [.str "kind", .str a.kind]), none])) (sx_asgL (P := (· = [.str "kind", .str a.kind])) (evl_meth (B := rdB K H p q ls) [.str "kind", .str a.kind] gh0 rfl (by decide +kernel) (by decide +kernel) eva_nil ha fun k' s r => ⟨r.1, _, r.2, rfl⟩) fun ds e => by rw [e]; rfl) fun δ' e => ?_
  subst e
  refine bx_seq (G := (· = [some (.obj p (rdO (rdC K) dx q n)), some (.own [.str "kind", .str a.kind]), some (.dat (.bool true))])) (sx_asg1 (s := .dat (.bool true)) (evs_is (evs_andV (evs_eqT (d := .int 2) (evs_len (s := .lst [.str "kind", .str a.kind]) (evs_own rfl) rfl (show 2 ≤ 16000000 by decide)) evs_int rfl rfl) fun _ => evs_andV (evs_eqT (d := .str "kind") (evs_ixL (ds := [.str "kind", .str a.kind]) (evs_own rfl) evs_int rfl) evs_str rfl rfl) fun _ => evs_in (neg := false) (d := .str a.kind) (evs_ixL (ds := [.str "kind", .str a.kind]) (evs_own rfl) evs_int rfl) (evs_kinds (B := rdB K H p q ls) T) rfl rfl (by decide)) (by show (true && (true && inD (.str a.kind) kindsD)) = true; rw [kind_kinds]; rfl)) rfl rfl) fun δ' e => ?_
  subst e
  exact bx_take (B := rdB K H p q ls) h0p gh0 rfl (calmBut_of (o := none) rfl) (evs_ifT (evt_test (evs_var rfl)) (evs_ixL (ds := [.str "kind", .str a.kind]) (evs_own rfl) evs_int rfl)) rfl ⟨rfl, rfl⟩
abbrev N_TextReader_take_number : List Str := ["self", "word", "found", "numbers"]
theorem sc_TextReader_take_number : FnScope N_TextReader_take_number ["self", "word"] (defScope (inClass (top 84) 6)) := ⟨rfl, rfl, rfl, by decide +kernel, rfl, by decide +kernel, by decide +kernel⟩
theorem m_take_number (T : TX K mg) : C8.Met P w K mg base 3 (rdC K) "take_number" (spR K (rdC K) (fun x : Str × Nat => [.dat (.str x.1)]) (fun x ls k => LnAt ls k [.str x.1, natD x.2] ∧ x.2 < 10 ^ 20) (fun x _ k k' s => k' = k + 1 ∧ s = .dat (natD x.2))) [] := by
  obtain ⟨fd, F⟩ := T.d_TextReader_take_number
  refine ⟨_, fd, ["self", "word"], [], T.cls_TextReader, T.me_TextReader_take_number, fnR F sc_TextReader_take_number (fun _ => rfl) (by intro a s hs ds z; subst z; simp at hs) (fun a => calm_all rfl) fun cdv A outer s H E a p dx q ls n hr ha => ?_, (fun F => F.bindsN (ps := ["self", "word"]) fun _ _ _ _ _ _ us hl => match us, hl with | [_, _], _ => rfl) F, .nil⟩
  refine ⟨_, (pss_cons (ps_set (i := 2) sc_TextReader_take_number.nd rfl (Or.inl rfl) (C8.pe_mt0 (m_next_words T) hr (by decide) (pv 0))) (pss_cons (ps_set (i := 3) sc_TextReader_take_number.nd rfl (Or.inl rfl) (pe_ifExp (pt_cmpR op_eq (pe_ix ix_list (pv 2) pe_int (fun _ _ => rfl)) (pv 1) (nomark _)) (C8.pe_c (c_numbers_in T) hr (by decide) rfl (pa_cons (pe_slice sl_list (pv 2) (po_some pe_int) po_none) pa_nil)) pe_non)) (pss_one (ps_ret (C8.pe_mt (m_take T) hr (by decide) (pv 0) (pa_cons (pe_ifExp (PW.pt (pw_and (pt_cmpR o_notN (pv 3) pe_non (nomark _)) (pw_and1 (pt_cmpR op_eq (pe_callB b_len (by rfl) T.n_len bt_len (pa_cons (pv 3) pa_nil)) pe_int (nomark _))))) (pe_ix ix_tup (pv 3) pe_int (fun _ _ => rfl)) pe_non) pa_nil)))))), ?_⟩
  obtain ⟨wd, x⟩ := a
  obtain ⟨hln, hx⟩ := ha
  have hln : LnAt ls n [.str wd, natD x] := hln
  have hx : x < 10 ^ 20 := hx
  refine bx_seq (G := (· = [some (.obj p (rdO (rdC K) dx q n)), some (.dat (.str wd)), some (.own [.str wd, strW (natD x)]), none])) (sx_asgL (P := (· = [.str wd, strW (natD x)])) (evl_meth (B := rdB K H p q ls) [.str wd, natD x] gh0 rfl (by decide +kernel) (by decide +kernel) eva_nil hln fun k' s r => ⟨r.1, _, r.2, rfl⟩) fun ds e => by rw [e]; rfl) fun δ' e => ?_
  subst e
  refine bx_seq (G := (· = [some (.obj p (rdO (rdC K) dx q n)), some (.dat (.str wd)), some (.own [.str wd, strW (natD x)]), some (.dat (.tuple [natD x]))])) (sx_asg1 (s := .dat (.tuple [natD x])) (evs_ifT (evt_test (evs_eqT (d := .str wd) (evs_ixL (ds := [.str wd, strW (natD x)]) (evs_own rfl) evs_int rfl) (evs_var rfl) rfl rfl)) (evs_call1 (α := List Nat) [x] (eva_c (EvL.evs1 ((evl_slL (lo := some ((1 : Nat) : Int)) (hi := none) (evs_own rfl) (evo_some evs_int) evo_none).imp fun ds e => by rw [e, cutD_from]; rfl)) eva_nil) ⟨show 1 ≤ 100 by decide, fun m hm => by rw [List.mem_singleton.mp hm]; exact hx⟩)) rfl rfl) fun δ' e => ?_
  subst e
  exact bx_take (B := rdB K H p q ls) (d := natD x) h0p gh0 rfl (calmBut_of (o := none) rfl) (evs_ifT (evt_andT (evt_test (evs_notN (s := .dat (.tuple [natD x])) (evs_var rfl))) (evt_test (evs_eqT (d := .int 1) (evs_len (evs_var rfl) rfl (show 1 ≤ 16000000 by decide)) evs_int rfl rfl))) (evs_ixT (ds := [natD x]) (evs_var rfl) evs_int rfl)) rfl ⟨rfl, rfl⟩
abbrev N_TextReader_take_hand : List Str := ["self", "kind", "words"]
theorem sc_TextReader_take_hand : FnScope N_TextReader_take_hand ["self", "kind"] (defScope (inClass (top 84) 7)) := ⟨rfl, rfl, rfl, by decide +kernel, rfl, by decide +kernel, by decide +kernel⟩
theorem m_take_hand (T : TX K mg) : C8.Met P w K mg base 4 (rdC K) "take_hand" (spR K (rdC K) (fun x : Inp × PyData × List PyData => [.dat (.str x.1.kind)]) (fun x ls k => RowRel x.1 x.2.1 x.2.2 ∧ LnAt ls k (.str "hand" :: x.2.2)) (fun x _ k k' s => k' = k + 1 ∧ s = .dat x.2.1)) [] := by
  obtain ⟨fd, F⟩ := T.d_TextReader_take_hand
  refine ⟨_, fd, ["self", "kind"], [], T.cls_TextReader, T.me_TextReader_take_hand, fnR F sc_TextReader_take_hand (fun _ => rfl) (by intro a s hs ds z; subst z; simp at hs) (fun a => calm_all rfl) fun cdv A outer s H E a p dx q ls n hr ha => ?_, (fun F => F.bindsN (ps := ["self", "kind"]) fun _ _ _ _ _ _ us hl => match us, hl with | [_, _], _ => rfl) F, .nil⟩
  refine ⟨_, (pss_cons (ps_set (i := 2) sc_TextReader_take_hand.nd rfl (Or.inl rfl) (C8.pe_mt0 (m_next_words T) hr (by decide) (pv 0))) (pss_one (ps_ret (pe_ix ix_tup (C8.pe_mt (m_take T) hr (by decide) (pv 0) (pa_cons (pe_ifExp (pt_cmpR op_eq (pe_ix ix_list (pv 2) pe_int (fun _ _ => rfl)) (C8.pe_gc rfl T.c_HAND) (nomark _)) (C8.pe_c (c_read_input T) hr (by decide) rfl (pa_cons (pv 1) (pa_cons (pe_slice sl_list (pv 2) (po_some pe_int) po_none) pa_nil))) pe_non) pa_nil)) pe_int (fun _ _ => rfl))))), ?_⟩
  obtain ⟨i, r, ws⟩ := a
  obtain ⟨hrel, hln⟩ := ha
  have hln : LnAt ls n (.str "hand" :: ws) := hln
  refine bx_seq (G := (· = [some (.obj p (rdO (rdC K) dx q n)), some (.dat (.str i.kind)), some (.own (.str "hand" :: ws.map strW))])) (sx_asgL (P := (· = .str "hand" :: ws.map strW)) (evl_meth (B := rdB K H p q ls) (.str "hand" :: ws) gh0 rfl (by decide +kernel) (by decide +kernel) eva_nil hln fun k' s r => ⟨r.1, _, r.2, rfl⟩) fun ds e => by rw [e]; rfl) fun δ' e => ?_
  subst e
  have w0 : atI (PyData.str "hand" :: ws.map strW) 0 = some (.str "hand") := by
    rw [show (0 : Int) = ((0 : Nat) : Int) from rfl, atI_nat]; rfl
  refine bx_retM ((evm_ix0 (B := rdB K H p q ls) (G := fun d δ' => d = r ∧ δ' = [some (.obj p (rdO (rdC K) dx q (n + 1))), some (.dat (.str i.kind)), some (.own (.str "hand" :: ws.map strW))]) ((evm_take (B := rdB K H p q ls) (d := .tuple [r]) h0p gh0 rfl (calmBut_of (o := none) rfl) (evs_ifT (evt_test (evs_eqT (d := .str "hand") (evs_ixL (ds := .str "hand" :: ws.map strW) (evs_own rfl) evs_int w0) evs_str rfl rfl)) (evs_call1 (i, r, ws) (eva_c (evs_var rfl) (eva_c (EvL.evs1 ((evl_slL (lo := some ((1 : Nat) : Int)) (hi := none) (evs_own rfl) (evo_some evs_int) evo_none).imp fun ds e => by rw [e, cutD_from]; rfl)) eva_nil)) hrel)) rfl).imp fun s δ' ⟨e1, e2⟩ => ⟨r, e1, rfl, e2⟩)).imp fun s δ' ⟨d, e1, e2, e3⟩ => ⟨n + 1, by rw [e3]; rfl, rfl, by rw [e1, e2]⟩)
abbrev N_TextReader_take_behind : List Str := ["self", "word", "reader", "words"]
theorem sc_TextReader_take_behind : FnScope N_TextReader_take_behind ["self", "word", "reader"] (defScope (inClass (top 84) 4)) := ⟨rfl, rfl, rfl, by decide +kernel, rfl, by decide +kernel, by decide +kernel⟩
theorem m_take_behind (T : TX K mg) : C8.Met P w K mg base 3 (rdC K) "take_behind" (spR K (rdC K) (fun _ : List Nat => [.dat (.str "weaving"), .val (.ref (He.ga K "numbers_in"))]) (fun ns ls k => (ns.length ≤ 90 ∧ ∀ m ∈ ns, m < 10 ^ 20) ∧ LnAt ls k (weW ns)) (fun ns _ k k' s => k' = k + 1 ∧ s = .dat (.tuple (ns.map natD)))) [] := by
  obtain ⟨fd, F⟩ := T.d_TextReader_take_behind
  refine ⟨_, fd, ["self", "word", "reader"], [], T.cls_TextReader, T.me_TextReader_take_behind, fnR F sc_TextReader_take_behind (fun _ => rfl) (by intro a s hs ds z; subst z; simp at hs) (fun a => calm_all rfl) fun cdv A outer s H E a p dx q ls n hr ha => ?_, (fun F => F.bindsN (ps := ["self", "word", "reader"]) fun _ _ _ _ _ _ us hl => match us, hl with | [_, _, _], _ => rfl) F, .nil⟩
  refine ⟨_, (pss_cons (ps_set (i := 3) sc_TextReader_take_behind.nd rfl (Or.inl rfl) (C8.pe_mt0 (m_next_words T) hr (by decide) (pv 0))) (pss_one (ps_ret (C8.pe_mt (m_take T) hr (by decide) (pv 0) (pa_cons (pe_ifExp (pt_cmpR op_eq (pe_ix ix_list (pv 3) pe_int (fun _ _ => rfl)) (pv 1) (nomark _)) (pe_held (i := 2) (calAt_of T.d_numbers_in (c_numbers_in T)) hr (by decide) rfl (by first | exact Or.inl rfl | exact Or.inr (Or.inl rfl) | exact Or.inr (Or.inr rfl)) (pa_cons (pe_slice sl_list (pv 3) (po_some pe_int) po_none) pa_nil)) pe_non) pa_nil))))), ?_⟩
  obtain ⟨⟨g1, g2⟩, hln⟩ := ha
  refine bx_seq (G := (· = [some (.obj p (rdO (rdC K) dx q n)), some (.dat (.str "weaving")), some (.val (.ref (He.ga K "numbers_in"))), some (.own (.str "weaving" :: (a.map natD).map strW))])) (sx_asgL (P := (· = .str "weaving" :: (a.map natD).map strW)) (evl_meth (B := rdB K H p q ls) (weW a) gh0 rfl (by decide +kernel) (by decide +kernel) eva_nil hln fun k' s r => ⟨r.1, _, r.2, rfl⟩) fun ds e => by rw [e]; rfl) fun δ' e => ?_
  subst e
  have w0 : atI (PyData.str "weaving" :: (a.map natD).map strW) 0 = some (.str "weaving") := by
    rw [show (0 : Int) = ((0 : Nat) : Int) from rfl, atI_nat]; rfl
  exact bx_take (B := rdB K H p q ls) (d := .tuple (a.map natD)) h0p gh0 rfl (calmBut_of (o := none) rfl) (evs_ifT (evt_test (evs_eqT (d := .str "weaving") (evs_ixL (ds := .str "weaving" :: (a.map natD).map strW) (evs_own rfl) evs_int w0) (evs_var rfl) rfl rfl)) (evs_call1L a rfl (eva_c (EvL.evs1 ((evl_slL (lo := some ((1 : Nat) : Int)) (hi := none) (evs_own rfl) (evo_some evs_int) evo_none).imp fun ds e => by rw [e, cutD_from, ← strW_nat]; rfl)) eva_nil) ⟨by omega, g2⟩)) rfl ⟨rfl, rfl⟩
abbrev N_TextReader_finish : List Str := ["self"]
theorem sc_TextReader_finish : FnScope N_TextReader_finish ["self"] (defScope (inClass (top 84) 8)) := ⟨rfl, rfl, rfl, by decide +kernel, rfl, by decide +kernel, by decide +kernel⟩
theorem m_finish (T : TX K mg) : C8.Met P w K mg base 2 (rdC K) "finish" (spR K (rdC K) (fun _ : Unit => []) (fun _ ls k => (k + 1 = ls.length ∧ ls.length ≤ 1000) ∧ ls[k]? = some Str.empty) (fun _ ls k k' s => k' = k ∧ s = .dat .none)) [] := by
  obtain ⟨fd, F⟩ := T.d_TextReader_finish
  refine ⟨_, fd, ["self"], [], T.cls_TextReader, T.me_TextReader_finish, fnR F sc_TextReader_finish (fun _ => rfl) (by intro a s hs ds z; subst z; simp at hs) (fun a => calm_all rfl) fun cdv A outer s H E a p dx q ls n hr ha => ?_, (fun F => F.bindsN (ps := ["self"]) fun _ _ _ _ _ _ us hl => match us, hl with | [_], _ => rfl) F, .nil⟩
  refine ⟨_, (pss_one (ps_if (PW.pt (pw_or (pt_val (C8.pe_mt0 (m_is_more T) hr (by decide) (pv 0))) (pw_or1 (pt_cmpR op_ne (pe_ix ix_list (pe_fld (pv 0) rfl) (pe_fld (pv 0) rfl) (fun _ _ => rfl)) pe_str (nomark _))))) (pss_one ps_never) pss_nil)), ?_⟩
  obtain ⟨⟨h1, h2⟩, h3⟩ := ha
  refine bx_end (k := n) (evt_orF (evt_B (evs_meth (B := rdB K H p q ls) () gh0 rfl (by decide +kernel) (by decide +kernel) eva_nil h2 fun k' s r => ⟨r.1, by rw [r.2, decide_eq_false (by omega)]⟩)) (evt_test (evs_neF (d := .str "") (evs_ixL (B := rdB K H p q ls) (ds := ls.map PyData.str) (i := (n : Int)) (evs_rdL (B := rdB K H p q ls) T.cls_TextReader T.no_TextReader_lines_told gh0 rfl) (evs_rdA (B := rdB K H p q ls) T.cls_TextReader T.no_TextReader_at rfl) ?_) evs_str rfl rfl))) rfl ⟨rfl, rfl⟩
  rw [atI_nat, List.getElem?_map, h3]
  rfl
end
end K32
/-! Walks: whole texts that are read. -/
namespace K32
open PySem PySem.Spec PyProof.Rows L2 TL
local macro_rules | `(tactic| walk_at "ev") => `(tactic| first
  | exact evs_var rfl | exact evs_own rfl | exact evs_int | exact evs_str | exact evs_bl | exact evs_non
  | exact eva_nil | (apply eva_c <;> walk_at "ev")
  | exact evs_isi (evs_var rfl) rfl kit_int_int | exact evs_isi (evs_var rfl) rfl kit_int_bool | exact evs_isi (evs_var rfl) rfl kit_tuple_tuple | exact evs_isi (evs_var rfl) rfl kit_str_str
  | exact evs_ixT (evs_var rfl) evs_int rfl
  | (apply evs_I0 <;> walk_at "ev") | (apply evs_B0 <;> walk_at "ev")
  | (apply evs_andV <;> walk_at "ev") | (apply evs_orV <;> walk_at "ev") | (apply evs_notV; walk_at "ev")
  | (apply evs_chain <;> walk_at "ev")
  | (apply evs_neg; walk_at "ev")
  | (apply evt_test; walk_at "ev") | (apply evt_B; walk_at "ev") | (apply evt_not; walk_at "ev")
  | (apply evt_and1 <;> walk_at "ev") | (apply evt_or1 <;> walk_at "ev")
  | (intro _; walk_at "ev"))
local macro_rules | `(tactic| walk_at "ret") => `(tactic| (apply sx_ret; walk_at "ev"))
/-- a reader is made of a text -/
def spRd (C : Addr) : Sp := fun vs H Q _ => ∃ (p dx : Addr) (x : Str), vs = [.ref p, .str x] ∧ H p = some (.ins C dx []) ∧ x.length ≤ 16000000 ∧
  ∀ G q, (∀ b o, b ≠ p → H b = some o → G b = some o) → G p = some (rdO C dx q 0) → G q = some (.lst ((Txt.split x NLs).map V.str)) → H q = none → Q .non G
theorem q_mkRd {B : Bx} {δ : Dn} {N : PD} {C : Addr} {te : TE} {u : TS} {E : XK} {i : Nat} {x : Str} (h : EvS B te δ (Is (.str x))) (hz : x.length ≤ 16000000)
    (k : ∀ p dx q, B.H0 p = none → SX (B.add [(V.ref q, Sv.lst ((Txt.split x NLs).map PyData.str))]) u (δ.set i (some (.obj p (rdO C dx q 0)))) N) : SX B (tSeq (tAsg (tMake C (spRd C) [] E (tCons te tNil)) (gName i)) u) δ N := fun σ H st D g => h σ H st _ fun v H1 s r1 h1 o1 e => by
  subst e
  cases o1.str_inv
  have st1 := st.mono r1 h1
  intro p dx hp hd ne
  have s1 : Same H1 (upd (upd H1 dx (.own p)) p (.ins C dx [])) := fun b o e => by rw [upd_ne (ne_of_none e hp), upd_ne (ne_of_none e hd)]; exact e
  refine ⟨p, dx, x, rfl, upd_same, hz, fun G q m hG hq hqn => ⟨rfl, ?_⟩⟩
  have s2 : Same H1 G := fun b o e => m b o (ne_of_none e hp) (s1 b o e)
  have qn : H1 q = none := by
    cases e : H1 q with
    | none => rfl
    | some o => rw [s1 q o e] at hqn; cases hqn
  have st2 := st1.mono (.same s2) (h1.same s2)
  have st3 := st2.ghostL (a := q) (s := .lst ((Txt.split x NLs).map PyData.str)) ⟨q, _, rfl, h1.ne_free qn, hq, DTs.of_strs _⟩ fun l es e1 e2 => Bool.noConfusion (show true = false from st1.ne_free qn e1 e2)
  exact k p dx q (st1.h0_free hp) _ _ (st3.set i (s := .obj p (rdO C dx q 0)) ⟨rfl, hG, rfl⟩ rfl) D g.add
section
variable {P : Program} {w : World} {K : PySem.W.Frag} {mg : Str → Option Value} {base : Heap}
theorem lt_fs (x y : V) : putF "at" y (putF "lines_told" x []) = ([("lines_told", x), ("at", y)] : List (Str × V)) := by
  show (if ("lines_told" : Str) = "at" then _ else (("lines_told" : Str), x) :: [(("at" : Str), y)]) = _
  rw [if_neg at_ne]
abbrev N_TextReader_initx : List Str := ["self", "text"]
theorem sc_TextReader_initx : FnScope N_TextReader_initx ["self", "text"] (defScope (inClass (top 84) 0)) := ⟨rfl, rfl, rfl, by decide +kernel, rfl, by decide +kernel, by decide +kernel⟩
theorem k_TextReader (T : TX K mg) : C8.Mak P w K mg base 1 "TextReader" (rdC K) (spRd (rdC K)) [] := by
  obtain ⟨fd, F⟩ := T.d_TextReader_initx
  refine ⟨_, fd, ["self", "text"], [], T.mk_TextReader, F.ok sc_TextReader_initx (fun vs H Q E h => ?_) (fun cdv A outer s H vs Q E hr h => ?_), T.g_TextReader, (fun F => F.bindsN (ps := ["self", "text"]) fun _ _ _ _ _ _ us hl => match us, hl with | [_, _], _ => rfl) F, .nil⟩
  · obtain ⟨p, dx, x, rfl, _⟩ := h
    rfl
  obtain ⟨p, dx, x, rfl, hp, hz, k⟩ := h
  refine ⟨_, PSs.nox (pss_cons (ps_if (pt_not (pt_val (pe_callB b_isi (by rfl) T.n_isinstance bt_isinstance (pa_cons (pv 1) (pa_cons (pe_bltn (v := .ty "str") (by rfl) T.n_str bt_str rfl) pa_nil))))) (pss_one ps_never) pss_nil) (pss_cons (ps_fld (pv 0) (pe_spl (pv 1) (C8.pe_gc rfl T.c_LINE_END)) rfl) (pss_one (ps_fld (pv 0) pe_int rfl)))), ?_⟩
  have st : StB ⟨K, none, H, []⟩ H (start N_TextReader_initx [.ref p, .str x]) (slots N_TextReader_initx [.val (.ref p), .dat (.str x)]) := stb_start .of_none (.cons rfl (.cons (DT.str _) .nil)) (by intro s hs ds z; subst z; simp at hs)
  refine raw_if (evt_notT (evt_B (evs_isi (evs_var rfl) rfl kit_str_str))) st fun H1 st1 => ?_
  have hp1 : H1 p = some (.ins (rdC K) dx []) := st1.rel.none_same _ _ hp
  refine evl_split (B := ⟨K, none, H, []⟩) (x := x) (y := NLs) (evs_var (i := 1) rfl) evs_str (by decide +kernel) hz _ H1 st1 _ fun a xs ds H2 r2 hh2 ha hl t e => ?_
  subst e
  have ex := DTs.strs t
  subst ex
  have hp2 := r2.none_same _ _ hp1
  have nq : a ≠ p := fun z => by rw [z, hp1] at ha; cases ha
  refine ⟨_, rfl, p, rdC K, dx, [], rfl, hp2, T.cls_TextReader, T.no_TextReader_lines_told, (by decide), ?_⟩
  refine ⟨_, rfl, p, rdC K, dx, _, rfl, upd_same, T.cls_TextReader, T.no_TextReader_at, (by show 1 < 1000; decide), ?_⟩
  rw [upd_upd, lt_fs]
  refine k _ a (fun b o hb e => ?_) upd_same (by rw [upd_ne nq]; exact hl) ?_
  · rw [upd_ne hb]
    exact r2.none_same _ _ (st1.rel.none_same _ _ e)
  · cases e : H a with
    | none => rfl
    | some o => rw [st1.rel.none_same _ _ e] at ha; cases ha
theorem ghH {B : Bx} {γ : V × Sv} : γ ∈ (B.add [γ]).gh := List.mem_append_left _ (List.mem_singleton.mpr rfl)
abbrev N_read_weaving : List Str := ["text", "reader", "found"]
theorem sc_read_weaving : FnScope N_read_weaving ["text"] (defScope (top 86)) := ⟨rfl, rfl, rfl, by decide +kernel, rfl, by decide +kernel, by decide +kernel⟩
theorem c_read_weaving (T : TX K mg) : C8.Cal P w K mg base 4 "read_weaving" (spS K (fun ns : List Nat => [.dat (.str (textD [weW ns]))]) (fun ns => ns.length ≤ 90 ∧ ∀ n ∈ ns, n < 10 ^ 20) (fun ns => Is (.tuple (ns.map natD)))) [] := by
  refine cal_of T.d_read_weaving (fun F => F.bindsN (ps := ["text"]) fun _ _ _ _ _ _ us hl => match us, hl with | [_], _ => rfl) fun F => fnS F sc_read_weaving (fun _ => rfl) (by intro a s hs ds z; subst z; simp at hs) fun cdv A outer s H E a hr ha => ?_
  refine ⟨_, (pss_cons (ps_set (i := 1) sc_read_weaving.nd rfl (Or.inl rfl) (C8.pe_mk (k_TextReader T) hr (by decide) rfl (pa_cons (pv 0) pa_nil))) (pss_cons (ps_set (i := 2) sc_read_weaving.nd rfl (Or.inl rfl) (C8.pe_mt (m_take_behind T) hr (by decide) (pv 1) (pa_cons (C8.pe_gc rfl T.c_WEAVING) (pa_cons (pe_glob (v := .ref (He.ga K "numbers_in")) rfl T.d_numbers_in.mgf rfl) pa_nil)))) (pss_cons (ps_expr (C8.pe_mt0 (m_finish T) hr (by decide) (pv 1))) (pss_one (ps_ret (pv 2)))))), ?_⟩
  obtain ⟨g1, g2⟩ := ha
  have ok := weW_ok g1 g2
  have ok1 : ∀ l ∈ [weW a], LineOk l := fun l hl => by rw [List.mem_singleton.mp hl]; exact ok
  have hz := text_len ok1
  refine q_mkRd (evs_var rfl) (by have : [weW a].length = 1 := rfl; omega) fun p dx q h0 => ?_
  rw [text_split ok1]
  have hln : LnAt ([weW a].map lineD ++ [Str.empty]) 0 (weW a) := ⟨rfl, ok, (show 1 < 2 by decide), (show 2 ≤ 1000 by decide)⟩
  refine q_asgM (evm_meth (α := List Nat) a h0 ghH rfl (calmBut_of (o := none) rfl) (by decide +kernel) (by decide +kernel) (eva_c evs_str (eva_c evs_val eva_nil)) ⟨⟨g1, g2⟩, hln⟩ fun k' s r => by rw [r.2]; rfl) fun s δ' ⟨k', r, e⟩ => ?_
  obtain ⟨r1, r2⟩ := r
  subst e r1 r2
  refine sx_seq (G := (· = [some (.dat (.str (textD [weW a]))), some (.obj p (rdO (rdC K) dx q 1)), some (.dat (.tuple (a.map natD)))])) (sx_drop (P := fun _ => True) (evs_meth (α := Unit) () ghH rfl (by decide +kernel) (by decide +kernel) eva_nil ⟨⟨rfl, (show 2 ≤ 1000 by decide)⟩, rfl⟩ fun k' s r => ⟨r.1, trivial⟩) rfl) fun δ' e => ?_
  subst e
  exact sx_ret (evs_var rfl) rfl
end
end K32
/-! Walks: plays and records that are read. -/
namespace K32
open PySem PySem.Spec PyProof.Rows L2 TL
local macro_rules | `(tactic| walk_at "ev") => `(tactic| first
  | exact evs_var rfl | exact evs_own rfl | exact evs_int | exact evs_str | exact evs_bl | exact evs_non
  | exact eva_nil | (apply eva_c <;> walk_at "ev")
  | exact evs_isi (evs_var rfl) rfl kit_int_int | exact evs_isi (evs_var rfl) rfl kit_int_bool | exact evs_isi (evs_var rfl) rfl kit_tuple_tuple | exact evs_isi (evs_var rfl) rfl kit_str_str
  | exact evs_ixT (evs_var rfl) evs_int rfl
  | (apply evs_I0 <;> walk_at "ev") | (apply evs_B0 <;> walk_at "ev")
  | (apply evs_andV <;> walk_at "ev") | (apply evs_orV <;> walk_at "ev") | (apply evs_notV; walk_at "ev")
  | (apply evs_chain <;> walk_at "ev")
  | (apply evs_neg; walk_at "ev")
  | (apply evt_test; walk_at "ev") | (apply evt_B; walk_at "ev") | (apply evt_not; walk_at "ev")
  | (apply evt_and1 <;> walk_at "ev") | (apply evt_or1 <;> walk_at "ev")
  | (intro _; walk_at "ev"))
local macro_rules | `(tactic| walk_at "ret") => `(tactic| (apply sx_ret; walk_at "ev"))
theorem plW_get {i : Inp} {j : Nat} {x : PyData × List PyData} (h : (rowsP i)[j]? = some x) : (plW i)[1 + (headW i).length + j]? = some (.str "hand" :: x.2) := by
  unfold plW
  rw [show 1 + (headW i).length + j = ((headW i).length + j) + 1 by omega, List.getElem?_cons_succ, List.getElem?_append_right (by omega), show (headW i).length + j - (headW i).length = j by omega, List.getElem?_map, ← rowsP_snd, List.getElem?_map, h]
  rfl
theorem plW_all (i : Inp) : (plW i).length = 1 + (headW i).length + (rowsP i).length := by
  unfold plW
  rw [List.length_cons, List.length_append, List.length_map, rowW_len, rowsP_len]
  omega
theorem ln_at {ls : List (List PyData)} (ok : ∀ l ∈ ls, LineOk l) (hz : ls.length ≤ 400) {k : Nat} {l : List PyData} (h : ls[k]? = some l) : LnAt (ls.map lineD ++ [Str.empty]) k l := by
  obtain ⟨hk, e⟩ := List.getElem?_eq_some_iff.mp h
  refine ⟨?_, ok l (List.mem_of_getElem? h), ?_, ?_⟩
  · rw [List.getElem?_append_left (by rw [List.length_map]; exact hk), List.getElem?_map, h]; rfl
  · rw [List.length_append, List.length_map]; show k + 1 < ls.length + 1; omega
  · rw [List.length_append, List.length_map]; show ls.length + 1 ≤ 1000; omega
theorem ln_end (ls : List (List PyData)) (hz : ls.length ≤ 400) : (ls.length + 1 = (ls.map lineD ++ [Str.empty]).length ∧ (ls.map lineD ++ [Str.empty]).length ≤ 1000) ∧ (ls.map lineD ++ [Str.empty])[ls.length]? = some Str.empty := by
  have e : (ls.map lineD ++ [Str.empty]).length = ls.length + 1 := by rw [List.length_append, List.length_map]; rfl
  refine ⟨⟨e.symm, by omega⟩, ?_⟩
  rw [List.getElem?_append_right (by rw [List.length_map]; exact Nat.le_refl _), List.length_map, Nat.sub_self]
  rfl
abbrev spHand (K : PySem.W.Frag) : Sp := spR K (rdC K) (fun x : Inp × PyData × List PyData => [.dat (.str x.1.kind)]) (fun x ls k => RowRel x.1 x.2.1 x.2.2 ∧ LnAt ls k (.str "hand" :: x.2.2)) (fun x _ k k' s => k' = k + 1 ∧ s = .dat x.2.1)
abbrev spNumber (K : PySem.W.Frag) : Sp := spR K (rdC K) (fun x : Str × Nat => [.dat (.str x.1)]) (fun x ls k => LnAt ls k [.str x.1, natD x.2] ∧ x.2 < 10 ^ 20) (fun x _ k k' s => k' = k + 1 ∧ s = .dat (natD x.2))
section
variable {B : Bx} {δ : Dn} {i : Nat} {p dx q : Addr} {k : Nat} {ls : List Str} {te : TE}
abbrev spKind (K : PySem.W.Frag) : Sp := spR K (rdC K) (fun _ : Inp => []) (fun i ls k => LnAt ls k [.str "kind", .str i.kind]) (fun i _ k k' s => k' = k + 1 ∧ s = .dat (.str i.kind))
theorem evm_kind (x : Inp) (h0 : B.H0 p = none) (hg : (V.ref q, Sv.lst (ls.map PyData.str)) ∈ B.gh) (hi : δ[i]? = some (some (.obj p (rdO (rdC B.K) dx q k)))) (hc : calmBut δ i) (hd : LnAt ls k [.str "kind", .str x.kind]) :
    EvM B (tMeth (rdC B.K) "take_kind" (spKind B.K) [] C8.E0 (tVar i) tNil) δ (fun s δ' => s = .dat (.str x.kind) ∧ δ' = δ.set i (some (.obj p (rdO (rdC B.K) dx q (k + 1))))) :=
  (evm_meth (α := Inp) (m := "take_kind") x h0 hg hi hc (by decide +kernel) (by decide +kernel) eva_nil hd fun k' s r => by rw [r.2]; rfl).imp fun s δ' ⟨k', r, e⟩ => ⟨r.2, by rw [e, r.1]⟩
theorem evm_hand (x : Inp × PyData × List PyData) (h0 : B.H0 p = none) (hg : (V.ref q, Sv.lst (ls.map PyData.str)) ∈ B.gh) (hi : δ[i]? = some (some (.obj p (rdO (rdC B.K) dx q k)))) (hc : calmBut δ i) (h : EvS B te δ (Is (.str x.1.kind))) (hd : RowRel x.1 x.2.1 x.2.2 ∧ LnAt ls k (.str "hand" :: x.2.2)) :
    EvM B (tMeth (rdC B.K) "take_hand" (spHand B.K) [] C8.E0 (tVar i) (tCons te tNil)) δ (fun s δ' => s = .dat x.2.1 ∧ δ' = δ.set i (some (.obj p (rdO (rdC B.K) dx q (k + 1))))) :=
  (evm_meth (α := Inp × PyData × List PyData) (m := "take_hand") x h0 hg hi hc (by decide +kernel) (by decide +kernel) (eva_c h eva_nil) hd fun k' s r => by rw [r.2]; rfl).imp fun s δ' ⟨k', r, e⟩ => ⟨r.2, by rw [e, r.1]⟩
theorem evm_number (x : Str × Nat) (h0 : B.H0 p = none) (hg : (V.ref q, Sv.lst (ls.map PyData.str)) ∈ B.gh) (hi : δ[i]? = some (some (.obj p (rdO (rdC B.K) dx q k)))) (hc : calmBut δ i) (h : EvS B te δ (Is (.str x.1))) (hd : LnAt ls k [.str x.1, natD x.2] ∧ x.2 < 10 ^ 20) :
    EvM B (tMeth (rdC B.K) "take_number" (spNumber B.K) [] C8.E0 (tVar i) (tCons te tNil)) δ (fun s δ' => s = .dat (natD x.2) ∧ δ' = δ.set i (some (.obj p (rdO (rdC B.K) dx q (k + 1))))) :=
  (evm_meth (α := Str × Nat) (m := "take_number") x h0 hg hi hc (by decide +kernel) (by decide +kernel) (eva_c h eva_nil) hd fun k' s r => by rw [r.2]; rfl).imp fun s δ' ⟨k', r, e⟩ => ⟨r.2, by rw [e, r.1]⟩
end
section
variable {P : Program} {w : World} {K : PySem.W.Frag} {mg : Str → Option Value} {base : Heap}
abbrev N_read_play : List Str := ["text", "reader", "kind", "rounds", "rows"]
theorem sc_read_play : FnScope N_read_play ["text"] (defScope (top 85)) := ⟨rfl, rfl, rfl, by decide +kernel, rfl, by decide +kernel, by decide +kernel⟩
theorem c_read_play (T : TX K mg) : C8.Cal P w K mg base 10 "read_play" (spS K (fun i : Inp => [.dat (.str (textD (plW i)))]) Inp.ok (fun i s => s = plS K i)) [] := by
  refine cal_of T.d_read_play (fun F => F.bindsN (ps := ["text"]) fun _ _ _ _ _ _ us hl => match us, hl with | [_], _ => rfl) fun F => fnS F sc_read_play (fun _ => rfl) (by intro a s hs ds z; subst z; simp at hs) fun cdv A outer s H E a hr ha => ?_
  refine ⟨_, (pss_cons (ps_set (i := 1) sc_read_play.nd rfl (Or.inl rfl) (C8.pe_mk (k_TextReader T) hr (by decide) rfl (pa_cons (pv 0) pa_nil))) (pss_cons (ps_set (i := 2) sc_read_play.nd rfl (Or.inl rfl) (C8.pe_mt0 (m_take_kind T) hr (by decide) (pv 1))) (pss_cons (ps_set (i := 3) sc_read_play.nd rfl (Or.inl rfl) (pe_ifExp (pt_cmpR op_eq (pv 2) (C8.pe_gc rfl T.c_NEAR) (nomark _)) (C8.pe_mt (m_take_number T) hr (by decide) (pv 1) (pa_cons (C8.pe_gc rfl T.c_ROUNDS) pa_nil)) pe_non)) (pss_cons (ps_set (i := 4) sc_read_play.nd rfl (Or.inl rfl) (pe_lst (pa_cons (C8.pe_mt (m_take_hand T) hr (by decide) (pv 1) (pa_cons (pv 2) pa_nil)) pa_nil))) (pss_cons (ps_while PassesOwn.never (pt_val (C8.pe_mt0 (m_is_more T) hr (by decide) (pv 1))) (pss_one (ps_expr (pe_app (pv 4) (C8.pe_mt (m_take_hand T) hr (by decide) (pv 1) (pa_cons (pv 2) pa_nil)))))) (pss_cons (ps_expr (C8.pe_mt0 (m_finish T) hr (by decide) (pv 1))) (pss_one (ps_ret (C8.pe_mk (k_Play T) hr (by decide) rfl (pa_cons (pv 2) (pa_cons (pe_ifExp (pt_cmpR op_eq (pv 2) (C8.pe_gc rfl T.c_NEAR) (nomark _)) (pe_tup (pa_cons (pv 3) (pa_cons (pe_callTy b_tupO (by rfl) T.n_tuple bt_tuple (pa_cons (pv 4) pa_nil)) pa_nil))) (pe_callTy b_tupO (by rfl) T.n_tuple bt_tuple (pa_cons (pv 4) pa_nil))) pa_nil))))))))))), ?_⟩
  have ok := plW_ok ha
  have hz := plW_len ha
  have hlen := text_len ok
  have hpa := plW_all a
  have hrl := rowsP_len a
  have hr1 := ha.1.1
  have kd := kind_dec a
  refine q_mkRd (x := textD (plW a)) (evs_var rfl) (by omega) fun p dx q h0 => ?_
  rw [text_split ok]
  refine q_asgM (evm_kind (B := Bx.add ⟨K, none, H, []⟩ _) a h0 ghH rfl (calmBut_of (o := none) rfl) (ln_at ok (by omega) (k := 0) rfl)) fun s δ' ⟨e1, e2⟩ => ?_
  subst e1 e2
  let R : PyData := match a with | .near r _ => natD r | _ => .none
  let hd := 1 + (headW a).length
  refine q_asgM (R := fun s δ' => s = .dat R ∧ δ' = [some (.dat (.str (textD (plW a)))), some (.obj p (rdO (rdC K) dx q hd)), some (.dat (.str a.kind)), none, none]) (evm_if (b := a.isNear) (evt_test (evs_isK (x := a.kind) (y := "near") (b := a.isNear) (evs_var rfl) kd.1)) (fun e => ?_) fun e => ?_) fun s δ' ⟨e1, e2⟩ => ?_
  · cases a with
    | near r vs =>
      have hr6 : 1 ≤ r ∧ r ≤ 6 := ha.2.1
      exact (evm_number (B := Bx.add ⟨K, none, H, []⟩ _) ("rounds", r) h0 ghH rfl (calmBut_of (o := none) rfl) evs_str ⟨ln_at ok (by omega) (k := 1) rfl, (by show r < 10 ^ 20; omega)⟩).imp fun s δ' ⟨e1, e2⟩ => ⟨e1, by rw [e2]; rfl⟩
    | _ => cases e
  · cases a with
    | near r vs => cases e
    | _ => exact (evs_non.evm fun s e => by rw [e]; rfl).imp fun s δ' ⟨e1, e2⟩ => ⟨e1, e2⟩
  · subst e1 e2
    have hand : ∀ (B : Bx) (j : Nat) (x : PyData × List PyData) (rs : Option Sv) (δ : Dn), (rowsP a)[j]? = some x → B.K = K → B.H0 p = none → (V.ref q, Sv.lst (((plW a).map lineD ++ [Str.empty]).map PyData.str)) ∈ B.gh → δ = [some (.dat (.str (textD (plW a)))), some (.obj p (rdO (rdC K) dx q (hd + j))), some (.dat (.str a.kind)), some (.dat R), rs] → (∀ s, rs = some s → s.calm = true) →
        EvM B (tMeth (rdC K) "take_hand" (spHand K) [] C8.E0 (tVar 1) (tCons (tVar 2) tNil)) δ (fun s δ' => ∃ d, s = .dat d ∧ d = x.1 ∧ δ' = [some (.dat (.str (textD (plW a)))), some (.obj p (rdO (rdC K) dx q (hd + (j + 1)))), some (.dat (.str a.kind)), some (.dat R), rs]) := fun B j x rs δ hx hK hh0 hgg hδ hrs => by
      subst hK
      have h1 : δ[1]? = some (some (.obj p (rdO (rdC B.K) dx q (hd + j)))) := by rw [hδ]; rfl
      have h2 : δ[2]? = some (some (.dat (.str a.kind))) := by rw [hδ]; rfl
      have hc : calmBut δ 1 := fun j s hj e => by
        rw [hδ] at e
        match j, hj, e with
        | 0, _, e => cases e; rfl
        | 1, hj, _ => exact absurd rfl hj
        | 2, _, e => cases e; rfl
        | 3, _, e => cases e; rfl
        | 4, _, e => exact hrs s (Option.some.inj e)
        | (j + 5), _, e => cases e
      exact (evm_hand (B := B) (δ := δ) (i := 1) (a, x.1, x.2) hh0 hgg h1 hc (evs_var h2) ⟨rowsP_rel ha x (List.mem_of_getElem? hx), ln_at ok (by omega) (plW_get hx)⟩).imp fun s δ' ⟨e1, e2⟩ => ⟨x.1, e1, rfl, by rw [e2, hδ]; rfl⟩
    obtain ⟨x0, hx0⟩ : ∃ x, (rowsP a)[0]? = some x := ⟨_, List.getElem?_eq_getElem (by omega)⟩
    refine q_lstM (hand _ 0 x0 none _ hx0 rfl h0 ghH rfl (fun s e => by cases e)) fun d δ' ⟨e1, e2⟩ => ?_
    subst e1 e2
    let I : Nat → Dn → Prop := fun m δ => ∃ j, 1 ≤ j ∧ j ≤ (rowsP a).length ∧ m = (rowsP a).length - j ∧ δ = [some (.dat (.str (textD (plW a)))), some (.obj p (rdO (rdC K) dx q (hd + j))), some (.dat (.str a.kind)), some (.dat R), some (.own (((rowsP a).take j).map (·.1)))]
    have t1 : [x0.1] = ((rowsP a).take 1).map (·.1) := by
      rw [List.take_succ, hx0]; rfl
    refine sx_seq (G := I 0) (sx_while I ((rowsP a).length - 1) ⟨1, Nat.le_refl _, by omega, rfl, by rw [← t1]; rfl⟩ fun m δ' q1 => ?_) fun δ' q1 => ?_
    · obtain ⟨j, j1, j2, em, e⟩ := q1
      subst em e
      refine ⟨(· = decide (hd + j + 1 < ((plW a).map lineD ++ [Str.empty]).length)), evt_B (evs_meth (α := Unit) () ghH rfl (by decide +kernel) (by decide +kernel) eva_nil (ln_end (plW a) (by omega)).1.2 fun k' s r => r), fun e => ?_, fun e => ?_⟩
      · have e' := of_decide_eq_true e.symm
        rw [← (ln_end (plW a) (by omega)).1.1] at e'
        have hj : j < (rowsP a).length := by omega
        refine sx_appM (j := 4) (ds := ((rowsP a).take j).map (·.1)) rfl (hand _ j _ _ _ (List.getElem?_eq_getElem hj) rfl h0 ghH rfl (fun s e => by cases e; rfl)) (fun d δ' ⟨_, e2⟩ => by rw [e2]; rfl) (by rw [List.length_map, List.length_take]; omega) fun d δ' ⟨e1, e2⟩ => ?_
        subst e1 e2
        refine ⟨(rowsP a).length - (j + 1), by omega, j + 1, by omega, by omega, rfl, ?_⟩
        rw [List.take_succ, List.getElem?_eq_getElem hj, List.map_append]
        rfl
      · have e' := of_decide_eq_false e.symm
        rw [← (ln_end (plW a) (by omega)).1.1] at e'
        exact ⟨j, j1, j2, by omega, rfl⟩
    · obtain ⟨j, j1, j2, em, e⟩ := q1
      have ej : j = (rowsP a).length := by omega
      subst ej e
      rw [List.take_length, rowsP_fst]
      have hk : hd + (rowsP a).length = (plW a).length := hpa.symm
      rw [hk]
      refine sx_seq (G := (· = [some (.dat (.str (textD (plW a)))), some (.obj p (rdO (rdC K) dx q (plW a).length)), some (.dat (.str a.kind)), some (.dat R), some (.own a.rows)])) (sx_drop (P := fun _ => True) (evs_meth (α := Unit) () ghH rfl (by decide +kernel) (by decide +kernel) eva_nil (ln_end (plW a) (by omega)) fun k' s r => ⟨r.1, trivial⟩) rfl) fun δ' e => ?_
      subst e
      refine sx_retP (evs_make (α := Inp) a (eva_c (evs_var rfl) (eva_c ?_ eva_nil)) ha) (fun s e => by rw [e]; rfl) fun s e => e
      cases a with
      | near r vs => exact evs_ifT (evt_test (evs_isK (x := "near") (evs_var rfl) kd.1)) (evs_tup (ds := [natD r, .tuple (vs.map PyData.int)]) (eva_c (evs_var rfl) (eva_c (evs_tupleL1 (evs_own rfl)) eva_nil)))
      | man k ss => exact evs_ifF (evt_test (evs_isK (x := k.s) (evs_var rfl) kd.1)) (evs_tupleL1 (evs_own rfl))
      | lev vs => exact evs_ifF (evt_test (evs_isK (x := "levels") (evs_var rfl) kd.1)) (evs_tupleL1 (evs_own rfl))
      | nam vs => exact evs_ifF (evt_test (evs_isK (x := "names") (evs_var rfl) kd.1)) (evs_tupleL1 (evs_own rfl))
      | cha vs => exact evs_ifF (evt_test (evs_isK (x := "chain") (evs_var rfl) kd.1)) (evs_tupleL1 (evs_own rfl))
end
end K32
/-! Walks: records that are read. -/
namespace K32
open PySem PySem.Spec PyProof.Rows L2 TL
local macro_rules | `(tactic| walk_at "ev") => `(tactic| first
  | exact evs_var rfl | exact evs_own rfl | exact evs_int | exact evs_str | exact evs_bl | exact evs_non
  | exact eva_nil | (apply eva_c <;> walk_at "ev")
  | exact evs_isi (evs_var rfl) rfl kit_int_int | exact evs_isi (evs_var rfl) rfl kit_int_bool | exact evs_isi (evs_var rfl) rfl kit_tuple_tuple | exact evs_isi (evs_var rfl) rfl kit_str_str
  | exact evs_ixT (evs_var rfl) evs_int rfl
  | (apply evs_I0 <;> walk_at "ev") | (apply evs_B0 <;> walk_at "ev")
  | (apply evs_andV <;> walk_at "ev") | (apply evs_orV <;> walk_at "ev") | (apply evs_notV; walk_at "ev")
  | (apply evs_chain <;> walk_at "ev")
  | (apply evs_neg; walk_at "ev")
  | (apply evt_test; walk_at "ev") | (apply evt_B; walk_at "ev") | (apply evt_not; walk_at "ev")
  | (apply evt_and1 <;> walk_at "ev") | (apply evt_or1 <;> walk_at "ev")
  | (intro _; walk_at "ev"))
local macro_rules | `(tactic| walk_at "ret") => `(tactic| (apply sx_ret; walk_at "ev"))
section
variable {P : Program} {w : World} {K : PySem.W.Frag} {mg : Str → Option Value} {base : Heap}
abbrev N_read_record : List Str := ["text", "reader", "many", "calls"]
theorem sc_read_record : FnScope N_read_record ["text"] (defScope (top 87)) := ⟨rfl, rfl, rfl, by decide +kernel, rfl, by decide +kernel, by decide +kernel⟩
theorem c_read_record (T : TX K mg) : C8.Cal P w K mg base 7 "read_record" (spS K (fun r : Nat × List Call => [.dat (.str (textD (reW r.1 r.2)))]) (fun r => RecOk r.1 r.2 ∧ ∀ c ∈ r.2, c.short) (fun r s => s = reS K r)) [] := by
  refine cal_of T.d_read_record (fun F => F.bindsN (ps := ["text"]) fun _ _ _ _ _ _ us hl => match us, hl with | [_], _ => rfl) fun F => fnS F sc_read_record (fun _ => rfl) (by intro a s hs ds z; subst z; simp at hs) fun cdv A outer s H E a hr ha => ?_
  refine ⟨_, (pss_cons (ps_set (i := 1) sc_read_record.nd rfl (Or.inl rfl) (C8.pe_mk (k_TextReader T) hr (by decide) rfl (pa_cons (pv 0) pa_nil))) (pss_cons (ps_set (i := 2) sc_read_record.nd rfl (Or.inl rfl) (C8.pe_mt (m_take_number T) hr (by decide) (pv 1) (pa_cons (C8.pe_gc rfl T.c_HANDS) pa_nil))) (pss_cons (ps_set (i := 3) sc_read_record.nd rfl (Or.inl rfl) (pe_lst pa_nil)) (pss_cons (ps_while PassesOwn.never (pt_val (C8.pe_mt0 (m_is_more T) hr (by decide) (pv 1))) (pss_one (ps_expr (pe_app (pv 3) (C8.pe_mt (m_take T) hr (by decide) (pv 1) (pa_cons (C8.pe_c (c_read_call T) hr (by decide) rfl (pa_cons (C8.pe_mt0 (m_next_words T) hr (by decide) (pv 1)) pa_nil)) pa_nil)))))) (pss_cons (ps_expr (C8.pe_mt0 (m_finish T) hr (by decide) (pv 1))) (pss_one (ps_ret (C8.pe_mk (k_Record T) hr (by decide) rfl (pa_cons (pv 2) (pa_cons (pe_callTy b_tupO (by rfl) T.n_tuple bt_tuple (pa_cons (pv 3) pa_nil)) pa_nil)))))))))), ?_⟩
  obtain ⟨m, cs⟩ := a
  obtain ⟨h, hs⟩ := ha
  have hr : RecOk m cs := h
  have hs : ∀ c ∈ cs, c.short := hs
  have ok := reW_ok hr hs
  have hl : cs.length ≤ 300 := hr.len
  have hm : m ≤ 8 := hr.hi
  have hwl : (reW m cs).length = cs.length + 1 := by unfold reW; rw [List.length_cons, List.length_map]
  have hlen := text_len ok
  refine q_mkRd (x := textD (reW m cs)) (evs_var rfl) (by omega) fun p dx q h0 => ?_
  rw [text_split ok]
  refine q_asgM (evm_number (B := Bx.add ⟨K, none, H, []⟩ _) ("hands", m) h0 ghH rfl (calmBut_of (o := none) rfl) evs_str ⟨ln_at ok (by omega) (k := 0) rfl, (by show m < 10 ^ 20; omega)⟩) fun s δ' ⟨e1, e2⟩ => ?_
  subst e1 e2
  refine q_asgL1 (evl_lst (ds := []) eva_nil) ?_
  let I : Nat → Dn → Prop := fun k δ => ∃ j, j ≤ cs.length ∧ k = cs.length - j ∧ δ = [some (.dat (.str (textD (reW m cs)))), some (.obj p (rdO (rdC K) dx q (1 + j))), some (.dat (natD m)), some (.own ((cs.take j).map Call.d))]
  refine sx_seq (G := I 0) (sx_while I cs.length ⟨0, Nat.zero_le _, rfl, rfl⟩ fun k δ' q1 => ?_) fun δ' q1 => ?_
  · obtain ⟨j, j2, em, e⟩ := q1
    subst em e
    refine ⟨(· = decide (1 + j + 1 < ((reW m cs).map lineD ++ [Str.empty]).length)), evt_B (evs_meth (α := Unit) () ghH rfl (by decide +kernel) (by decide +kernel) eva_nil (ln_end (reW m cs) (by omega)).1.2 fun k' s r => r), fun e => ?_, fun e => ?_⟩
    · have e' := of_decide_eq_true e.symm
      rw [← (ln_end (reW m cs) (by omega)).1.1] at e'
      have hj : j < cs.length := by omega
      have hc := List.getElem_mem hj
      have hln : LnAt ((reW m cs).map lineD ++ [Str.empty]) (1 + j) (callW cs[j]) := ln_at ok (by omega) (by
        unfold reW
        rw [Nat.add_comm 1 j, List.getElem?_cons_succ, List.getElem?_map, List.getElem?_eq_getElem hj]; rfl)
      refine sx_appM (j := 3) (ds := (cs.take j).map Call.d) (G := fun d δ' => d = cs[j].d ∧ δ' = [some (.dat (.str (textD (reW m cs)))), some (.obj p (rdO (rdC K) dx q (1 + (j + 1)))), some (.dat (natD m)), some (.own ((cs.take j).map Call.d))]) rfl ((evm_take (B := Bx.add ⟨K, none, H, []⟩ _) (i := 1) (d := cs[j].d) h0 ghH rfl (calmBut_of (o := none) rfl) (evs_call1 cs[j] (eva_c (EvL.evs1 (evl_meth (α := List PyData) (callW cs[j]) ghH rfl (by decide +kernel) (by decide +kernel) eva_nil hln fun k' s r => ⟨r.1, _, r.2, rfl⟩)) eva_nil) ⟨⟨m, hm, hr.each _ hc⟩, hs _ hc⟩) rfl).imp fun s δ' ⟨e1, e2⟩ => ⟨_, e1, rfl, by rw [e2]; rfl⟩) (fun d δ' ⟨_, e2⟩ => by rw [e2]; rfl) (by rw [List.length_map, List.length_take]; omega) fun d δ' ⟨e1, e2⟩ => ?_
      subst e1 e2
      refine ⟨cs.length - (j + 1), by omega, j + 1, by omega, rfl, ?_⟩
      rw [List.take_succ, List.getElem?_eq_getElem hj, List.map_append]
      rfl
    · have e' := of_decide_eq_false e.symm
      rw [← (ln_end (reW m cs) (by omega)).1.1] at e'
      exact ⟨j, j2, by omega, rfl⟩
  · obtain ⟨j, j2, em, e⟩ := q1
    have ej : j = cs.length := by omega
    subst ej e
    rw [List.take_length, show 1 + cs.length = (reW m cs).length by omega]
    refine sx_seq (G := (· = [some (.dat (.str (textD (reW m cs)))), some (.obj p (rdO (rdC K) dx q (reW m cs).length)), some (.dat (natD m)), some (.own (cs.map Call.d))])) (sx_drop (P := fun _ => True) (evs_meth (α := Unit) () ghH rfl (by decide +kernel) (by decide +kernel) eva_nil (ln_end (reW m cs) (by omega)) fun k' s r => ⟨r.1, trivial⟩) rfl) fun δ' e => ?_
    subst e
    exact sx_retP (evs_make (α := Nat × List Call) (m, cs) (eva_c (evs_var rfl) (eva_c (evs_tupleL1 (evs_own rfl)) eva_nil)) hr) (fun s e => by rw [e]; rfl) fun s e => e
end
end K32
/-! Walks: the law's lines. -/
namespace K32
open PySem PySem.Spec PyProof.Rows L2 TL
local macro_rules | `(tactic| walk_at "ev") => `(tactic| first
  | exact evs_var rfl | exact evs_own rfl | exact evs_int | exact evs_str | exact evs_bl | exact evs_non
  | exact eva_nil | (apply eva_c <;> walk_at "ev")
  | exact evs_isi (evs_var rfl) rfl kit_int_int | exact evs_isi (evs_var rfl) rfl kit_int_bool | exact evs_isi (evs_var rfl) rfl kit_tuple_tuple | exact evs_isi (evs_var rfl) rfl kit_str_str
  | exact evs_ixT (evs_var rfl) evs_int rfl
  | (apply evs_I0 <;> walk_at "ev") | (apply evs_B0 <;> walk_at "ev")
  | (apply evs_andV <;> walk_at "ev") | (apply evs_orV <;> walk_at "ev") | (apply evs_notV; walk_at "ev")
  | (apply evs_chain <;> walk_at "ev")
  | (apply evs_neg; walk_at "ev")
  | (apply evt_test; walk_at "ev") | (apply evt_B; walk_at "ev") | (apply evt_not; walk_at "ev")
  | (apply evt_and1 <;> walk_at "ev") | (apply evt_or1 <;> walk_at "ev")
  | (intro _; walk_at "ev"))
local macro_rules | `(tactic| walk_at "ret") => `(tactic| (apply sx_ret; walk_at "ev"))
section
variable {B : Bx} {δ : Dn} {te tb : TE} {tt : TT} {t u w : TS} {N : PD}
theorem q_yesF (h : EvT B tt δ (· = true)) (h2 : SX B u δ { N with nx := fun _ => False }) : SX B (tSeq (tIfS tt u w) t) δ N := sx_seq (G := fun _ => False) (sx_yes h h2) fun _ q => q.elim
theorem evs_joinD {l : List PyData} (h : LineOk l) (hb : EvS B tb δ (· = .lst (l.map strW))) : EvS B (tM1 (rJoin B.K) (tC (.str " ")) tb) δ (Is (.str (lineD l))) := by
  refine evs_join (x := BL) (ys := l.map wordD) evs_str (hb.imp fun s e => by rw [e, List.map_map]; rfl) ?_
  have : ((l.map wordD).map (·.length)).sum ≤ 30 * (l.map wordD).length := by
    have := sum_le (l := (l.map wordD).map (·.length)) (k := 30) fun x hx => by
      obtain ⟨y, hy, rfl⟩ := List.mem_map.mp hx
      obtain ⟨d, hd, rfl⟩ := List.mem_map.mp hy
      exact (h.2.2 d hd).2.2.2
    rwa [List.length_map (as := l.map wordD)] at this
  rw [show BL.length = 1 by decide +kernel]
  rw [List.length_map] at this ⊢
  have := h.2.1
  omega
end
theorem pre_word {a b : Str} (h : tl a = tl b ++ [32]) (x : Str) : a ++ x = lineS [b, x] := by
  refine ext_tl ?_
  rw [line_two, tl_append, tl_append, tl_append, tl_BL, h]
theorem pre_kind (x : Str) : ("kind " : Str) ++ x = lineS ["kind", x] := pre_word (by decide +kernel) x
theorem pre_rounds (x : Str) : ("rounds " : Str) ++ x = lineS ["rounds", x] := pre_word (by decide +kernel) x
theorem pre_hands (x : Str) : ("hands " : Str) ++ x = lineS ["hands", x] := pre_word (by decide +kernel) x
section
variable {P : Program} {w : World} {K : PySem.W.Frag} {mg : Str → Option Value} {base : Heap}
abbrev N_law_play_lines : List Str := ["_law_kind", "_law_inputs_here", "_law_found", "_law_values", "_law_value", "_law_words", "_law_deed", "_law_part", "_law_item"]
theorem sc_law_play_lines : FnScope N_law_play_lines ["_law_kind", "_law_inputs_here"] (defScope (top 137)) := ⟨rfl, rfl, rfl, by decide +kernel, rfl, by decide +kernel, by decide +kernel⟩
theorem c_law_play_lines (T : TX K mg) : C8.Cal P w K mg base 1 "_law_play_lines" (spS K (fun i : Inp => [.dat (.str i.kind), .dat i.inputs]) Inp.ok (fun i s => s = .lst (((plW i).map lineD).map PyData.str))) [] := by
  refine cal_of T.d_law_play_lines (fun F => F.bindsN (ps := ["_law_kind", "_law_inputs_here"]) fun _ _ _ _ _ _ us hl => match us, hl with | [_, _], _ => rfl) fun F => fnS F sc_law_play_lines (fun _ => rfl) (by intro a s hs ds z; subst z; simp at hs) fun cdv A outer s H E a hr ha => ?_
  refine ⟨_, (pss_cons (ps_set (i := 2) sc_law_play_lines.nd rfl (Or.inl rfl) (pe_lst (pa_cons (pe_op o_addS pe_str (pv 0)) pa_nil))) (pss_cons (ps_set (i := 3) sc_law_play_lines.nd rfl (Or.inl rfl) (pv 1)) (pss_cons (ps_if (pt_cmpR op_eq (pv 0) pe_str (nomark _)) (pss_cons (ps_expr (pe_app (pv 2) (pe_op o_addS pe_str (pe_callTy b_str (by rfl) T.n_str bt_str (pa_cons (pe_ix ix_tup (pv 1) pe_int (fun _ _ => rfl)) pa_nil))))) (pss_one (ps_set (i := 3) sc_law_play_lines.nd rfl (Or.inl rfl) (pe_ix ix_tup (pv 1) pe_int (fun _ _ => rfl))))) pss_nil) (pss_cons (ps_for PassesOwn.never rfl (pi_tup (pv 3)) (pg_name (i := 4) sc_law_play_lines.nd rfl (Or.inl rfl)) (pss_cons (ps_set (i := 5) sc_law_play_lines.nd rfl (Or.inl rfl) (pe_lst (pa_cons pe_str pa_nil))) (pss_cons (ps_if (pt_cmpR op_in_seq (pv 0) (pe_lst (pa_cons pe_str (pa_cons pe_str (pa_cons pe_str pa_nil)))) (by rfl)) (pss_one (ps_for PassesOwn.never rfl (pi_tup (pv 4)) (pg_name (i := 6) sc_law_play_lines.nd rfl (Or.inl rfl)) (pss_one (ps_set (i := 5) sc_law_play_lines.nd rfl (Or.inl rfl) (pe_op op_cat (pv 5) (pe_lc (own := [("_law_part", 7)]) (g := gName 7) (by rfl) sc_law_play_lines.nd (pi_tup (pv 6)) (blkOk_by (own := [("_law_part", 7)]) (N := N_law_play_lines) (sc := defScope (top 137)) (by decide +kernel)) (fun _ _ _ _ _ => (pg_name (i := 7) sc_law_play_lines.nd rfl (Or.inl rfl))) (fun _ _ _ _ _ => pts_nil) (fun _ _ _ _ _ => (pe_callTy b_str (by rfl) T.n_str bt_str (pa_cons (pv 7) pa_nil))))))))) (pss_one (ps_if (pt_cmpR op_eq (pv 0) pe_str (nomark _)) (pss_one (ps_set (i := 5) sc_law_play_lines.nd rfl (Or.inl rfl) (pe_op op_cat (pv 5) (pe_lc (own := [("_law_item", 8)]) (g := gName 8) (by rfl) sc_law_play_lines.nd (pi_tup (pv 4)) (blkOk_by (own := [("_law_item", 8)]) (N := N_law_play_lines) (sc := defScope (top 137)) (by decide +kernel)) (fun _ _ _ _ _ => (pg_name (i := 8) sc_law_play_lines.nd rfl (Or.inl rfl))) (fun _ _ _ _ _ => pts_nil) (fun _ _ _ _ _ => (pe_callTy b_str (by rfl) T.n_str bt_str (pa_cons (pv 8) pa_nil))))))) (pss_one (ps_expr (pe_app (pv 5) (pe_callTy b_str (by rfl) T.n_str bt_str (pa_cons (pv 4) pa_nil)))))))) (pss_one (ps_expr (pe_app (pv 2) (pe_jn pe_str (pv 5)))))))) (pss_one (ps_ret (pv 2))))))), ?_⟩
  have ok := plW_ok ha
  have hkl : a.kind.length ≤ 30 := (okw_kindOf a).2.2.2
  have fit : ∀ (x y : Str), x.length ≤ 100 → y.length ≤ 100 → x.length + y.length ≤ 16000000 := fun x y h1 h2 => by omega
  refine q_asgL1 (ds := [.str (lineD [.str "kind", .str a.kind])]) (evl_lst (ds := [.str (lineD [.str "kind", .str a.kind])]) (eva_c ((evs_addS (x := "kind ") (y := a.kind) evs_str (evs_var rfl) (fit _ _ (by decide +kernel) (by omega))).imp fun s e => by rw [e, pre_kind]; rfl) eva_nil)) ?_
  refine q_asg1 (s := .dat a.inputs) (evs_var rfl) rfl ?_
  have hn : EvT ⟨K, none, H, []⟩ (tTest (tOp rEq (tVar 0) (tC (.str "near")))) [some (.dat (.str a.kind)), some (.dat a.inputs), some (.own [.str (lineD [.str "kind", .str a.kind])]), some (.dat a.inputs), none, none, none, none, none] (· = a.isNear) := evt_test (evs_isK (evs_var rfl) (kind_dec a).1)
  refine sx_seq (G := (· = [some (.dat (.str a.kind)), some (.dat a.inputs), some (.own ((lineD [.str "kind", .str a.kind] :: (headW a).map lineD).map PyData.str)), some (.dat (.tuple a.rows)), none, none, none, none, none])) ?f1 fun δ' e => ?f2
  case f1 =>
    cases a with
    | near r vs =>
      have hr6 : 1 ≤ r ∧ r ≤ 6 := ha.2.1
      have hrn : r < 10 ^ 20 := by omega
      refine sx_yes hn (sx_seq (G := (· = [some (.dat (.str "near")), some (.dat (Inp.near r vs).inputs), some (.own ((lineD [.str "kind", .str "near"] :: (headW (.near r vs)).map lineD).map PyData.str)), some (.dat (Inp.near r vs).inputs), none, none, none, none, none])) (sx_app1 (i := 2) (d := .str (lineD [.str "rounds", natD r])) rfl ((evs_addS (x := "rounds ") (y := num r) evs_str (evs_str1 (d := natD r) (evs_ixT (ds := [natD r, .tuple (vs.map PyData.int)]) (evs_var rfl) evs_int rfl) (okw_nat hrn).1) (fit _ _ (by decide +kernel) (by have := num_len hrn; omega))).imp fun s e => by rw [e, pre_rounds]; rfl) (show 1 ≤ 1000000 by decide) rfl) fun δ' e => ?_)
      subst e
      exact sx_asg1 (s := .dat (.tuple (vs.map PyData.int))) (evs_ixT (ds := [natD r, .tuple (vs.map PyData.int)]) (evs_var rfl) evs_int rfl) rfl rfl
    | man k ss => exact sx_no hn (sx_next rfl)
    | lev vs => exact sx_no hn (sx_next rfl)
    | nam vs => exact sx_no hn (sx_next rfl)
    | cha vs => exact sx_no hn (sx_next rfl)
  case f2 =>
    subst e
    generalize hhd : lineD [.str "kind", .str a.kind] :: (headW a).map lineD = hd
    have hdl : hd.length ≤ 2 := by
      rw [← hhd, List.length_cons, List.length_map]
      have : (headW a).length ≤ 1 := by cases a <;> simp [headW]
      omega
    have h5 := ha.1.2
    have hrl := rowsP_len a
    have tm : ∀ γ δ, δ[0]? = some (some (.dat (.str a.kind))) → EvT (Bx.add ⟨K, none, H, []⟩ γ) (tTest (tOp (rIn K false) (tVar 0) (tLst (tCons (tC (.str "sweep")) (tCons (tC (.str "twice")) (tCons (tC (.str "borrow")) tNil)))))) δ (· = a.isMan) := fun γ δ h0 => evt_test (evs_is (evs_in (B := Bx.add ⟨K, none, H, []⟩ γ) (d := .str a.kind) (neg := false) (s := .lst manD) (evs_var h0) (EvL.evs1 (evl_lst (ds := manD) (eva_c evs_str (eva_c evs_str (eva_c evs_str eva_nil))) (show 3 ≤ 1000 by decide))) rfl rfl (by decide)) (kind_man a))
    have tc : ∀ γ δ, δ[0]? = some (some (.dat (.str a.kind))) → EvT (Bx.add ⟨K, none, H, []⟩ γ) (tTest (tOp rEq (tVar 0) (tC (.str "chain")))) δ (· = a.isCha) := fun γ δ h0 => evt_test (evs_isK (evs_var h0) (kind_dec a).2.1)
    refine sx_seq (G := fun δ => ∃ x4 x5 x6, δ = [some (.dat (.str a.kind)), some (.dat a.inputs), some (.own ((hd ++ (rowsP a).map fun p => lineD (.str "hand" :: p.2)).map PyData.str)), some (.dat (.tuple a.rows)), x4, x5, x6, none, none]) (sx_forL (L := rowsP a) (F := fun p => p.1) (fun pre δ => ∃ x4 x5 x6, δ = [some (.dat (.str a.kind)), some (.dat a.inputs), some (.own ((hd ++ pre.map fun p => lineD (.str "hand" :: p.2)).map PyData.str)), some (.dat (.tuple a.rows)), x4, x5, x6, none, none]) (by rw [rowsP_fst]; exact evi_tup1 (evs_var rfl)) ⟨none, none, none, by rw [List.map_nil, List.append_nil]⟩ (fun γ pre p post δ' el q => ?_) fun δ' q => q) fun δ' q => ?_
    · obtain ⟨x4, x5, x6, e⟩ := q
      subst e
      have hp : p ∈ rowsP a := by rw [el]; simp
      have rel := rowsP_rel ha p hp
      have lok := rowsP_line ha p hp
      have pl : pre.length ≤ 5 := by have := congrArg List.length el; rw [List.length_append, List.length_cons] at this; omega
      obtain ⟨r, ws⟩ := p
      have rel : RowRel a r ws := rel
      have lok : LineOk (.str "hand" :: ws) := lok
      refine q_asgL1 (ds := [.str "hand"]) (evl_lst (ds := [.str "hand"]) (eva_c evs_str eva_nil)) ?_
      refine sx_seq (G := fun δ => ∃ x6, δ = [some (.dat (.str a.kind)), some (.dat a.inputs), some (.own ((hd ++ pre.map fun p => lineD (.str "hand" :: p.2)).map PyData.str)), some (.dat (.tuple a.rows)), some (.dat r), some (.own ((.str "hand" :: ws).map strW)), x6, none, none]) ?_ fun δ' q => ?_
      · cases hman : a.isMan with
        | true =>
          obtain ⟨s, rfl, hs, rfl⟩ : ∃ s, r = scrD s ∧ scrOk s ∧ ws = s.flatMap deedW := by cases a <;> first | exact rel | cases hman
          refine sx_yes (hman ▸ tm γ _ rfl) (sx_forL (L := s) (F := Deed.d) (fun pre2 δ => ∃ x6, δ = [some (.dat (.str a.kind)), some (.dat a.inputs), some (.own ((hd ++ pre.map fun p => lineD (.str "hand" :: p.2)).map PyData.str)), some (.dat (.tuple a.rows)), some (.dat (scrD s)), some (.own ((.str "hand" :: pre2.flatMap deedW).map strW)), x6, none, none]) (evi_tup1 (evs_var rfl)) ⟨x6, rfl⟩ (fun γ2 pre2 x post2 δ2 el2 q => ?_) fun δ2 q => q)
          obtain ⟨y6, e⟩ := q
          subst e
          have hx : x ∈ s := by rw [el2]; simp
          have p2l : pre2.length ≤ 6 := by have := congrArg List.length el2; rw [List.length_append, List.length_cons] at this; have := hs.1; omega
          have fl := flat_len pre2
          have dl := deedW_len x
          refine sx_asgL (P := (· = (PyData.str "hand" :: pre2.flatMap deedW).map strW ++ (deedW x).map strW)) (evl_cat (evs_own rfl) (EvL.evs1 (evl_mapL (L := deedW x) (F := fun d => d) (f := strW) (by rw [List.map_id', deedW_l]; exact evi_tup1 (evs_var rfl)) (by omega) fun γ3 d hd => evs_str1 (evs_var rfl) (deedW_ok (hs.2 x hx) d hd).1)) (by rw [List.length_map, List.length_map, List.length_cons]; omega)) fun ds e => ⟨some (.dat x.d), by
            subst e
            rw [← List.map_append, List.cons_append, List.flatMap_append]
            simp only [List.flatMap_cons, List.flatMap_nil, List.append_nil]
            rfl⟩
        | false =>
          refine sx_no (hman ▸ tm γ _ rfl) ?_
          cases hch : a.isCha with
          | true =>
            obtain ⟨l, rfl, hs, rfl⟩ : ∃ l, r = lotD l ∧ lotOk l ∧ ws = l.map natD := by cases a <;> first | exact rel | cases hch
            have ll := hs.len
            refine sx_yes (hch ▸ tc γ _ rfl) (sx_asgL (P := (· = [PyData.str "hand"] ++ l.map fun n => strW (natD n))) (evl_cat (ds := [.str "hand"]) (evs_own rfl) (EvL.evs1 (evl_mapL (L := l) (F := natD) (f := fun n => strW (natD n)) (evi_tup1 (evs_var rfl)) (by omega) fun γ3 n hn => evs_str1 (d := natD n) (evs_var rfl) (okw_nat (by have := hs.2 n hn; omega)).1)) (by rw [List.length_map]; show 1 + l.length ≤ _; omega)) fun ds e => ⟨x6, by
              subst e
              rw [List.map_cons, List.map_map]
              rfl⟩)
          | false =>
            have : ws = [r] ∧ wordOk r := by
              cases a with
              | man k ss => cases hman
              | lev vs => obtain ⟨n, rfl, h1, rfl⟩ := rel; exact ⟨rfl, (okw_nat (by omega)).1⟩
              | nam vs => obtain ⟨n, rfl, h1, rfl⟩ := rel; exact ⟨rfl, (okw_nat (by omega)).1⟩
              | near k vs => obtain ⟨n, rfl, h1, rfl⟩ := rel; exact ⟨rfl, (okw_int h1).1⟩
              | cha ls => cases hch
            obtain ⟨rfl, wr⟩ := this
            exact sx_no (hch ▸ tc γ _ rfl) (sx_app1 (i := 5) (d := strW r) rfl (evs_str1 (evs_var rfl) wr) (show 1 ≤ 1000000 by decide) ⟨x6, rfl⟩)
      · obtain ⟨y6, e⟩ := q
        subst e
        exact sx_app1 (i := 2) (d := .str (lineD (.str "hand" :: ws))) rfl (evs_joinD (l := .str "hand" :: ws) lok (evs_own rfl)) (by rw [List.length_map, List.length_append, List.length_map]; omega) ⟨_, _, _, by rw [List.map_append, List.map_append, List.map_append, List.map_append, List.append_assoc]; rfl⟩
    · obtain ⟨x4, x5, x6, e⟩ := q
      subst e
      refine sx_retO (i := 2) rfl ?_
      show Sv.lst _ = Sv.lst _
      unfold plW
      rw [← hhd, ← rowsP_snd]
      simp only [List.map_cons, List.map_append, List.map_map, List.cons_append]
      rfl
end
end K32
/-! Walks: the law's look at what is told; a record's lines; great moments. -/
namespace K32
open PySem PySem.Spec PyProof.Rows L2 TL
local macro_rules | `(tactic| walk_at "ev") => `(tactic| first
  | exact evs_var rfl | exact evs_own rfl | exact evs_int | exact evs_str | exact evs_bl | exact evs_non
  | exact eva_nil | (apply eva_c <;> walk_at "ev")
  | exact evs_isi (evs_var rfl) rfl kit_int_int | exact evs_isi (evs_var rfl) rfl kit_int_bool | exact evs_isi (evs_var rfl) rfl kit_tuple_tuple | exact evs_isi (evs_var rfl) rfl kit_str_str
  | exact evs_ixT (evs_var rfl) evs_int rfl
  | (apply evs_I0 <;> walk_at "ev") | (apply evs_B0 <;> walk_at "ev")
  | (apply evs_andV <;> walk_at "ev") | (apply evs_orV <;> walk_at "ev") | (apply evs_notV; walk_at "ev")
  | (apply evs_chain <;> walk_at "ev")
  | (apply evs_neg; walk_at "ev")
  | (apply evt_test; walk_at "ev") | (apply evt_B; walk_at "ev") | (apply evt_not; walk_at "ev")
  | (apply evt_and1 <;> walk_at "ev") | (apply evt_or1 <;> walk_at "ev")
  | (intro _; walk_at "ev"))
local macro_rules | `(tactic| walk_at "ret") => `(tactic| (apply sx_ret; walk_at "ev"))
/-- data of ints, texts, None, in tuples: so deep -/
def flat3 : PyData → Bool
  | .none => true
  | .int _ => true
  | .str _ => true
  | _ => false
def PlD : Nat → PyData → Prop
  | 0, d => flat3 d = true
  | n + 1, d => flat3 d = true ∨ ∃ ds : List PyData, d = .tuple ds ∧ ds.length ≤ 1000 ∧ ∀ e ∈ ds, PlD n e
abbrev spIs (K : PySem.W.Frag) (n : Nat) : Sp := spS K (fun d : PyData => [.dat d, .dat d]) (PlD n) (fun _ => Is (.bool true))
section
variable {B : Bx} {δ : Dn} {d : PyData}
theorem is_leafT (h : δ[1]? = some (some (.dat d))) (f : flat3 d = true) : EvT B (tB (tCB (rIsiT B.K) (tCons (tVar 1) (tCons (tTup (tCons (tC (.ty "tuple")) (tCons (tC (.ty "list")) tNil))) tNil)))) δ (· = false) := by
  cases d with
  | none => exact evt_B (evs_isi2 (evs_var h) rfl kit_NoneType_tuple kit_NoneType_list)
  | int i => exact evt_B (evs_isi2 (evs_var h) rfl kit_int_tuple kit_int_list)
  | str x => exact evt_B (evs_isi2 (evs_var h) rfl kit_str_tuple kit_str_list)
  | _ => cases f
theorem is_leafB {i : Nat} (h : δ[i]? = some (some (.dat d))) (f : flat3 d = true) : EvS B (tCB (rIsi B.K) (tCons (tVar i) (tCons (tC (.ty "bool")) tNil))) δ (Is (.bool false)) := by
  cases d with
  | none => exact evs_isi (evs_var h) rfl kit_NoneType_bool
  | int i => exact evs_isi (evs_var h) rfl kit_int_bool
  | str x => exact evs_isi (evs_var h) rfl kit_str_bool
  | _ => cases f
theorem is_leaf (h0 : δ[0]? = some (some (.dat d))) (h : δ[1]? = some (some (.dat d))) (f : flat3 d = true) : EvS B (tAndV (tOp rEq (tCB (rIsi B.K) (tCons (tVar 0) (tCons (tC (.ty "bool")) tNil))) (tCB (rIsi B.K) (tCons (tVar 1) (tCons (tC (.ty "bool")) tNil)))) (tOp rEq (tVar 0) (tVar 1))) δ (Is (.bool true)) :=
  evs_andV (a := true) (b := true) (evs_eqT (d := .bool false) (is_leafB h0 f) (is_leafB h f) rfl rfl) fun _ => evs_eqT (d := d) (evs_var h0) (evs_var h) (by cases d <;> first | rfl | cases f) (by cases d <;> first | rfl | cases f)
end
section
variable {P : Program} {w : World} {K : PySem.W.Frag} {mg : Str → Option Value} {base : Heap}
abbrev N_law_is : List Str := ["_law_told", "_law_due", "_law_one", "_law_two"]
theorem sc_law_is : FnScope N_law_is ["_law_told", "_law_due"] (defScope (top 132)) := ⟨rfl, rfl, rfl, by decide +kernel, rfl, by decide +kernel, by decide +kernel⟩
theorem c_law_is0 (T : TX K mg) : C8.Cal P w K mg base 1 "_law_is" (spIs K 0) [] := by
  refine cal_of T.d_law_is (fun F => F.bindsN (ps := ["_law_told", "_law_due"]) fun _ _ _ _ _ _ us hl => match us, hl with | [_, _], _ => rfl) fun F => fnS F sc_law_is (fun _ => rfl) (by intro a s hs ds z; subst z; simp at hs) fun cdv A outer s H E a hr ha => ?_
  refine ⟨_, (pss_cons (ps_if (pt_val (pe_callB b_isiT (by rfl) T.n_isinstance bt_isinstance (pa_cons (pv 1) (pa_cons (pe_tup (pa_cons (pe_bltn (v := .ty "tuple") (by rfl) T.n_tuple bt_tuple rfl) (pa_cons (pe_bltn (v := .ty "list") (by rfl) T.n_list bt_list rfl) pa_nil))) pa_nil)))) (pss_cons (ps_if (PW.pt (pw_or (pt_cmpR op_ne (pe_callB b_isi (by rfl) T.n_isinstance bt_isinstance (pa_cons (pv 0) (pa_cons (pe_bltn (v := .ty "tuple") (by rfl) T.n_tuple bt_tuple rfl) pa_nil))) (pe_callB b_isi (by rfl) T.n_isinstance bt_isinstance (pa_cons (pv 1) (pa_cons (pe_bltn (v := .ty "tuple") (by rfl) T.n_tuple bt_tuple rfl) pa_nil))) (nomark _)) (pw_or1 (pt_not (pt_val (pe_callB b_isiT (by rfl) T.n_isinstance bt_isinstance (pa_cons (pv 0) (pa_cons (pe_tup (pa_cons (pe_bltn (v := .ty "tuple") (by rfl) T.n_tuple bt_tuple rfl) (pa_cons (pe_bltn (v := .ty "list") (by rfl) T.n_list bt_list rfl) pa_nil))) pa_nil)))))))) (pss_one (ps_ret pe_bl)) pss_nil) (pss_one (ps_ret (pe_and (pe_cmpR op_eq (pe_callB b_len (by rfl) T.n_len bt_len (pa_cons (pv 0) pa_nil)) (pe_callB b_len (by rfl) T.n_len bt_len (pa_cons (pv 1) pa_nil)) (nomark _)) (pe_one (pe_callB (cr_all rfl) (by rfl) T.n_all bt_all (pa_cons (pe_lc (own := [("_law_one", 2), ("_law_two", 3)]) (g := gTup K 2 (gNames [2, 3])) (by rfl) sc_law_is.nd (RZ.pi_zipA (by rfl) T.n_zip (pa_cons (pv 0) (pa_cons (pv 1) pa_nil))) (blkOk_by (own := [("_law_one", 2), ("_law_two", 3)]) (N := N_law_is) (sc := defScope (top 132)) (by decide +kernel)) (fun _ _ _ _ _ => (pg_is (is := [2, 3]) (pg_tup rfl (pgs_cons (pg_name (i := 2) sc_law_is.nd rfl (Or.inl rfl)) (pgs_cons (pg_name (i := 3) sc_law_is.nd rfl (Or.inl rfl)) pgs_nil))))) (fun _ _ _ _ _ => pts_nil) (fun _ _ _ _ _ => pe_never)) pa_nil))))))) pss_nil) (pss_one (ps_ret (pe_and (pe_cmpR op_eq (pe_callB b_isi (by rfl) T.n_isinstance bt_isinstance (pa_cons (pv 0) (pa_cons (pe_bltn (v := .ty "bool") (by rfl) T.n_bool bt_bool rfl) pa_nil))) (pe_callB b_isi (by rfl) T.n_isinstance bt_isinstance (pa_cons (pv 1) (pa_cons (pe_bltn (v := .ty "bool") (by rfl) T.n_bool bt_bool rfl) pa_nil))) (nomark _)) (pe_one (pe_cmpR op_eq (pv 0) (pv 1) (nomark _))))))), ?_⟩
  exact q_no (is_leafT (B := ⟨K, none, H, []⟩) rfl ha) (sx_ret (is_leaf (B := ⟨K, none, H, []⟩) rfl rfl ha) rfl)
theorem c_law_isS (T : TX K mg) {n : Nat} (ih : C8.Cal P w K mg base (n + 1) "_law_is" (spIs K n) []) : C8.Cal P w K mg base (n + 2) "_law_is" (spIs K (n + 1)) [] := by
  refine cal_of T.d_law_is (fun F => F.bindsN (ps := ["_law_told", "_law_due"]) fun _ _ _ _ _ _ us hl => match us, hl with | [_, _], _ => rfl) fun F => fnS F sc_law_is (fun _ => rfl) (by intro a s hs ds z; subst z; simp at hs) fun cdv A outer s H E a hr ha => ?_
  refine ⟨_, (pss_cons (ps_if (pt_val (pe_callB b_isiT (by rfl) T.n_isinstance bt_isinstance (pa_cons (pv 1) (pa_cons (pe_tup (pa_cons (pe_bltn (v := .ty "tuple") (by rfl) T.n_tuple bt_tuple rfl) (pa_cons (pe_bltn (v := .ty "list") (by rfl) T.n_list bt_list rfl) pa_nil))) pa_nil)))) (pss_cons (ps_if (PW.pt (pw_or (pt_cmpR op_ne (pe_callB b_isi (by rfl) T.n_isinstance bt_isinstance (pa_cons (pv 0) (pa_cons (pe_bltn (v := .ty "tuple") (by rfl) T.n_tuple bt_tuple rfl) pa_nil))) (pe_callB b_isi (by rfl) T.n_isinstance bt_isinstance (pa_cons (pv 1) (pa_cons (pe_bltn (v := .ty "tuple") (by rfl) T.n_tuple bt_tuple rfl) pa_nil))) (nomark _)) (pw_or1 (pt_not (pt_val (pe_callB b_isiT (by rfl) T.n_isinstance bt_isinstance (pa_cons (pv 0) (pa_cons (pe_tup (pa_cons (pe_bltn (v := .ty "tuple") (by rfl) T.n_tuple bt_tuple rfl) (pa_cons (pe_bltn (v := .ty "list") (by rfl) T.n_list bt_list rfl) pa_nil))) pa_nil)))))))) (pss_one (ps_ret pe_bl)) pss_nil) (pss_one (ps_ret (pe_and (pe_cmpR op_eq (pe_callB b_len (by rfl) T.n_len bt_len (pa_cons (pv 0) pa_nil)) (pe_callB b_len (by rfl) T.n_len bt_len (pa_cons (pv 1) pa_nil)) (nomark _)) (pe_one (pe_callB (cr_all rfl) (by rfl) T.n_all bt_all (pa_cons (pe_lc (own := [("_law_one", 2), ("_law_two", 3)]) (g := gTup K 2 (gNames [2, 3])) (by rfl) sc_law_is.nd (RZ.pi_zipA (by rfl) T.n_zip (pa_cons (pv 0) (pa_cons (pv 1) pa_nil))) (blkOk_by (own := [("_law_one", 2), ("_law_two", 3)]) (N := N_law_is) (sc := defScope (top 132)) (by decide +kernel)) (fun _ _ _ _ _ => (pg_is (is := [2, 3]) (pg_tup rfl (pgs_cons (pg_name (i := 2) sc_law_is.nd rfl (Or.inl rfl)) (pgs_cons (pg_name (i := 3) sc_law_is.nd rfl (Or.inl rfl)) pgs_nil))))) (fun _ _ _ _ _ => pts_nil) (fun _ _ _ _ _ => (C8.pe_c (ih) hr (Nat.le_refl _) rfl (pa_cons (pv 2) (pa_cons (pv 3) pa_nil))))) pa_nil))))))) pss_nil) (pss_one (ps_ret (pe_and (pe_cmpR op_eq (pe_callB b_isi (by rfl) T.n_isinstance bt_isinstance (pa_cons (pv 0) (pa_cons (pe_bltn (v := .ty "bool") (by rfl) T.n_bool bt_bool rfl) pa_nil))) (pe_callB b_isi (by rfl) T.n_isinstance bt_isinstance (pa_cons (pv 1) (pa_cons (pe_bltn (v := .ty "bool") (by rfl) T.n_bool bt_bool rfl) pa_nil))) (nomark _)) (pe_one (pe_cmpR op_eq (pv 0) (pv 1) (nomark _))))))), ?_⟩
  rcases ha with f | ⟨ds, rfl, hz, hd⟩
  · exact q_no (is_leafT (B := ⟨K, none, H, []⟩) rfl f) (sx_ret (is_leaf (B := ⟨K, none, H, []⟩) rfl rfl f) rfl)
  · refine q_yesF (evt_B (evs_isi2 (b := true) (c := false) (evs_var rfl) rfl kit_tuple_tuple kit_tuple_list)) (q_no (evt_orF (evt_test (evs_neF (d := .bool true) (evs_isi (evs_var rfl) rfl kit_tuple_tuple) (evs_isi (evs_var rfl) rfl kit_tuple_tuple) rfl rfl)) (evt_notT (evt_B (evs_isi2 (b := true) (c := false) (evs_var rfl) rfl kit_tuple_tuple kit_tuple_list)))) ?_)
    refine sx_ret (evs_andV (a := true) (b := true) (evs_eqT (d := .int (ds.length : Nat)) (evs_len (s := .dat (.tuple ds)) (evs_var rfl) rfl (by omega)) (evs_len (s := .dat (.tuple ds)) (evs_var rfl) rfl (by omega)) rfl rfl) fun _ => evs_allLc (evi_zipT (evs_var rfl) (evs_var rfl)) fun n put ⟨e1, e2⟩ => ?_) rfl
    subst e1 e2
    rw [Nat.min_self]
    refine ⟨by omega, fun γ i hi => ?_⟩
    have e : ds.getD i .none = ds[i] := getD_of (List.getElem?_eq_getElem hi)
    unfold putZ
    rw [e]
    exact evs_call1 (B := Bx.add ⟨K, none, H, []⟩ γ) (α := PyData) ds[i] (eva_c (evs_var rfl) (eva_c (evs_var rfl) eva_nil)) (hd _ (List.getElem_mem hi))
theorem c_law_is (T : TX K mg) : C8.Cal P w K mg base 4 "_law_is" (spIs K 3) [] := c_law_isS T (c_law_isS T (c_law_isS T (c_law_is0 T)))
theorem wordD_strW (d : PyData) : wordD (strW d) = wordD d := rfl
abbrev N_law_record_lines : List Str := ["_law_many", "_law_calls_here", "_law_found", "_law_call", "_law_words", "_law_part", "_law_value"]
theorem sc_law_record_lines : FnScope N_law_record_lines ["_law_many", "_law_calls_here"] (defScope (top 139)) := ⟨rfl, rfl, rfl, by decide +kernel, rfl, by decide +kernel, by decide +kernel⟩
theorem c_law_record_lines (T : TX K mg) : C8.Cal P w K mg base 2 "_law_record_lines" (spS K (fun r : Nat × List Call => [.dat (natD r.1), .dat (callsD r.2)]) (fun r => RecOk r.1 r.2 ∧ ∀ c ∈ r.2, c.short) (fun r s => s = .lst (((reW r.1 r.2).map lineD).map PyData.str))) [] := by
  refine cal_of T.d_law_record_lines (fun F => F.bindsN (ps := ["_law_many", "_law_calls_here"]) fun _ _ _ _ _ _ us hl => match us, hl with | [_, _], _ => rfl) fun F => fnS F sc_law_record_lines (fun _ => rfl) (by intro a s hs ds z; subst z; simp at hs) fun cdv A outer s H E a hr ha => ?_
  refine ⟨_, (pss_cons (ps_set (i := 2) sc_law_record_lines.nd rfl (Or.inl rfl) (pe_lst (pa_cons (pe_op o_addS pe_str (pe_callTy b_str (by rfl) T.n_str bt_str (pa_cons (pv 0) pa_nil))) pa_nil))) (pss_cons (ps_for PassesOwn.never rfl (pi_tup (pv 1)) (pg_name (i := 3) sc_law_record_lines.nd rfl (Or.inl rfl)) (pss_cons (ps_if (pt_cmpR op_eq (pe_ix ix_tup (pv 3) pe_int (fun _ _ => rfl)) pe_str (nomark _)) (pss_one (ps_set (i := 4) sc_law_record_lines.nd rfl (Or.inl rfl) (pe_op op_cat (pe_lst (pa_cons pe_str pa_nil)) (pe_lc (own := [("_law_part", 5)]) (g := gName 5) (by rfl) sc_law_record_lines.nd (pi_tup (pe_slice sl_tupA (pv 3) (po_some pe_int) po_none)) (blkOk_by (own := [("_law_part", 5)]) (N := N_law_record_lines) (sc := defScope (top 139)) (by decide +kernel)) (fun _ _ _ _ _ => (pg_name (i := 5) sc_law_record_lines.nd rfl (Or.inl rfl))) (fun _ _ _ _ _ => pts_nil) (fun _ _ _ _ _ => (C8.pe_c (c_law_dash T) hr (by decide) rfl (pa_cons (pv 5) pa_nil))))))) (pss_one (ps_set (i := 4) sc_law_record_lines.nd rfl (Or.inl rfl) (pe_op op_cat (pe_op op_cat (pe_lst (pa_cons pe_str pa_nil)) (pe_lst (pa_cons (pe_callTy b_str (by rfl) T.n_str bt_str (pa_cons (pe_ix ix_tup (pv 3) pe_int (fun _ _ => rfl)) pa_nil)) (pa_cons (pe_callTy b_str (by rfl) T.n_str bt_str (pa_cons (pe_ix ix_tup (pv 3) pe_int (fun _ _ => rfl)) pa_nil)) (pa_cons (pe_callTy b_str (by rfl) T.n_str bt_str (pa_cons (pe_ix ix_tup (pv 3) pe_int (fun _ _ => rfl)) pa_nil)) pa_nil))))) (pe_lc (own := [("_law_value", 6)]) (g := gName 6) (by rfl) sc_law_record_lines.nd (pi_tup (pe_ix ix_tup (pv 3) pe_int (fun _ _ => rfl))) (blkOk_by (own := [("_law_value", 6)]) (N := N_law_record_lines) (sc := defScope (top 139)) (by decide +kernel)) (fun _ _ _ _ _ => (pg_name (i := 6) sc_law_record_lines.nd rfl (Or.inl rfl))) (fun _ _ _ _ _ => pts_nil) (fun _ _ _ _ _ => (C8.pe_c (c_law_dash T) hr (by decide) rfl (pa_cons (pv 6) pa_nil)))))))) (pss_one (ps_expr (pe_app (pv 2) (pe_jn pe_str (pv 4))))))) (pss_one (ps_ret (pv 2))))), ?_⟩
  obtain ⟨m, cs⟩ := a
  obtain ⟨ok, hs⟩ := ha
  have m8 : m ≤ 8 := ok.hi
  have lz : cs.length ≤ 300 := ok.len
  have hmn : m < 10 ^ 20 := by omega
  refine q_asgL1 (ds := [.str (lineD [.str "hands", natD m])]) (evl_lst (ds := [.str (lineD [.str "hands", natD m])]) (eva_c ((evs_addS (x := "hands ") (y := num m) evs_str (evs_str1 (d := natD m) (evs_var rfl) (okw_nat hmn).1) (by have := num_len hmn; have : ("hands " : Str).length = 6 := (by decide +kernel); omega)).imp fun s e => by rw [e, pre_hands]; rfl) eva_nil)) ?_
  refine sx_seq (G := fun δ => ∃ x3 x4, δ = [some (.dat (natD m)), some (.dat (callsD cs)), some (.own ((lineD [.str "hands", natD m] :: cs.map fun c => lineD (callW c)).map PyData.str)), x3, x4, none, none]) (sx_forL (L := cs) (F := Call.d) (fun pre δ => ∃ x3 x4, δ = [some (.dat (natD m)), some (.dat (callsD cs)), some (.own ((lineD [.str "hands", natD m] :: pre.map fun c => lineD (callW c)).map PyData.str)), x3, x4, none, none]) (evi_tup1 (evs_var rfl)) ⟨none, none, rfl⟩ (fun γ pre c post δ' el q => ?_) fun δ' q => q) fun δ' q => ?_
  · obtain ⟨x3, x4, e⟩ := q
    subst e
    have hc : c ∈ cs := by rw [el]; simp
    have pl : pre.length ≤ 300 := by have := congrArg List.length el; rw [List.length_append, List.length_cons] at this; omega
    have cok := ok.each c hc
    have cs' := hs c hc
    have lok := callW_ok m8 cok cs'
    refine sx_seq (G := (· = [some (.dat (natD m)), some (.dat (callsD cs)), some (.own ((lineD [.str "hands", natD m] :: pre.map fun c => lineD (callW c)).map PyData.str)), some (.dat c.d), some (.own ((callW c).map strW)), none, none])) ?_ fun δ' e => ?_
    · obtain ⟨hand, what, b, e⟩ := c
      obtain ⟨s1, s2, s3⟩ := cs'
      have hh : hand < 10 ^ 20 := by have : hand < m := cok.1; omega
      have s1 : b < 10 ^ 20 := s1
      cases what with
      | put v =>
        have s3 : v < 10 ^ 20 := s3
        refine sx_yes (evt_test (evs_eqT (d := .str "put") (evs_ixT (ds := [.str "put", natD hand, natD v, natD b, optD e]) (evs_var rfl) evs_int rfl) evs_str rfl rfl)) (sx_asgL (P := (· = [PyData.str "put"] ++ [some hand, some v, some b, e].map fun o => strW (optW o))) (evl_cat (ds := [.str "put"]) (EvL.evs1 (evl_lst (ds := [.str "put"]) (eva_c evs_str eva_nil))) (EvL.evs1 (evl_mapL (L := [some hand, some v, some b, e]) (F := optD) (f := fun o => strW (optW o)) (evi_tup1 ((evs_slT (ds := [.str "put", natD hand, natD v, natD b, optD e]) (evs_var rfl) (evo_some evs_int) evo_none).imp fun s e => by rw [e]; rfl)) (show 4 ≤ 1000000 by decide) fun γ3 o ho => evs_call1 (α := Option Nat) o (eva_c (evs_var rfl) eva_nil) fun x ex => ?_)) (show 1 + 4 ≤ 16000000 by decide)) fun ds e => by subst e; rfl)
        subst ex
        simp only [List.mem_cons, List.not_mem_nil, or_false, Option.some.injEq] at ho
        rcases ho with rfl | rfl | rfl | rfl
        · exact hh
        · exact s3
        · exact s1
        · exact s2 x rfl
      | look l =>
        obtain ⟨x, rfl⟩ : ∃ x, e = some x := cok.2.2.1
        have hx : x < 10 ^ 20 := s2 x rfl
        have ll : l.length = m := cok.2.2.2
        have s3 : ∀ x, some x ∈ l → x < 10 ^ 20 := s3
        have cD : (Call.mk hand (.look l) b (some x)).d = .tuple [.str "look", natD hand, .tuple (l.map optD), natD b, natD x] := rfl
        rw [cD]
        refine sx_no (evt_test (evs_eqF (d := .str "look") (e := .str "put") (evs_ixT (ds := [.str "look", natD hand, .tuple (l.map optD), natD b, natD x]) (evs_var rfl) evs_int rfl) evs_str rfl rfl rfl (str_ne (by decide +kernel)))) (sx_asgL (P := (· = [PyData.str "look"] ++ [strW (natD hand), strW (natD b), strW (natD x)] ++ l.map fun o => strW (optW o))) (evl_cat (ds := [PyData.str "look"] ++ [strW (natD hand), strW (natD b), strW (natD x)]) (EvL.evs1 (evl_cat (ds := [.str "look"]) (es := [strW (natD hand), strW (natD b), strW (natD x)]) (EvL.evs1 (evl_lst (ds := [.str "look"]) (eva_c evs_str eva_nil))) (EvL.evs1 (evl_lst (ds := [strW (natD hand), strW (natD b), strW (natD x)]) (eva_c (evs_str1 (d := natD hand) (evs_ixT (ds := [.str "look", natD hand, .tuple (l.map optD), natD b, natD x]) (evs_var rfl) evs_int rfl) (okw_nat hh).1) (eva_c (evs_str1 (d := natD b) (evs_ixT (ds := [.str "look", natD hand, .tuple (l.map optD), natD b, natD x]) (evs_var rfl) evs_int rfl) (okw_nat s1).1) (eva_c (evs_str1 (d := natD x) (evs_ixT (ds := [.str "look", natD hand, .tuple (l.map optD), natD b, natD x]) (evs_var rfl) evs_int rfl) (okw_nat hx).1) eva_nil))))) (show 1 + 3 ≤ 16000000 by decide))) (EvL.evs1 (evl_mapL (L := l) (F := optD) (f := fun o => strW (optW o)) (evi_tup1 (evs_ixT (ds := [.str "look", natD hand, .tuple (l.map optD), natD b, natD x]) (evs_var rfl) evs_int rfl)) (by omega) fun γ3 o ho => evs_call1 (α := Option Nat) o (eva_c (evs_var rfl) eva_nil) fun y ey => s3 y (ey ▸ ho))) (by rw [List.length_map]; show 4 + l.length ≤ _; omega)) fun ds e => ?_)
        subst e
        have ew : (callW ⟨hand, .look l, b, some x⟩).map strW = [PyData.str "look"] ++ [strW (natD hand), strW (natD b), strW (natD x)] ++ l.map fun o => strW (optW o) := by
          show strW _ :: strW _ :: strW _ :: strW _ :: (l.map optW).map strW = _
          rw [List.map_map]
          rfl
        show _ = _
        rw [ew]
        rfl
    · subst e
      exact sx_app1 (i := 2) (d := .str (lineD (callW c))) rfl (evs_joinD lok (evs_own rfl)) (by rw [List.length_map, List.length_cons, List.length_map]; omega) ⟨_, _, by rw [List.map_append, List.map_cons, List.map_cons, List.map_append]; rfl⟩
  · obtain ⟨x3, x4, e⟩ := q
    subst e
    refine sx_retO (i := 2) rfl ?_
    show Sv.lst _ = Sv.lst _
    unfold reW
    rw [List.map_cons (f := lineD), List.map_map (f := callW) (g := lineD)]
    rfl
def shiftC (f : Nat) (c : Call) : Call := { c with b := c.b + f, e := c.e.map (· + f) }
abbrev N_law_great : List Str := ["_law_hand_here", "_law_calls_here", "_law_far", "_law_found", "_law_call", "_law_end"]
theorem sc_law_great : FnScope N_law_great ["_law_hand_here", "_law_calls_here"] (defScope (top 142)) := ⟨rfl, rfl, rfl, by decide +kernel, rfl, by decide +kernel, by decide +kernel⟩
theorem c_law_great (T : TX K mg) : C8.Cal P w K mg base 2 "_law_great" (spH K (fun cs : List Call => [.dat (callsD cs)]) (fun cs => cs.length ≤ 300) (fun cs s => ∃ f : Nat, f ≤ 9100000000000000000 ∧ s = .dat (callsD (cs.map (shiftC f))))) [] := by
  refine cal_of T.d_law_great (fun F => F.bindsN (ps := ["_law_hand_here", "_law_calls_here"]) fun _ _ _ _ _ _ us hl => match us, hl with | [_, _], _ => rfl) fun F => fnH F sc_law_great (fun _ => rfl) (by intro a s hs ds z; subst z; simp at hs) fun cdv A outer s H E a p q hr ha => ?_
  refine ⟨_, (pss_cons (ps_set (i := 2) sc_law_great.nd rfl (Or.inl rfl) (pe_op op_mul (pe_op op_pow pe_int pe_int) (pe_op op_add pe_int (C8.pe_c (c_law_draw T) hr (by decide) rfl (pa_cons (pv 0) (pa_cons pe_int pa_nil)))))) (pss_cons (ps_set (i := 3) sc_law_great.nd rfl (Or.inl rfl) (pe_lst pa_nil)) (pss_cons (ps_for PassesOwn.never rfl (pi_tup (pv 1)) (pg_name (i := 4) sc_law_great.nd rfl (Or.inl rfl)) (pss_cons (ps_set (i := 5) sc_law_great.nd rfl (Or.inl rfl) (pe_ifExp (pt_cmpR o_isN (pe_ix ix_tup (pv 4) pe_int (fun _ _ => rfl)) pe_non (nomark _)) pe_non (pe_op op_add (pe_ix ix_tup (pv 4) pe_int (fun _ _ => rfl)) (pv 2)))) (pss_one (ps_expr (pe_app (pv 3) (pe_op op_catA (pe_slice sl_tupA (pv 4) po_none (po_some pe_int)) (pe_tup (pa_cons (pe_op op_add (pe_ix ix_tup (pv 4) pe_int (fun _ _ => rfl)) (pv 2)) (pa_cons (pv 5) pa_nil))))))))) (pss_one (ps_ret (pe_callTy b_tupO (by rfl) T.n_tuple bt_tuple (pa_cons (pv 3) pa_nil))))))), ?_⟩
  have lz : a.length ≤ 300 := ha
  refine q_asg (P := IntP fun i => ∃ f : Nat, i = f ∧ f ≤ 9100000000000000000) (evs_IP (P := (· = 100000000000000000)) (R := fun j => 1 ≤ j ∧ j ≤ 90) (Is.intP (evs_I (i := 10) (j := 17) evs_int evs_int ⟨by decide, by decide, by decide⟩) (by decide)) (evs_I0P (P := (· = 1)) (R := fun j => 0 ≤ j ∧ j < 90) (Is.intP evs_int rfl) ((evs_draw (p := p) (q := q) (m := 90) rfl rfl evs_int (by decide) (by decide)).imp fun s ⟨d, e, hd⟩ => ⟨(d : Int), e, by omega, by omega⟩) fun i j e h => by omega) fun i j e h => by
    subst e
    exact ⟨.inl ⟨by decide, by decide⟩, (100000000000000000 * j).toNat, by omega, by omega⟩) (fun s ⟨i, e, _⟩ => by rw [e]; rfl) fun s ⟨i, e, f, ef, hf⟩ => ?_
  subst e ef
  refine q_asgL1 (ds := []) (evl_lst (ds := []) eva_nil) ?_
  refine sx_seq (G := fun δ => ∃ x4 x5, δ = [some (.val (.ref p)), some (.dat (callsD a)), some (.dat (natD f)), some (.own ((a.map (shiftC f)).map Call.d)), x4, x5]) (sx_forL (L := a) (F := Call.d) (fun pre δ => ∃ x4 x5, δ = [some (.val (.ref p)), some (.dat (callsD a)), some (.dat (natD f)), some (.own ((pre.map (shiftC f)).map Call.d)), x4, x5]) (evi_tup1 (evs_var rfl)) ⟨none, none, rfl⟩ (fun γ pre c post δ' el q => ?_) fun δ' q => q) fun δ' q => ?_
  · obtain ⟨x4, x5, e⟩ := q
    subst e
    have pl : pre.length ≤ 300 := by have := congrArg List.length el; rw [List.length_append, List.length_cons] at this; omega
    have gl : ∀ x : Nat, natD (x + f) = .int ((x : Int) + (f : Int)) := fun x => by show PyData.int _ = PyData.int _; rw [Int.natCast_add]
    refine q_asg1 (s := .dat (optD (c.e.map (· + f)))) ?_ rfl ?_
    · cases he : c.e with
      | none => exact evs_ifT (evt_test (evs_isN (s := .dat .none) (evs_ixT (ds := c.l) (evs_var rfl) evs_int (by unfold Call.l; rw [he]; rfl)))) evs_non
      | some x => exact evs_ifF (evt_test (evs_isN (s := .dat (natD x)) (evs_ixT (ds := c.l) (evs_var rfl) evs_int (by unfold Call.l; rw [he]; rfl)))) ((evs_I0 (i := (x : Int)) (j := (f : Int)) (evs_ixT (ds := c.l) (evs_var rfl) evs_int (by unfold Call.l; rw [he]; rfl)) (evs_var rfl)).imp fun s e => by rw [e]; show _ = Sv.dat (natD (x + f)); rw [gl])
    · refine sx_app1 (i := 3) (d := (shiftC f c).d) rfl ((evs_catA (ds := [.str c.what.word, natD c.hand, c.what.d]) (es := [natD (c.b + f), optD (c.e.map (· + f))]) ((evs_slT (ds := c.l) (evs_var rfl) evo_none (evo_some evs_int)).imp fun s e => by rw [e]; rfl) (evs_tup (ds := [natD (c.b + f), optD (c.e.map (· + f))]) (eva_c ((evs_I0 (i := (c.b : Int)) (j := (f : Int)) (evs_ixT (ds := c.l) (evs_var rfl) evs_int rfl) (evs_var rfl)).imp fun s e => by rw [e, gl]) (eva_c (evs_var rfl) eva_nil))) (show 3 + 2 ≤ 16000000 by decide)).imp fun s e => by rw [e]; rfl) (by rw [List.length_map, List.length_map]; omega) ⟨_, _, by rw [List.map_append, List.map_append]; rfl⟩
  · obtain ⟨x4, x5, e⟩ := q
    subst e
    exact sx_ret (evs_tupleL1 (evs_own rfl)) ⟨f, hf, rfl⟩
end
end K32
/-! Walks: the law's inputs. -/
namespace K32
open PySem PySem.Spec PyProof.Rows L2 TL
local macro_rules | `(tactic| walk_at "ev") => `(tactic| first
  | exact evs_var rfl | exact evs_own rfl | exact evs_int | exact evs_str | exact evs_bl | exact evs_non
  | exact eva_nil | (apply eva_c <;> walk_at "ev")
  | exact evs_isi (evs_var rfl) rfl kit_int_int | exact evs_isi (evs_var rfl) rfl kit_int_bool | exact evs_isi (evs_var rfl) rfl kit_tuple_tuple | exact evs_isi (evs_var rfl) rfl kit_str_str
  | exact evs_ixT (evs_var rfl) evs_int rfl
  | (apply evs_I0 <;> walk_at "ev") | (apply evs_B0 <;> walk_at "ev")
  | (apply evs_andV <;> walk_at "ev") | (apply evs_orV <;> walk_at "ev") | (apply evs_notV; walk_at "ev")
  | (apply evs_chain <;> walk_at "ev")
  | (apply evs_neg; walk_at "ev")
  | (apply evt_test; walk_at "ev") | (apply evt_B; walk_at "ev") | (apply evt_not; walk_at "ev")
  | (apply evt_and1 <;> walk_at "ev") | (apply evt_or1 <;> walk_at "ev")
  | (intro _; walk_at "ev"))
local macro_rules | `(tactic| walk_at "ret") => `(tactic| (apply sx_ret; walk_at "ev"))
section
variable {B : Bx} {δ : Dn} {te ta tb : TE} {tt : TT} {p q i j : Nat} {E : XK}
/-- a draw is 0 or not -/
theorem evt_draw0 {m : Nat} (hb : B.hd = some (p, q)) (hi : δ[i]? = some (some (.val (.ref p)))) (h : EvS B te δ (Is (natD m))) (h1 : 1 ≤ m) (h2 : m < 1073741824) : EvT B (tTest (tOp rEq (tCall (spDraw B.K) [] E (tCons (tVar i) (tCons te tNil))) (tC (.int 0)))) δ (fun _ => True) :=
  evt_testP (evs_op (S := fun s => ∃ b, s = .dat (.bool b) ∧ True) (evs_draw hb hi h h1 h2) (evs_int (i := 0)) fun s u ⟨d, e1, _⟩ e2 => by
    subst e1 e2
    exact fun H v w hh o1 o2 Q k => by
      cases DT.int_inv o1; cases DT.int_inv o2
      exact ⟨rfl, k.dat .refl hh (DT.bl _) ⟨_, rfl, trivial⟩⟩)
/-- an item of a written list, by a draw -/
theorem evs_pick {ds : List PyData} {P : PyData → Prop} {m : Nat} (hb : B.hd = some (p, q)) (hi : δ[i]? = some (some (.val (.ref p)))) (hl : EvL B ta δ (· = ds)) (h : EvS B te δ (Is (natD m))) (hm : ds.length = m) (h1 : 1 ≤ m) (h2 : m < 1073741824) (hp : ∀ d ∈ ds, P d) : EvS B (tOp (rIxL B.K) ta (tCall (spDraw B.K) [] E (tCons (tVar i) (tCons te tNil)))) δ (fun s => ∃ d, s = .dat d ∧ P d) :=
  evs_ixLP hl.evs1 ((evs_draw hb hi h h1 h2).imp fun s ⟨d, e, hd⟩ => ⟨(d : Int), e, Int.natCast_nonneg _, by rw [hm]; omega⟩) hp
/-- [elt for j in range(n)] -/
theorem evl_rngP {ta : TA} {n : Nat} {Q : Nat → PyData → Prop} (h : EvA B ta δ (· = [.dat (natD n)])) (hz : n ≤ 1000) (he : ∀ γ k, k < n → EvS (B.add γ) te ((wipeD δ [j]).set j (some (.dat (natD k)))) (fun s => ∃ d, s = .dat d ∧ Q k d)) :
    EvL B (tLc (iRng1 ta) (gName j) tYes te [j]) δ (fun out => out.length = n ∧ ∀ k d, out[k]? = some d → Q k d) := evl_lc (evi_rng1 (P := (· = (n : Int))) (h.imp fun ss e => ⟨(n : Int), e, rfl, by omega, by omega⟩)) fun n' put e => by
  obtain ⟨i, ei, en, ep⟩ := e
  have en' : n' = n := by rw [en, show i = (n : Int) from ei]; omega
  subst en' ep
  refine ⟨by omega, fun k acc => acc.length = k ∧ ∀ i d, acc[i]? = some d → Q i d, ⟨rfl, fun i d e => by simp at e⟩, fun γ k acc hk ga => ⟨_, evt_yes, fun _ => ?_, fun q => Bool.noConfusion (show false = true from q)⟩, fun acc ga => ga⟩
  have e0 : (0 : Int) + (k : Nat) = ((k : Nat) : Int) := Int.zero_add _
  show EvS _ te ((wipeD δ [j]).set j (some (.dat (.int ((0 : Int) + (k : Nat)))))) _
  rw [e0]
  refine (he γ k hk).imp fun s ⟨d, e, q⟩ => ⟨d, e, by rw [List.length_append, ga.1]; rfl, fun i x hx => ?_⟩
  by_cases hi : i < acc.length
  · rw [List.getElem?_append_left hi] at hx
    exact ga.2 i x hx
  · rw [List.getElem?_append_right (by omega)] at hx
    have : i - acc.length = 0 := by
      have := (List.getElem?_eq_some_iff.mp hx).1
      simp at this
      omega
    rw [this] at hx
    have hx' : d = x := Option.some.inj hx
    rw [← hx', show i = k by have := ga.1; omega]
    exact q
end
theorem mem_get {ds : List PyData} {Q : PyData → Prop} (h : ∀ (k : Nat) d, ds[k]? = some d → Q d) : ∀ d ∈ ds, Q d := fun d hd => by
  obtain ⟨k, hk, rfl⟩ := List.getElem_of_mem hd
  exact h k _ (List.getElem?_eq_getElem hk)
/-- names, one step apart -/
def stepN (f n : Nat) : List Nat := (List.range n).map fun k => f + 17 * k
theorem stepN_nodup (f n : Nat) : (stepN f n).Nodup := by
  unfold stepN
  rw [List.nodup_iff_pairwise_ne, List.pairwise_map]
  exact List.Pairwise.imp (fun {a b} (h : a ≠ b) => by omega) List.nodup_range
theorem stepN_lt {f n : Nat} (hf : f < 900) (hn : n ≤ 5) : ∀ v ∈ stepN f n, v < 1000 := fun v hv => by
  obtain ⟨k, hk, rfl⟩ := List.mem_map.mp hv
  have := List.mem_range.mp hk
  omega
section
variable {P : Program} {w : World} {K : PySem.W.Frag} {mg : Str → Option Value} {base : Heap}
abbrev N_law_inputs : List Str := ["_law_hand_here", "_law_kind", "_law_many", "_law_first", "_law_names", "_law_values", "_law_lots", "_law_one", "_law_item"]
theorem sc_law_inputs : FnScope N_law_inputs ["_law_hand_here", "_law_kind"] (defScope (top 134)) := ⟨rfl, rfl, rfl, by decide +kernel, rfl, by decide +kernel, by decide +kernel⟩
theorem c_law_inputs (T : TX K mg) : C8.Cal P w K mg base 3 "_law_inputs" (spH K (fun i : Inp => [.dat (.str i.kind)]) (fun _ => True) (fun i s => ∃ j : Inp, j.ok ∧ j.kind = i.kind ∧ s = .dat j.inputs)) [] := by
  refine cal_of T.d_law_inputs (fun F => F.bindsN (ps := ["_law_hand_here", "_law_kind"]) fun _ _ _ _ _ _ us hl => match us, hl with | [_, _], _ => rfl) fun F => fnH F sc_law_inputs (fun _ => rfl) (by intro a s hs ds z; subst z; simp at hs) fun cdv A outer s H E a p q hr ha => ?_
  refine ⟨_, (pss_cons (ps_set (i := 2) sc_law_inputs.nd rfl (Or.inl rfl) (pe_ix ix_list (pe_lst (pa_cons pe_int (pa_cons pe_int (pa_cons pe_int (pa_cons pe_int (pa_cons pe_int (pa_cons pe_int (pa_cons pe_int pa_nil)))))))) (C8.pe_c (c_law_draw T) hr (by decide) rfl (pa_cons (pv 0) (pa_cons pe_int pa_nil))) (fun _ _ => rfl))) (pss_cons (ps_if (pt_cmpR op_in_seq (pv 1) (pe_lst (pa_cons pe_str (pa_cons pe_str (pa_cons pe_str pa_nil)))) (by rfl)) (pss_one (ps_ret (C8.pe_c (c_law_scripts T) hr (by decide) rfl (pa_cons (pv 0) (pa_cons (pv 2) (pa_cons pe_int pa_nil)))))) pss_nil) (pss_cons (ps_if (pt_cmpR op_eq (pv 1) pe_str (nomark _)) (pss_one (ps_ret (pe_callTy b_tupO (by rfl) T.n_tuple bt_tuple (pa_cons (pe_lc (own := [("_law_one", 7)]) (g := gName 7) (by rfl) sc_law_inputs.nd (pi_range1 (by rfl) T.n_range (pa_cons (pv 2) pa_nil)) (blkOk_by (own := [("_law_one", 7)]) (N := N_law_inputs) (sc := defScope (top 134)) (by decide +kernel)) (fun _ _ _ _ _ => (pg_name (i := 7) sc_law_inputs.nd rfl (Or.inl rfl))) (fun _ _ _ _ _ => pts_nil) (fun _ _ _ _ _ => (pe_ix (ix_listK (K := K) rfl) (pe_lst (pa_cons pe_int (pa_cons pe_int (pa_cons pe_int (pa_cons pe_int pa_nil))))) (C8.pe_c (c_law_draw T) hr (by decide) rfl (pa_cons (pv 0) (pa_cons pe_int pa_nil))) (fun _ _ => rfl)))) pa_nil)))) pss_nil) (pss_cons (ps_if (pt_cmpR op_eq (pv 1) pe_str (nomark _)) (pss_cons (ps_set (i := 3) sc_law_inputs.nd rfl (Or.inr rfl) (C8.pe_c (c_law_draw T) hr (by decide) rfl (pa_cons (pv 0) (pa_cons pe_int pa_nil)))) (pss_cons (ps_setLc (i := 4) (own := [("_law_one", 7)]) (g := gName 7) (by rfl) sc_law_inputs.nd rfl rfl (sw_true rfl rfl rfl (by decide +kernel)) (pi_range1 (by rfl) T.n_range (pa_cons (pv 2) pa_nil)) (blkOk_by (own := [("_law_one", 7)]) (N := N_law_inputs) (sc := defScope (top 134)) (by decide +kernel)) (fun _ _ _ _ _ => (pg_name (i := 7) sc_law_inputs.nd rfl (Or.inl rfl))) (fun _ _ _ _ _ => pts_nil) (fun _ _ _ _ _ => (pe_op op_add (pv 3) (pe_op op_mul pe_int (pv 7))))) (pss_one (ps_ret (pe_callTy b_tupO (by rfl) T.n_tuple bt_tuple (pa_cons (pe_ifExp (pt_cmpR op_eq (C8.pe_c (c_law_draw T) hr (by decide) rfl (pa_cons (pv 0) (pa_cons pe_int pa_nil))) pe_int (nomark _)) (pe_revL (pv 4)) (pv 4)) pa_nil)))))) pss_nil) (pss_cons (ps_if (pt_cmpR op_eq (pv 1) pe_str (nomark _)) (pss_cons (ps_set (i := 5) sc_law_inputs.nd rfl (Or.inl rfl) (pe_callTy b_tupO (by rfl) T.n_tuple bt_tuple (pa_cons (pe_lc (own := [("_law_one", 7)]) (g := gName 7) (by rfl) sc_law_inputs.nd (pi_range1 (by rfl) T.n_range (pa_cons (pv 2) pa_nil)) (blkOk_by (own := [("_law_one", 7)]) (N := N_law_inputs) (sc := defScope (top 134)) (by decide +kernel)) (fun _ _ _ _ _ => (pg_name (i := 7) sc_law_inputs.nd rfl (Or.inl rfl))) (fun _ _ _ _ _ => pts_nil) (fun _ _ _ _ _ => (pe_op op_sub (C8.pe_c (c_law_draw T) hr (by decide) rfl (pa_cons (pv 0) (pa_cons pe_int pa_nil))) pe_int))) pa_nil))) (pss_one (ps_ret (pe_tup (pa_cons (pe_op op_add pe_int (C8.pe_c (c_law_draw T) hr (by decide) rfl (pa_cons (pv 0) (pa_cons pe_int pa_nil)))) (pa_cons (pv 5) pa_nil)))))) pss_nil) (pss_cons (ps_set (i := 6) sc_law_inputs.nd rfl (Or.inl rfl) (pe_lst pa_nil)) (pss_cons (ps_for PassesOwn.never rfl (pi_range1 (by rfl) T.n_range (pa_cons (pv 2) pa_nil)) (pg_name (i := 7) sc_law_inputs.nd rfl (Or.inl rfl)) (pss_one (ps_expr (pe_app (pv 6) (pe_callTy b_tupO (by rfl) T.n_tuple bt_tuple (pa_cons (pe_lc (own := [("_law_item", 8)]) (g := gName 8) (by rfl) sc_law_inputs.nd (pi_range1 (by rfl) T.n_range (pa_cons pe_int pa_nil)) (blkOk_by (own := [("_law_item", 8)]) (N := N_law_inputs) (sc := defScope (top 134)) (by decide +kernel)) (fun _ _ _ _ _ => (pg_name (i := 8) sc_law_inputs.nd rfl (Or.inl rfl))) (fun _ _ _ _ _ => (pts_one (pt_cmpR op_eq (C8.pe_c (c_law_draw T) hr (by decide) rfl (pa_cons (pv 0) (pa_cons pe_int pa_nil))) pe_int (nomark _)))) (fun _ _ _ _ _ => (pv 8))) pa_nil)))))) (pss_one (ps_ret (pe_callTy b_tupO (by rfl) T.n_tuple bt_tuple (pa_cons (pv 6) pa_nil))))))))))), ?_⟩
  refine q_asg (P := fun s => ∃ m : Nat, s = .dat (natD m) ∧ 1 ≤ m ∧ m ≤ 5) ((evs_pick (p := p) (q := q) (m := 7) (ds := [natD 1, natD 2, natD 2, natD 3, natD 3, natD 4, natD 5]) (P := fun d => ∃ m : Nat, d = natD m ∧ 1 ≤ m ∧ m ≤ 5) rfl rfl (evl_lst (ds := [natD 1, natD 2, natD 2, natD 3, natD 3, natD 4, natD 5]) (eva_c evs_int (eva_c evs_int (eva_c evs_int (eva_c evs_int (eva_c evs_int (eva_c evs_int (eva_c evs_int eva_nil)))))))) evs_int rfl (by decide) (by decide) fun d hd => ?_).imp fun s ⟨d, e, m, e2, h⟩ => ⟨m, by rw [e, e2], h⟩) (fun s ⟨m, e, _⟩ => by rw [e]; rfl) fun s ⟨m, e, m1, m5⟩ => ?_
  · simp only [List.mem_cons, List.not_mem_nil, or_false] at hd
    rcases hd with rfl | rfl | rfl | rfl | rfl | rfl | rfl
    · exact ⟨1, rfl, by decide, by decide⟩
    · exact ⟨2, rfl, by decide, by decide⟩
    · exact ⟨2, rfl, by decide, by decide⟩
    · exact ⟨3, rfl, by decide, by decide⟩
    · exact ⟨3, rfl, by decide, by decide⟩
    · exact ⟨4, rfl, by decide, by decide⟩
    · exact ⟨5, rfl, by decide, by decide⟩
  subst e
  have tm := evt_test (evs_is (evs_in (B := ⟨K, some (p, q), H, []⟩) (δ := [some (.val (.ref p)), some (.dat (.str a.kind)), some (.dat (natD m)), none, none, none, none, none, none]) (ta := tVar 1) (d := .str a.kind) (neg := false) (s := .lst manD) (evs_var rfl) (EvL.evs1 (evl_lst (ds := manD) (eva_c evs_str (eva_c evs_str (eva_c evs_str eva_nil))) (show 3 ≤ 1000 by decide))) rfl rfl (by decide)) (kind_man a))
  have tk : ∀ (x : Str) (b : Bool), decide (a.kind = x) = b → EvT ⟨K, some (p, q), H, []⟩ (tTest (tOp rEq (tVar 1) (tC (.str x)))) [some (.val (.ref p)), some (.dat (.str a.kind)), some (.dat (natD m)), none, none, none, none, none, none] (· = b) := fun x b e => evt_test (evs_isK (evs_var rfl) e)
  have tl := tk "levels" _ (kind_dec a).2.2.2
  have tn := tk "names" _ (kind_dec a).2.2.1
  have tr := tk "near" _ (kind_dec a).1
  have v1 : EvA ⟨K, some (p, q), H, []⟩ (tCons (tVar 2) tNil) [some (.val (.ref p)), some (.dat (.str a.kind)), some (.dat (natD m)), none, none, none, none, none, none] (· = [.dat (natD m)]) := eva_c (evs_var rfl) eva_nil
  cases a with
  | man k ss0 =>
    refine q_yesF tm (sx_retP (evs_callH (S := fun s => ∃ j : Inp, j.ok ∧ j.kind = k.s ∧ s = .dat j.inputs) rfl rfl (eva_c (evs_var rfl) (eva_c evs_int eva_nil)) fun ss e => ⟨(m, 3), e, ⟨m5, (show 3 ≤ 6 by decide)⟩, fun s ⟨ss, e, hl, ho⟩ => ⟨.man k ss, ⟨⟨by show 1 ≤ (ss.map scrD).length; rw [List.length_map]; omega, by show (ss.map scrD).length ≤ 5; rw [List.length_map]; omega⟩, ho⟩, rfl, by rw [e]; rfl⟩⟩) (fun s ⟨j, _, _, e⟩ => by rw [e]; rfl) fun s e => e)
  | lev vs0 =>
    refine q_no tm (q_yesF tl (sx_retP (P := fun s => ∃ j : Inp, j.ok ∧ j.kind = "levels" ∧ s = .dat j.inputs) ((evs_tupleL (evl_rngP (n := m) (Q := fun _ d => isVal d) v1 (by omega) fun γ k hk => evs_pick (p := p) (q := q) (m := 4) (ds := [natD 7, natD 7, natD 0, natD 999]) (P := isVal) rfl rfl (evl_lst (ds := [natD 7, natD 7, natD 0, natD 999]) (eva_c evs_int (eva_c evs_int (eva_c evs_int (eva_c evs_int eva_nil))))) evs_int rfl (by decide) (by decide) fun d hd => ?_).evs).imp fun s ⟨ds, e, hl, hq⟩ => ?_) (fun s ⟨j, _, _, e⟩ => by rw [e]; rfl) fun s e => e))
    · simp only [List.mem_cons, List.not_mem_nil, or_false] at hd
      rcases hd with rfl | rfl | rfl | rfl
      · exact ⟨7, rfl, by decide⟩
      · exact ⟨7, rfl, by decide⟩
      · exact ⟨0, rfl, by decide⟩
      · exact ⟨999, rfl, by decide⟩
    · obtain ⟨vs, rfl, hv⟩ := map_of (F := natD) (G := fun v => v < 1000) (cs := ds) (mem_get hq)
      have hl : (vs.map natD).length = m := hl
      exact ⟨.lev vs, ⟨⟨by show 1 ≤ (vs.map natD).length; omega, by show (vs.map natD).length ≤ 5; omega⟩, hv⟩, rfl, e⟩
  | nam vs0 =>
    refine q_no tm (q_no tl (q_yesF tn ?_))
    refine q_asg (evs_draw (p := p) (q := q) (m := 900) rfl rfl evs_int (by decide) (by decide)) (fun s ⟨d, e, _⟩ => by rw [e]; rfl) fun s ⟨f, e, hf⟩ => ?_
    subst e
    refine q_asgL (P := (· = (stepN f m).map natD)) ((evl_rngP (n := m) (Q := fun k d => d = natD (f + 17 * k)) (eva_c (evs_var rfl) eva_nil) (by omega) fun γ k hk => (evs_I0 (i := (f : Int)) (evs_var rfl) (evs_I (i := 17) (j := (k : Int)) evs_int (evs_var rfl) (.inl ⟨by decide, by decide⟩))).imp fun s e => ⟨natD (f + 17 * k), by rw [e]; show _ = Sv.dat (.int ((f + 17 * k : Nat) : Int)); rw [Int.natCast_add, Int.natCast_mul]; rfl, rfl⟩).imp fun ds ⟨hl, hq⟩ => ?_) fun ds e => ?_
    · apply List.ext_getElem?
      intro i
      unfold stepN
      rw [List.map_map, List.getElem?_map]
      by_cases hi : i < m
      · rw [List.getElem?_range hi]
        obtain ⟨d, hd⟩ : ∃ d, ds[i]? = some d := ⟨_, List.getElem?_eq_getElem (by omega)⟩
        rw [hd, hq i d hd]
        rfl
      · rw [List.getElem?_eq_none (by omega), List.getElem?_eq_none (by rw [List.length_range]; omega)]
        rfl
    · subst e
      have sl : (stepN f m).length = m := by unfold stepN; rw [List.length_map, List.length_range]
      have fin : ∀ vs : List Nat, vs.length = m → (∀ v ∈ vs, v < 1000) → vs.Nodup → ∃ j : Inp, j.ok ∧ j.kind = "names" ∧ Sv.dat (.tuple (vs.map natD)) = .dat j.inputs := fun vs h1 h2 h3 => ⟨.nam vs, ⟨⟨by show 1 ≤ (vs.map natD).length; rw [List.length_map]; omega, by show (vs.map natD).length ≤ 5; rw [List.length_map]; omega⟩, h2, h3⟩, rfl, rfl⟩
      refine sx_retP (P := fun s => ∃ j : Inp, j.ok ∧ j.kind = "names" ∧ s = .dat j.inputs) ((evs_tupleL (P := fun ds => ∃ vs : List Nat, ds = vs.map natD ∧ vs.length = m ∧ (∀ v ∈ vs, v < 1000) ∧ vs.Nodup) (evs_if (evt_draw0 (p := p) (q := q) (m := 2) rfl rfl evs_int (by decide) (by decide)) (fun _ => (evl_rev (evs_own rfl)).evs1.imp fun s e => ⟨_, e, (stepN f m).reverse, by rw [List.map_reverse], by rw [List.length_reverse, sl], fun v hv => stepN_lt hf m5 v (List.mem_reverse.mp hv), (List.reverse_perm (stepN f m)).nodup_iff.mpr (stepN_nodup f m)⟩) fun _ => (evs_own rfl).imp fun s e => ⟨_, e, stepN f m, rfl, sl, stepN_lt hf m5, stepN_nodup f m⟩)).imp fun s ⟨ds, e, vs, e2, h1, h2, h3⟩ => ?_) (fun s ⟨j, _, _, e⟩ => by rw [e]; rfl) fun s e => e
      subst e e2
      exact fin vs h1 h2 h3
  | near r0 vs0 =>
    refine q_no tm (q_no tl (q_no tn (q_yesF tr ?_)))
    refine q_asg (P := fun s => ∃ vs : List Int, s = .dat (.tuple (vs.map PyData.int)) ∧ vs.length = m ∧ ∀ v ∈ vs, -1000 ≤ v ∧ v ≤ 1000) ((evs_tupleL (evl_rngP (n := m) (Q := fun _ d => isNear d) (eva_c (evs_var rfl) eva_nil) (by omega) fun γ k hk => ?_).evs).imp fun s ⟨ds, e, hl, hq⟩ => ?_) (fun s ⟨vs, e, _⟩ => by rw [e]; rfl) fun s ⟨vs, e, hl, hv⟩ => ?_
    · exact (evs_I0P (P := fun i => 0 ≤ i ∧ i < 2001) (R := (· = 1000)) (S := fun i => -1000 ≤ i ∧ i ≤ 1000) ((evs_draw (p := p) (q := q) (m := 2001) rfl rfl evs_int (by decide) (by decide)).imp fun s ⟨d, e, hd⟩ => ⟨(d : Int), e, by omega, by omega⟩) (Is.intP evs_int rfl) fun i j h e => by omega).imp fun s ⟨i, e, h⟩ => ⟨_, e, i, rfl, h⟩
    · obtain ⟨vs, rfl, hv⟩ := map_of (F := PyData.int) (G := fun v => -1000 ≤ v ∧ v ≤ 1000) (cs := ds) (mem_get hq)
      exact ⟨vs, e, by rw [← hl, List.length_map], hv⟩
    · subst e
      refine sx_retP (P := fun s => ∃ j : Inp, j.ok ∧ j.kind = "near" ∧ s = .dat j.inputs) ((evs_tupP (P := fun ds => ∃ r : Nat, ds = [natD r, .tuple (vs.map PyData.int)] ∧ 1 ≤ r ∧ r ≤ 6) ((eva_cons (P := IntP fun i => 1 ≤ i ∧ i ≤ 6) (evs_I0P (P := (· = 1)) (R := fun j => 0 ≤ j ∧ j < 6) (Is.intP evs_int rfl) ((evs_draw (p := p) (q := q) (m := 6) rfl rfl evs_int (by decide) (by decide)).imp fun s ⟨d, e, hd⟩ => ⟨(d : Int), e, by omega, by omega⟩) fun i j e h => by omega) (eva_cons (P := Is (.tuple (vs.map PyData.int))) (evs_var rfl) eva_nil)).imp fun ss ⟨s, r, e1, ⟨i, e2, h1, h6⟩, s2, r2, e3, e4, e5⟩ => ⟨[natD i.toNat, .tuple (vs.map PyData.int)], by
          have : (i.toNat : Int) = i := by omega
          rw [e1, e2, e3, e4, e5]
          show _ = [Sv.dat (.int (i.toNat : Int)), _]
          rw [this], (show 2 ≤ 1000 by decide), i.toNat, rfl, by omega, by omega⟩)).imp fun s ⟨ds, e, r, e2, h⟩ => ⟨.near r vs, ⟨⟨by show 1 ≤ (vs.map PyData.int).length; rw [List.length_map]; omega, by show (vs.map PyData.int).length ≤ 5; rw [List.length_map]; omega⟩, h, hv⟩, rfl, by rw [e, e2]; rfl⟩) (fun s ⟨j, _, _, e⟩ => by rw [e]; rfl) fun s e => e
  | cha ls0 =>
    refine q_no tm (q_no tl (q_no tn (q_no tr ?_)))
    let I : Nat → Dn → Prop := fun k δ => ∃ (ls : List (List Nat)) (x : Option Sv), δ = [some (.val (.ref p)), some (.dat (.str "chain")), some (.dat (natD m)), none, none, none, some (.own (ls.map lotD)), x, none] ∧ ls.length = k ∧ ∀ l ∈ ls, lotOk l
    refine q_asgL1 (evl_lst (ds := []) eva_nil) ?_
    refine sx_seq (G := I m) (sx_for (evi_rng1 (P := (· = (m : Int))) ((eva_c (evs_var rfl) eva_nil).imp fun ss e => ⟨(m : Int), e, rfl, by omega, by omega⟩)) fun n put q => ?_) fun δ' q => ?_
    · obtain ⟨j, ej, en, ep⟩ := q
      have en' : n = m := by rw [en, show j = (m : Int) from ej]; omega
      subst en' ep
      refine ⟨I, ⟨[], none, rfl, rfl, fun l hl => (nomatch hl)⟩, fun γ k δ' hk q2 => ?_, fun δ' q2 => q2⟩
      obtain ⟨ls, x, e, hl, ho⟩ := q2
      subst e
      refine sx_app (i := 6) (P := fun d => ∃ l, d = lotD l ∧ lotOk l) rfl ((evs_tupleL (P := fun ds => ∃ l : List Nat, ds = l.map natD ∧ lotOk l) (EvL.evs (evl_lc (evi_rng1 (P := (· = (20 : Int))) ((eva_c evs_int eva_nil).imp fun ss e => ⟨(20 : Int), e, rfl, by decide, by decide⟩)) fun n2 put2 q2 => ?_))).imp fun s ⟨ds, e, l, e2, h⟩ => ⟨_, e, l, by rw [e2]; rfl, h⟩) (by rw [List.length_map]; omega) fun d ⟨l, e, h⟩ => ?_
      · obtain ⟨j2, ej2, en2, ep2⟩ := q2
        have en2' : n2 = 20 := by rw [en2, show j2 = (20 : Int) from ej2]; rfl
        subst en2' ep2
        refine ⟨by decide, fun k acc => ∃ l : List Nat, acc = l.map natD ∧ l.Pairwise (· < ·) ∧ (∀ x ∈ l, x < k) ∧ k ≤ 20, ⟨[], rfl, .nil, (fun x hx => nomatch hx), by decide⟩, fun γ2 k2 acc hk2 ⟨l, e, h1, h2, _⟩ => ⟨fun _ => True, evt_draw0 (p := p) (q := q) (m := 6) rfl rfl evs_int (by decide) (by decide), fun _ => ?_, fun _ => ⟨l, e, h1, fun x hx => Nat.lt_succ_of_lt (h2 x hx), by omega⟩⟩, fun acc ⟨l, e, h1, h2, _⟩ => ⟨l, e, h1, h2⟩⟩
        refine (evs_var (s := .dat (.int ((0 : Int) + (k2 : Nat)))) rfl).imp fun s es => ⟨natD k2, by rw [es, Int.zero_add]; rfl, l ++ [k2], by rw [e, List.map_append]; rfl, ?_, fun x hx => ?_, by omega⟩
        · rw [List.pairwise_append]
          exact ⟨h1, List.pairwise_singleton _ _, fun x hx y hy => by rw [List.mem_singleton.mp hy]; exact h2 x hx⟩
        · rcases List.mem_append.mp hx with h3 | h3
          · exact Nat.lt_succ_of_lt (h2 x h3)
          · rw [List.mem_singleton.mp h3]; exact Nat.lt_succ_self _
      · subst e
        exact ⟨ls ++ [l], _, by rw [List.map_append]; rfl, by rw [List.length_append, hl]; rfl, fun l2 hl2 => by
          rcases List.mem_append.mp hl2 with h3 | h3
          · exact ho l2 h3
          · rw [List.mem_singleton.mp h3]; exact h⟩
    · obtain ⟨ls, x, e, hl, ho⟩ := q
      subst e
      exact sx_ret (evs_tupleL1 (evs_own rfl)) ⟨.cha ls, ⟨⟨by show 1 ≤ (ls.map lotD).length; rw [List.length_map]; omega, by show (ls.map lotD).length ≤ 5; rw [List.length_map]; omega⟩, ho⟩, rfl, rfl⟩
end
end K32
/-! Walks: the law's weaving. -/
namespace K32
open PySem PySem.Spec PyProof.Rows L2 TL
local macro_rules | `(tactic| walk_at "ev") => `(tactic| first
  | exact evs_var rfl | exact evs_own rfl | exact evs_int | exact evs_str | exact evs_bl | exact evs_non
  | exact eva_nil | (apply eva_c <;> walk_at "ev")
  | exact evs_isi (evs_var rfl) rfl kit_int_int | exact evs_isi (evs_var rfl) rfl kit_int_bool | exact evs_isi (evs_var rfl) rfl kit_tuple_tuple | exact evs_isi (evs_var rfl) rfl kit_str_str
  | exact evs_ixT (evs_var rfl) evs_int rfl
  | (apply evs_I0 <;> walk_at "ev") | (apply evs_B0 <;> walk_at "ev")
  | (apply evs_andV <;> walk_at "ev") | (apply evs_orV <;> walk_at "ev") | (apply evs_notV; walk_at "ev")
  | (apply evs_chain <;> walk_at "ev")
  | (apply evs_neg; walk_at "ev")
  | (apply evt_test; walk_at "ev") | (apply evt_B; walk_at "ev") | (apply evt_not; walk_at "ev")
  | (apply evt_and1 <;> walk_at "ev") | (apply evt_or1 <;> walk_at "ev")
  | (intro _; walk_at "ev"))
local macro_rules | `(tactic| walk_at "ret") => `(tactic| (apply sx_ret; walk_at "ev"))
section
variable {B : Bx} {δ : Dn} {te ta tb : TE}
/-- an item of a tuple at a place that is told by its bounds -/
theorem evs_ixTP {ds : List PyData} {P : PyData → Prop} (ha : EvS B ta δ (Is (.tuple ds))) (hb : EvS B tb δ (IntP fun i => 0 ≤ i ∧ i < (ds.length : Int))) (h : ∀ d ∈ ds, P d) : EvS B (tOp (rIxT B.K) ta tb) δ (fun s => ∃ d, s = .dat d ∧ P d) := evs_op ha hb fun s u e1 ⟨i, e2, h1, h2⟩ => by
  subst e1 e2
  intro H v w hh o1 o2 Q k
  obtain ⟨a, xs, rfl, sq, t⟩ := DT.tup_inv o1
  have hl : i.toNat < ds.length := by omega
  obtain ⟨x, hx, ox⟩ := t.get (List.getElem?_eq_getElem hl)
  exact ⟨a, xs, i, x, rfl, DT.int_inv o2, sq, at_of (j := i.toNat) (by omega) hx, k.dat .refl hh ox ⟨_, rfl, h _ (List.getElem_mem hl)⟩⟩
theorem evt_eqI {x y : Int} {b : Bool} (h : EvS B te δ (Is (.int x))) (e : decide (x = y) = b) : EvT B (tTest (tOp rEq te (tC (.int y)))) δ (· = b) := evt_test (evs_is (evs_eq (d := .int x) (e := .int y) h evs_int rfl rfl rfl) (by
  rw [← e]
  by_cases hx : x = y
  · rw [decide_eq_true hx, decide_eq_true (by rw [hx])]
  · rw [decide_eq_false hx, decide_eq_false (fun z => hx (by injection z))]))
end
theorem inD_nat {n : Nat} : ∀ {hs : List Nat}, inD (natD n) (hs.map natD) = true → n ∈ hs
  | [], h => by cases h
  | x :: hs, h => by
    have h2 : (((x : Int) == (n : Int)) || inD (natD n) (hs.map natD)) = true := h
    rcases Bool.or_eq_true_iff.mp h2 with h3 | h3
    · have : (x : Int) = (n : Int) := by simpa using h3
      have : x = n := by omega
      rw [this]; exact List.mem_cons_self
    · exact List.mem_cons_of_mem _ (inD_nat h3)
section
variable {P : Program} {w : World} {K : PySem.W.Frag} {mg : Str → Option Value} {base : Heap}
abbrev N_law_weaving : List Str := ["_law_hand_here", "_law_play", "_law_most", "_law_here", "_law_found", "_law_one", "_law_left", "_law_turn", "_law_some"]
theorem sc_law_weaving : FnScope N_law_weaving ["_law_hand_here", "_law_play", "_law_most"] (defScope (top 135)) := ⟨rfl, rfl, rfl, by decide +kernel, rfl, by decide +kernel, by decide +kernel⟩
theorem c_law_weaving (T : TX K mg) : C8.Cal P w K mg base 8 "_law_weaving" (spH K (fun x : Inp × Nat => [plS K x.1, .dat (natD x.2)]) (fun x => x.1.ok ∧ x.2 ≤ 40) (fun x s => ∃ ns : List Nat, s = .dat (.tuple (ns.map natD)) ∧ ns.length ≤ 40 ∧ ∀ n ∈ ns, n < 5)) [] := by
  refine cal_of T.d_law_weaving (fun F => F.bindsN (ps := ["_law_hand_here", "_law_play", "_law_most"]) fun _ _ _ _ _ _ us hl => match us, hl with | [_, _, _], _ => rfl) fun F => fnH F sc_law_weaving (fun _ => rfl) (by intro a s hs ds z; subst z; simp at hs) fun cdv A outer s H E a p q hr ha => ?_
  refine ⟨_, (pss_cons (ps_set (i := 3) sc_law_weaving.nd rfl (Or.inl rfl) (C8.pe_c (c_first_standing T) hr (by decide) rfl (pa_cons (pv 1) pa_nil))) (pss_cons (ps_set (i := 4) sc_law_weaving.nd rfl (Or.inl rfl) (pe_lst pa_nil)) (pss_cons (ps_set (i := 5) sc_law_weaving.nd rfl (Or.inl rfl) pe_int) (pss_cons (ps_set (i := 6) sc_law_weaving.nd rfl (Or.inl rfl) pe_int) (pss_cons (ps_for PassesOwn.never rfl (pi_range1 (by rfl) T.n_range (pa_cons (pv 2) pa_nil)) (pg_name (i := 7) sc_law_weaving.nd rfl (Or.inl rfl)) (pss_cons (ps_set (i := 8) sc_law_weaving.nd rfl (Or.inl rfl) (C8.pe_c (c_can_step T) hr (by decide) rfl (pa_cons (pv 1) (pa_cons (pv 3) pa_nil)))) (pss_cons (ps_if (pt_cmpR op_eq (pe_callB b_len (by rfl) T.n_len bt_len (pa_cons (pv 8) pa_nil)) pe_int (nomark _)) (pss_one ps_break) pss_nil) (pss_cons (ps_if (PW.pt (pw_or (pt_cmpR op_eq (pv 6) pe_int (nomark _)) (pw_or1 (pt_cmpR op_notIn_seq (pv 5) (pv 8) (by rfl))))) (pss_cons (ps_set (i := 5) sc_law_weaving.nd rfl (Or.inl rfl) (pe_ix ix_tup (pv 8) (C8.pe_c (c_law_draw T) hr (by decide) rfl (pa_cons (pv 0) (pa_cons (pe_callB b_len (by rfl) T.n_len bt_len (pa_cons (pv 8) pa_nil)) pa_nil))) (fun _ _ => rfl))) (pss_one (ps_set (i := 6) sc_law_weaving.nd rfl (Or.inl rfl) (pe_ix ix_list (pe_lst (pa_cons pe_int (pa_cons pe_int (pa_cons pe_int (pa_cons pe_int (pa_cons pe_int pa_nil)))))) (C8.pe_c (c_law_draw T) hr (by decide) rfl (pa_cons (pv 0) (pa_cons pe_int pa_nil))) (fun _ _ => rfl))))) pss_nil) (pss_cons (ps_set (i := 3) sc_law_weaving.nd rfl (Or.inl rfl) (C8.pe_c (c_step T) hr (by decide) rfl (pa_cons (pv 1) (pa_cons (pv 3) (pa_cons (pv 5) pa_nil))))) (pss_cons (ps_expr (pe_app (pv 4) (pv 5))) (pss_one (ps_set (i := 6) sc_law_weaving.nd rfl (Or.inl rfl) (pe_op op_sub (pv 6) pe_int))))))))) (pss_one (ps_ret (pe_callTy b_tupO (by rfl) T.n_tuple bt_tuple (pa_cons (pv 4) pa_nil))))))))), ?_⟩
  obtain ⟨i, most⟩ := a
  obtain ⟨ok, h40⟩ := ha
  have ok : i.ok := ok
  have h40 : most ≤ 40 := h40
  have five := ok.1.2
  refine q_asg (P := fun s => ∃ d, s = .dat d ∧ Std i 0 d) (evs_call1 (α := Inp) i (eva_c (evs_var rfl) eva_nil) ok) (fun s ⟨d, e, _⟩ => by rw [e]; rfl) fun s ⟨d, e, st0⟩ => ?_
  subst e
  refine q_asgL1 (ds := []) (evl_lst (ds := []) eva_nil) ?_
  refine q_asg1 (s := .dat (natD 0)) evs_int rfl ?_
  refine q_asg1 (s := .dat (.int 0)) evs_int rfl ?_
  let I : Nat → Dn → Prop := fun k δ => ∃ (d : PyData) (ns : List Nat) (one : Nat) (left : Int) (x y : Option Sv), δ = [some (.val (.ref p)), some (plS K i), some (.dat (natD most)), some (.dat d), some (.own (ns.map natD)), some (.dat (natD one)), some (.dat (.int left)), x, y] ∧ Std i k d ∧ ns.length = k ∧ ∀ n ∈ ns, n < 5
  let G : Dn → Prop := fun δ => ∃ (d : PyData) (ns : List Nat) (one : Nat) (left : Int) (x y : Option Sv), δ = [some (.val (.ref p)), some (plS K i), some (.dat (natD most)), some (.dat d), some (.own (ns.map natD)), some (.dat (natD one)), some (.dat (.int left)), x, y] ∧ ns.length ≤ 40 ∧ ∀ n ∈ ns, n < 5
  refine sx_seq (G := G) (sx_for (evi_rng1 (P := (· = (most : Int))) ((eva_c (evs_var rfl) eva_nil).imp fun ss e => ⟨(most : Int), e, rfl, by omega, by omega⟩)) fun n put q => ?_) fun δ' q => ?_
  · obtain ⟨j, ej, en, ep⟩ := q
    have en' : n = most := by rw [en, show j = (most : Int) from ej]; omega
    subst en' ep
    refine ⟨I, ⟨d, [], 0, 0, none, none, rfl, st0, rfl, fun n hn => (nomatch hn)⟩, fun γ k δ' hk q2 => ?_, fun δ' q2 => ?_⟩
    · obtain ⟨d, ns, one, left, x, y, e, st, hl, hn⟩ := q2
      subst e
      obtain ⟨cs, ss, ts, rfl, n1, n2, n3, hp, tl⟩ := st
      refine q_asg (P := fun s => ∃ hs : List Nat, s = .dat (.tuple (hs.map natD)) ∧ hs.length ≤ 5 ∧ ∀ h ∈ hs, ∃ s, ss[h]? = some s ∧ isN (.dat s) = false) ((evs_call1 (α := Inp × List PyData × List PyData × List PyData) (i, cs, ss, ts) (eva_c (evs_var rfl) (eva_c (evs_var rfl) eva_nil)) (by show ss.length ≤ 5; omega)).imp fun s ⟨d, e, hs, e2, h1, h2⟩ => ⟨hs, by rw [e, e2], by have h1 : hs.length ≤ ss.length := h1; omega, h2⟩) (fun s ⟨hs, e, _⟩ => by rw [e]; rfl) fun s ⟨hs, e, h5, hg⟩ => ?_
      subst e
      by_cases hz : hs.length = 0
      · refine q_yesF (evt_eqI (x := ((hs.map natD).length : Nat)) (evs_len (s := .dat (.tuple (hs.map natD))) (evs_var rfl) rfl (by rw [List.length_map]; omega)) (decide_eq_true (by rw [List.length_map]; omega))) (sx_break ⟨_, ns, one, left, _, _, rfl, by omega, hn⟩)
      refine q_no (evt_eqI (x := ((hs.map natD).length : Nat)) (evs_len (s := .dat (.tuple (hs.map natD))) (evs_var rfl) rfl (by rw [List.length_map]; omega)) (decide_eq_false (by rw [List.length_map]; omega))) ?_
      let G2 : Dn → Prop := fun δ => ∃ (one : Nat) (left : Int) (x y : Option Sv), δ = [some (.val (.ref p)), some (plS K i), some (.dat (natD n)), some (.dat (.tuple [.tuple cs, .tuple ss, .tuple ts])), some (.own (ns.map natD)), some (.dat (natD one)), some (.dat (.int left)), x, y] ∧ one ∈ hs
      refine sx_seq (G := G2) (sx_if (P := fun b => b = false → one ∈ hs) (evt_or (P := fun _ => True) (R := fun b => b = false → one ∈ hs) ((evt_eqI (x := left) (evs_var rfl) rfl).imp fun _ _ => trivial) (fun _ => (evt_test (evs_in (neg := true) (d := natD one) (s := .dat (.tuple (hs.map natD))) (ds := hs.map natD) (evs_var rfl) (evs_var rfl) rfl rfl (by rw [List.all_map]; exact List.all_eq_true.mpr fun _ _ => rfl))).imp fun b e z => ?_) (fun _ z => (by cases z)) fun b _ r => r) (fun _ => ?_) fun mem => ?_) fun δ' q2 => ?_
      · rw [z] at e
        have e2 : (!inD (natD one) (hs.map natD)) = false := e.symm
        exact inD_nat (by simpa using e2)
      · refine q_asg (P := fun s => ∃ h : Nat, s = .dat (natD h) ∧ h ∈ hs) ((evs_ixTP (ds := hs.map natD) (P := fun d => ∃ h : Nat, d = natD h ∧ h ∈ hs) (evs_var rfl) ((evs_draw (p := p) (q := q) (m := hs.length) rfl rfl ((evs_len (s := .dat (.tuple (hs.map natD))) (evs_var rfl) rfl (by rw [List.length_map]; omega)).imp fun s e => by rw [e, List.length_map]; rfl) (by omega) (by omega)).imp fun s ⟨d, e, hd⟩ => ⟨(d : Int), e, Int.natCast_nonneg _, by rw [List.length_map]; omega⟩) fun d hd => ?_).imp fun s ⟨d, e, h, e2, hh⟩ => ⟨h, by rw [e, e2], hh⟩) (fun s ⟨h, e, _⟩ => by rw [e]; rfl) fun s ⟨h, e, hh⟩ => ?_
        · obtain ⟨h, hh, rfl⟩ := List.mem_map.mp hd
          exact ⟨h, rfl, hh⟩
        · subst e
          refine sx_asg (P := fun s => ∃ z : Int, s = .dat (.int z)) ((evs_pick (p := p) (q := q) (m := 5) (ds := [natD 1, natD 1, natD 2, natD 3, natD 7]) (P := fun d => ∃ z : Int, d = .int z) rfl rfl (evl_lst (ds := [natD 1, natD 1, natD 2, natD 3, natD 7]) (eva_c evs_int (eva_c evs_int (eva_c evs_int (eva_c evs_int (eva_c evs_int eva_nil)))))) evs_int rfl (by decide) (by decide) fun d hd => ?_).imp fun s ⟨d, e, z, e2⟩ => ⟨z, by rw [e, e2]⟩) (fun s ⟨z, e⟩ => by rw [e]; rfl) fun s ⟨z, e⟩ => ?_
          · simp only [List.mem_cons, List.not_mem_nil, or_false] at hd
            rcases hd with rfl | rfl | rfl | rfl | rfl <;> exact ⟨_, rfl⟩
          · subst e
            exact ⟨h, z, _, _, rfl, hh⟩
      · exact sx_next ⟨one, left, _, _, rfl, mem rfl⟩
      · obtain ⟨one, left, x, y, e, mem⟩ := q2
        subst e
        obtain ⟨s1, g1, g2⟩ := hg one mem
        have o5 : one < i.rows.length := by have := (List.getElem?_eq_some_iff.mp g1).1; omega
        refine q_asg (P := fun s => ∃ d, s = .dat d ∧ Std i (k + 1) d) (evs_call1 (α := SsA) ⟨i, one, cs, ss, ts, k⟩ (eva_c (evs_var rfl) (eva_c (evs_var rfl) (eva_c (evs_var rfl) eva_nil))) ⟨ok, o5, n1, n2, n3, hp, tl, by show k ≤ 1000; omega, s1, g1, g2⟩) (fun s ⟨d, e, _⟩ => by rw [e]; rfl) fun s ⟨d2, e, st2⟩ => ?_
        subst e
        refine sx_seq (G := (· = [some (.val (.ref p)), some (plS K i), some (.dat (natD n)), some (.dat d2), some (.own ((ns ++ [one]).map natD)), some (.dat (natD one)), some (.dat (.int left)), x, y])) (sx_app1 (i := 4) (d := natD one) rfl (evs_var rfl) (by rw [List.length_map]; omega) (by rw [List.map_append]; rfl)) fun δ' e => ?_
        subst e
        refine sx_asg1 (s := .dat (.int (left - 1))) (evs_I0 (i := left) (j := 1) (evs_var rfl) evs_int) rfl ⟨d2, ns ++ [one], one, left - 1, _, _, rfl, st2, by rw [List.length_append, hl]; rfl, fun z hz2 => ?_⟩
        rcases List.mem_append.mp hz2 with h3 | h3
        · exact hn z h3
        · rw [List.mem_singleton.mp h3]; omega
    · obtain ⟨d, ns, one, left, x, y, e, _, hl, hn⟩ := q2
      exact ⟨d, ns, one, left, x, y, e, by omega, hn⟩
  · obtain ⟨d, ns, one, left, x, y, e, hl, hn⟩ := q
    subst e
    exact sx_ret (evs_tupleL1 (evs_own rfl)) ⟨ns, rfl, hl, hn⟩
end
end K32
/-! Lists of lists of data: rules. -/
namespace K32
open PySem PySem.Spec PyProof.Rows L2
/-- one inner list -/
def InA (K : PySem.W.Frag) (H : Hp) (b : Addr) (ds : List PyData) : Prop := ∃ xs, H b = some (.lst xs) ∧ DTs K H xs ds
/-- a list at a, whose items are the lists at bs -/
structure LoA (K : PySem.W.Frag) (H : Hp) (a : Addr) (bs : List Addr) (L : List (List PyData)) : Prop where
  at_ : H a = some (.lst (bs.map V.ref))
  each : Paired (InA K H) bs L
/-- none of these is the law's hand -/
def Off (hd : Hand) (a : Addr) (bs : List Addr) : Prop := ∀ p q, hd = some (p, q) → a ≠ p ∧ ∀ b ∈ bs, b ≠ p
theorem Off.none {a : Addr} {bs : List Addr} : Off none a bs := fun p q e => nomatch e
section
variable {K : PySem.W.Frag} {hd : Hand} {H H' H1 : Hp} {a b : Addr} {bs : List Addr} {L : List (List PyData)} {ds : List PyData}
theorem paired_snoc {α β : Type} {F : α → β → Prop} : ∀ {l : List α} {m : List β} {x : α} {y : β}, Paired F l m → F x y → Paired F (l ++ [x]) (m ++ [y])
  | _, _, _, _, .nil, h => .cons h .nil
  | _, _, _, _, .cons r t, h => .cons r (paired_snoc t h)
theorem paired_memL {α β : Type} {F G : α → β → Prop} : ∀ {l : List α} {m : List β}, Paired F l m → (∀ a ∈ l, ∀ b, F a b → G a b) → Paired G l m
  | _, _, .nil, _ => .nil
  | _, _, .cons r t, f => .cons (f _ List.mem_cons_self _ r) (paired_memL t fun a ha => f a (List.mem_cons_of_mem _ ha))
theorem paired_rev {α β : Type} {F : α → β → Prop} : ∀ {l : List α} {m : List β} {i : Nat} {x : α}, Paired F l m → l[i]? = some x → ∃ y, m[i]? = some y ∧ F x y
  | _, _, _, _, .nil, e => by simp at e
  | _, _, 0, _, .cons h _, e => by simp at e; subst e; exact ⟨_, rfl, h⟩
  | _, _, i + 1, x, .cons _ t, e => by
    obtain ⟨y, h1, h2⟩ := paired_rev (i := i) (x := x) t (by simpa using e)
    exact ⟨y, by simpa using h1, h2⟩
theorem LoA.len (h : LoA K H a bs L) : bs.length = L.length := paired_len h.each
theorem LoA.get {k : Nat} (h : LoA K H a bs L) (e : L[k]? = some ds) : ∃ b, bs[k]? = some b ∧ InA K H b ds := by
  obtain ⟨b, h1, h2⟩ := paired_get h.each e
  exact ⟨b, h1, h2⟩
theorem LoA.mono (h : LoA K H a bs L) (ha : H' a = some (.lst (bs.map V.ref))) (m : ∀ b ∈ bs, ∀ o, H b = some o → H' b = some o) (hT : ∀ c xs, SqT K H c xs → SqT K H' c xs) : LoA K H' a bs L :=
  ⟨ha, paired_memL h.each fun b hb ds ⟨xs, e, t⟩ => ⟨xs, m b hb _ e, DTs.mono hT _ _ t⟩⟩
theorem LoA.rel (h : LoA K H a bs L) (hf : Off hd a bs) (hh : Hands hd H) (r : Rel hd H H') : LoA K H' a bs L :=
  h.mono (r _ _ (fun p q e => (hf p q e).1) h.at_) (fun b hb o e => r _ _ (fun p q z => (hf p q z).2 b hb) e) fun _ _ => sqT_rel hh r
end
section
variable {B : Bx} {H H' H1 : Hp} {σ : L2.St} {δ : Dn} {te ta tb : TE} {i j k : Nat} {a : Addr} {bs : List Addr} {L : List (List PyData)} {ds : List PyData}
theorem StB.lo (st : StB B H σ δ) (h : LoA B.K B.H0 a bs L) (hf : Off B.hd a bs) : LoA B.K H a bs L := h.rel hf st.h0 st.rel
theorem evs_loLen (hi : δ[i]? = some (some (.val (.ref a)))) (hL : LoA B.K B.H0 a bs L) (hf : Off B.hd a bs) : EvS B (tCB (rLen B.K) (tCons (tVar i) tNil)) δ (Is (.int (L.length : Nat))) := fun σ H st Q k => by
  obtain ⟨v, e, rfl⟩ := st.ok i _ hi
  have h := st.lo hL hf
  exact ⟨_, e, _, L.length, rfl, .inl ⟨_, SqL.of h.at_, by rw [List.length_map, h.len]⟩, k.dat .refl st.hh (DT.int _) rfl⟩
theorem evs_loIx (hi : δ[i]? = some (some (.val (.ref a)))) (hL : LoA B.K B.H0 a bs L) (hf : Off B.hd a bs) (hb : EvS B tb δ (Is (natD k))) (hk : L[k]? = some ds) : EvS B (tOp (rIxL B.K) (tVar i) tb) δ (· = .lst ds) := fun σ H st Q kk => by
  obtain ⟨v, e, rfl⟩ := st.ok i _ hi
  refine ⟨_, e, hb σ H st _ fun w H1 s r1 h1 o1 p1 => ?_⟩
  subst p1
  have h := (st.mono r1 h1).lo hL hf
  obtain ⟨b, g1, xs, g2, t⟩ := h.get hk
  exact ⟨a, _, k, .ref b, rfl, DT.int_inv o1, SqL.of h.at_, by rw [atI_nat, List.getElem?_map, g1]; rfl, kk _ H1 (.lst ds) r1 h1 ⟨b, xs, rfl, fun p q z => (hf p q z).2 b (List.mem_of_getElem? g1), g2, t⟩ rfl⟩
/-- a list that stood is stored in a slot -/
theorem StB.set0 (st : StB B H σ δ) (i : Nat) {b : Addr} {o : HO} (h0 : B.H0 b = some o) {s : Sv} (o2 : SvOk B.K B.hd H (.ref b) s) (hs : ∀ ds, s ≠ .own ds) : StB B H (σ.set i (some (.ref b))) (δ.set i (some s)) := by
  refine ⟨st.rel, st.h0, st.hh, by rw [List.length_set, List.length_set]; exact st.len, fun j t e => ?_, st.gh, fun j ds a e1 e2 => ?_⟩
  · rcases getSet e with ⟨rfl, e'⟩ | ⟨n, e'⟩
    · cases e'
      exact ⟨_, set_get st.len e, o2⟩
    · obtain ⟨u, h1, h2⟩ := st.ok j t e'
      exact ⟨u, by rw [List.getElem?_set_ne (Ne.symm n)]; exact h1, h2⟩
  · rcases getSet e1 with ⟨rfl, e'⟩ | ⟨n, e'⟩
    · cases e'; exact absurd rfl (hs ds)
    · have e2' : σ[j]? = some (some (.ref a)) := by rwa [List.getElem?_set_ne (Ne.symm n)] at e2
      obtain ⟨a1, a2, a3⟩ := st.own j ds a e' e2'
      refine ⟨a1, fun k t hk f1 f2 => ?_, a3⟩
      rcases getSet f1 with ⟨rfl, f'⟩ | ⟨m, f'⟩
      · cases f'
        have e3 := set_get (x := some (V.ref b)) st.len f1
        rw [f2] at e3
        cases e3
        rw [h0] at a1; cases a1
      · exact a2 k t hk f' (by rwa [List.getElem?_set_ne (Ne.symm m)] at f2)
def putLo (j : Nat) (L : List (List PyData)) : Nat → Dn → Dn := fun k δ => δ.set j (some (.lst (L.getD k [])))
theorem src_lo (hL : LoA B.K B.H0 a bs L) (hf : Off B.hd a bs) : Src B (Itl B.K a) (gName j) L.length (putLo j L) [j] where
  go i H σ δ st hi := by
    have h := st.lo hL hf
    exact ⟨_, .ref (bs[i]'(by rw [h.len]; exact hi)), SqL.of h.at_, by rw [List.getElem?_map, List.getElem?_eq_getElem (by rw [h.len]; exact hi)]; rfl⟩
  stop i H σ δ st hi := by
    have h := st.lo hL hf
    exact ⟨_, SqL.of h.at_, by rw [List.length_map, h.len]; exact hi⟩
  yld i H σ δ x H' st hi h k kk := by
    obtain ⟨rfl, h2⟩ := h
    have h := st.lo hL hf
    obtain ⟨b, g1, xs, g2, t⟩ := h.get (List.getElem?_eq_getElem hi)
    have ex := h2 _ (SqL.of h.at_)
    rw [List.getElem?_map, g1] at ex
    have ex : V.ref b = x := Option.some.inj ex
    subst ex
    obtain ⟨b', g1', xs0, g0, _⟩ := hL.get (List.getElem?_eq_getElem hi)
    rw [g1] at g1'
    cases g1'
    refine kk _ _ .refl st.hh (st.set0 j g0 (s := .lst (L.getD i [])) ?_ (fun _ z => by cases z)) set_off (by rw [List.length_set])
    rw [show L.getD i [] = L[i] from getD_of (List.getElem?_eq_getElem hi)]
    exact ⟨b, xs, rfl, fun p q z => (hf p q z).2 b (List.mem_of_getElem? g1), g2, t⟩
/-- for x in a list of lists -/
theorem evi_lo (hi : δ[i]? = some (some (.val (.ref a)))) (hL : LoA B.K B.H0 a bs L) (hf : Off B.hd a bs) : EvI B (iList B.K (tVar i)) δ (gName j) [j] (fun n put => n = L.length ∧ put = putLo j L) := fun σ H st R k => by
  obtain ⟨v, e, rfl⟩ := st.ok i _ hi
  have h := st.lo hL hf
  exact ⟨_, e, a, rfl, ⟨_, SqL.of h.at_⟩, k _ H [] _ _ .refl st.hh st.add0 (src_lo hL hf) ⟨rfl, rfl⟩⟩
/-- what stands now is what stood -/
theorem StB.rebase (st : StB B H σ δ) (hno : ∀ (i : Nat) (ds : List PyData), δ[i]? ≠ some (some (Sv.own ds))) : StB ⟨B.K, B.hd, H, []⟩ H σ δ :=
  ⟨.refl, st.hh, st.hh, st.len, st.ok, fun v s m => (nomatch m), fun i ds a e1 _ => absurd e1 (hno i ds)⟩
end
section
variable {B : Bx} {H H' H1 : Hp} {σ : L2.St} {δ : Dn} {i j : Nat} {a : Addr} {bs : List Addr} {L : List (List PyData)}
/-- [list(x) for x in a list of lists] -/
theorem lc_copy (st : StB B H σ δ) (hi : δ[i]? = some (some (.val (.ref a)))) (hj : j < δ.length) (hL : LoA B.K B.H0 a bs L) (hf : Off B.hd a bs) (hz : L.length ≤ 1000) {Q : VK}
    (k : ∀ f fs H', StB B H' σ δ → Rel B.hd H H' → H f = none → (∀ b ∈ fs, H b = none ∧ b ≠ f) → fs.Nodup → LoA B.K H' f fs L → Q (.ref f) H') : tLc (iList B.K (tVar i)) (gName j) tYes (tCB (rListO B.K) (tCons (tVar j) tNil)) [j] σ H Q := by
  obtain ⟨v, e, rfl⟩ := st.ok i _ hi
  have h := st.lo hL hf
  refine ⟨_, e, a, rfl, ⟨_, SqL.of h.at_⟩, fun D hD => ?_⟩
  have src := src_lo (j := j) hL hf
  have nD : ∀ p q, B.hd = some (p, q) → D ≠ p := st.hh.ne_free hD
  refine ⟨fun n m H2 => m = L.length - n ∧ n ≤ L.length ∧ Rel B.hd H H2 ∧ Hands B.hd H2 ∧ ∃ fs, LoA B.K H2 D fs (L.take n) ∧ (∀ b ∈ fs, H b = none ∧ b ≠ D) ∧ fs.Nodup, ⟨L.length - 0, rfl, Nat.zero_le _, .new hD, st.hh.new hD, [], ⟨upd_same, .nil⟩, (fun b hb => nomatch hb), .nil⟩, ?_⟩
  rintro n m H2 ⟨rfl, hn, r2, h2, fs, lo, off, nd⟩
  have s2 : StB B H2 σ δ := st.mono r2 h2
  have sw : StB B H2 (L2.wipe σ [j]) (wipeD δ [j]) := s2.wipe [j]
  by_cases hlt : n < L.length
  · refine .inr ⟨src.go n H2 _ _ sw hlt, fun H3 => Rel B.hd H H3 ∧ Hands B.hd H3 ∧ ∃ fs, LoA B.K H3 D fs (L.take (n + 1)) ∧ (∀ b ∈ fs, H b = none ∧ b ≠ D) ∧ fs.Nodup, fun H3 ⟨x, y, z⟩ => ⟨L.length - (n + 1), by omega, rfl, hlt, x, y, z⟩, fun x H3 hy => ?_⟩
    refine src.yld n H2 _ _ x H3 sw hlt hy _ fun σ4 H4 r4 h4 s4 e4 l4 => ⟨?_, ?_⟩
    · apply List.ext_getElem?
      intro l
      by_cases hl : l ∈ [j]
      · rw [wipe_in hl, wipe_in hl, l4, wipe_length]
      · rw [wipe_off hl, e4 l hl]
    · unfold tYes
      refine iteT ?_
      have offD : ∀ p q, B.hd = some (p, q) → D ≠ p ∧ ∀ b ∈ fs, b ≠ p := fun p q z => ⟨nD p q z, fun b hb => st.hh.ne_free (off b hb).1 p q z⟩
      have lo4 : LoA B.K H4 D fs (L.take n) := lo.rel offD h2 r4
      have ej : (putLo j L n (wipeD δ [j]))[j]? = some (some (.lst L[n])) := by
        unfold putLo
        rw [show L.getD n [] = L[n] from getD_of (List.getElem?_eq_getElem hlt), List.getElem?_set, if_pos rfl, if_pos (by rw [wipeD_length]; exact hj)]
      refine evl_list (s := .lst L[n]) (evs_var ej) (.inl rfl) σ4 H4 s4 _ fun b xs ds H5 r5 h5 hb hl t eds => ?_
      subst eds
      have lo5 : LoA B.K H5 D fs (L.take n) := lo4.rel offD h4 r5
      have r25 : Rel B.hd H H5 := (r2.trans r4).trans r5
      have hbH : H b = none := free_back h4 (r2.trans r4) hb
      have bD : b ≠ D := fun z => by rw [z, lo4.at_] at hb; cases hb
      have bfs : b ∉ fs := fun z => by
        obtain ⟨l, hl2, rfl⟩ := List.getElem_of_mem z
        obtain ⟨_, _, ys, q, _⟩ := paired_rev lo4.each (List.getElem?_eq_getElem hl2)
        rw [hb] at q; cases q
      have hT : ∀ c ys, SqT B.K H5 c ys → SqT B.K (upd H5 D (.lst (fs.map V.ref ++ [.ref b]))) c ys := fun _ _ => sqT_updL lo5.at_
      have eT : L.take (n + 1) = L.take n ++ [L[n]] := by rw [List.take_succ, List.getElem?_eq_getElem hlt]; rfl
      refine ⟨_, lo5.at_, ?_, ?_, ?_, fs ++ [b], ⟨by rw [List.map_append]; exact upd_same, ?_⟩, fun c hc => ?_, ?_⟩
      · rw [List.length_map, lo5.len, List.length_take]
        exact Nat.lt_of_le_of_lt (show min n L.length ≤ 1000 by omega) (by decide)
      · exact fun c o hc e => by
          rw [upd_ne (ne_of_none e hD)]
          exact r25 c o hc e
      · intro p q e
        obtain ⟨⟨x, y, z, u, k1, k2⟩, ns, k3, k4⟩ := h5 p q e
        obtain ⟨⟨_, _, _, _, m1, _⟩, _, m3, _⟩ := st.hh p q e
        exact ⟨⟨x, y, z, u, by rw [upd_ne (ne_of_none m1 hD)]; exact k1, k2⟩, ns, by rw [upd_ne (ne_of_none m3 hD)]; exact k3, k4⟩
      · rw [eT]
        exact paired_snoc (paired_memL lo5.each fun c hc ds ⟨xs, e, t⟩ => ⟨xs, by rw [upd_ne (off c hc).2]; exact e, DTs.mono hT _ _ t⟩) ⟨xs, by rw [upd_ne bD]; exact hl, DTs.mono hT _ _ t⟩
      · rcases List.mem_append.mp hc with hc | hc
        · exact off c hc
        · rw [List.mem_singleton.mp hc]; exact ⟨hbH, bD⟩
      · rw [List.nodup_append]
        exact ⟨nd, List.pairwise_singleton _ _, fun x hx y hy z => by rw [List.mem_singleton.mp hy] at z; exact bfs (z ▸ hx)⟩
  · have : n = L.length := by omega
    subst this
    rw [List.take_length] at lo
    exact .inl ⟨src.stop L.length H2 _ _ sw (Nat.le_refl _), k D fs H2 s2 r2 hD off nd lo⟩
end
end K32
/-! Plain: moments numbered anew. -/
namespace K32
open PySem PySem.Spec PyProof.Rows L2
structure Mark where
  t : Nat
  s : Nat
  i : Nat
  p : Nat
def Mark.key (m : Mark) : List Int := [(m.t : Int), (m.s : Int), (m.i : Int), (m.p : Int)]
def Mark.l (m : Mark) : List PyData := [natD m.t, natD m.s, natD m.i, natD m.p]
def Mark.d (m : Mark) : PyData := .tuple m.l
def mkOf (i : Nat) (c : Call) : List Mark := ⟨c.b, 0, i, 3⟩ :: (match c.e with
  | none => []
  | some x => [⟨x, 1, i, 4⟩])
def marksOf : Nat → List Call → List Mark
  | _, [] => []
  | i, c :: cs => mkOf i c ++ marksOf (i + 1) cs
theorem marksOf_snoc (c : Call) : ∀ (cs : List Call) (i : Nat), marksOf i (cs ++ [c]) = marksOf i cs ++ mkOf (i + cs.length) c
  | [], i => by show mkOf i c ++ [] = [] ++ mkOf (i + 0) c; simp
  | d :: cs, i => by
    show mkOf i d ++ marksOf (i + 1) (cs ++ [c]) = (mkOf i d ++ marksOf (i + 1) cs) ++ _
    rw [marksOf_snoc c cs (i + 1), List.append_assoc, List.length_cons, show i + 1 + cs.length = i + (cs.length + 1) by omega]
theorem mkOf_len (i : Nat) (c : Call) : (mkOf i c).length ≤ 2 := by
  unfold mkOf
  cases c.e <;> simp
theorem marksOf_len : ∀ (cs : List Call) (i : Nat), (marksOf i cs).length ≤ 2 * cs.length
  | [], _ => Nat.zero_le _
  | c :: cs, i => by
    have h1 := mkOf_len i c
    have h2 := marksOf_len cs (i + 1)
    show (mkOf i c ++ marksOf (i + 1) cs).length ≤ 2 * (cs.length + 1)
    rw [List.length_append]
    omega
theorem mem_mkOf {i : Nat} {c : Call} {m : Mark} : m ∈ mkOf i c ↔ m = ⟨c.b, 0, i, 3⟩ ∨ ∃ x, c.e = some x ∧ m = ⟨x, 1, i, 4⟩ := by
  unfold mkOf
  cases c.e <;> simp
theorem mem_marks {m : Mark} : ∀ {cs : List Call} {i : Nat}, m ∈ marksOf i cs → ∃ k c, cs[k]? = some c ∧ m ∈ mkOf (i + k) c
  | c :: cs, i, h => by
    rcases List.mem_append.mp h with h | h
    · exact ⟨0, c, rfl, h⟩
    · obtain ⟨k, d, h1, h2⟩ := mem_marks h
      exact ⟨k + 1, d, by simpa using h1, by rw [show i + (k + 1) = i + 1 + k by omega]; exact h2⟩
theorem marks_mem {m : Mark} : ∀ {cs : List Call} {i k : Nat} {c : Call}, cs[k]? = some c → m ∈ mkOf (i + k) c → m ∈ marksOf i cs
  | d :: cs, i, 0, c, h, hm => by
    have h : d = c := Option.some.inj h
    subst h
    exact List.mem_append_left _ hm
  | d :: cs, i, k + 1, c, h, hm => List.mem_append_right _ (marks_mem (k := k) (c := c) (by simpa using h) (by rw [show i + 1 + k = i + (k + 1) by omega]; exact hm))
theorem mark_i {m : Mark} {i : Nat} {c : Call} (h : m ∈ mkOf i c) : m.i = i := by
  rcases mem_mkOf.mp h with rfl | ⟨x, _, rfl⟩ <;> rfl
theorem marks_ge {m : Mark} {cs : List Call} {i : Nat} (h : m ∈ marksOf i cs) : i ≤ m.i := by
  obtain ⟨k, c, _, h2⟩ := mem_marks h
  rw [mark_i h2]; omega
theorem marks_nodup : ∀ (cs : List Call) (i : Nat), (marksOf i cs).Nodup
  | [], _ => .nil
  | c :: cs, i => by
    show (mkOf i c ++ marksOf (i + 1) cs).Nodup
    rw [List.nodup_append]
    refine ⟨?_, marks_nodup cs (i + 1), fun x hx y hy z => ?_⟩
    · unfold mkOf
      cases c.e <;> simp
    · subst z
      have h1 := mark_i hx
      have h2 := marks_ge hy
      omega
theorem mark_uni {m m' : Mark} {cs : List Call} (h : m ∈ marksOf 0 cs) (h' : m' ∈ marksOf 0 cs) (ei : m.i = m'.i) (ep : m.p = m'.p) : m = m' := by
  obtain ⟨k, c, g, hm⟩ := mem_marks h
  obtain ⟨k', c', g', hm'⟩ := mem_marks h'
  have e1 := mark_i hm
  have e2 := mark_i hm'
  have : k = k' := by omega
  subst this
  rw [g] at g'
  cases g'
  rcases mem_mkOf.mp hm with rfl | ⟨x, e, rfl⟩ <;> rcases mem_mkOf.mp hm' with rfl | ⟨x', e', rfl⟩
  · rfl
  · cases ep
  · cases ep
  · rw [e] at e'; cases e'; rfl
theorem mark_at {m : Mark} {cs : List Call} (h : m ∈ marksOf 0 cs) : ∃ c, cs[m.i]? = some c ∧ ((m.p = 3 ∧ m.t = c.b) ∨ (m.p = 4 ∧ c.e = some m.t)) := by
  obtain ⟨k, c, g, hm⟩ := mem_marks h
  rw [mark_i hm, Nat.zero_add]
  refine ⟨c, g, ?_⟩
  rcases mem_mkOf.mp hm with rfl | ⟨x, e, rfl⟩
  · exact .inl ⟨rfl, rfl⟩
  · exact .inr ⟨rfl, e⟩
/-- how far the numbering is -/
def Prog (M : List Mark) (cs : List Call) (n : Nat) (L : List (List PyData)) : Prop := L.length = cs.length ∧ ∀ k c, cs[k]? = some c → ∃ x y, L[k]? = some [.str c.what.word, natD c.hand, c.what.d, x, y] ∧
  (∀ j m, j < n → M[j]? = some m → m.i = k → (m.p = 3 → x = natD j) ∧ (m.p = 4 → y = natD j)) ∧ (c.e = none → y = .none)
theorem prog_start (M : List Mark) (cs : List Call) : Prog M cs 0 (cs.map Call.l) := ⟨List.length_map _, fun k c h => ⟨natD c.b, optD c.e, by rw [List.getElem?_map, h]; rfl, fun j m hj => absurd hj (Nat.not_lt_zero _), fun e => by rw [e]; rfl⟩⟩
theorem prog_step {M : List Mark} {cs : List Call} {n : Nat} {L : List (List PyData)} {m : Mark} (h : Prog M cs n L) (hM : ∀ m ∈ M, m ∈ marksOf 0 cs) (nd : M.Nodup) (e : M[n]? = some m) :
    ∃ ds, L[m.i]? = some ds ∧ m.p < ds.length ∧ Prog M cs (n + 1) (L.set m.i (ds.set m.p (natD n))) := by
  obtain ⟨hl, hk⟩ := h
  have hm := hM m (List.mem_of_getElem? e)
  have hn := (List.getElem?_eq_some_iff.mp e).1
  obtain ⟨c, hc, hp⟩ := mark_at hm
  obtain ⟨x, y, hL, h1, h2⟩ := hk _ c hc
  have hi := (List.getElem?_eq_some_iff.mp hL).1
  refine ⟨_, hL, by rcases hp with ⟨hp, _⟩ | ⟨hp, _⟩ <;> rw [hp] <;> (show _ < 5; decide), by rw [List.length_set]; exact hl, fun k c' hc' => ?_⟩
  by_cases ek : k = m.i
  · subst ek
    rw [hc] at hc'
    cases hc'
    have uni : ∀ j m', j < n → M[j]? = some m' → m'.i = m.i → m'.p = m.p → False := fun j m' hj ej ei ep => by
      have : m' = m := mark_uni (hM _ (List.mem_of_getElem? ej)) hm ei ep
      subst this
      have := (List.getElem?_inj (by omega) nd).mp (ej.trans e.symm)
      omega
    rcases hp with ⟨hp, _⟩ | ⟨hp, hce⟩
    · refine ⟨natD n, y, by rw [List.getElem?_set, if_pos rfl, if_pos hi, hp]; rfl, fun j m' hj ej ei => ⟨fun p3 => ?_, fun p4 => ?_⟩, h2⟩
      · rcases Nat.lt_or_eq_of_le (Nat.le_of_lt_succ hj) with lt | rfl
        · exact (uni j m' lt ej ei (by rw [p3, hp])).elim
        · rfl
      · rcases Nat.lt_or_eq_of_le (Nat.le_of_lt_succ hj) with lt | rfl
        · exact (h1 j m' lt ej ei).2 p4
        · rw [e] at ej; cases ej; omega
    · refine ⟨x, natD n, by rw [List.getElem?_set, if_pos rfl, if_pos hi, hp]; rfl, fun j m' hj ej ei => ⟨fun p3 => ?_, fun p4 => ?_⟩, fun z => by rw [hce] at z; cases z⟩
      · rcases Nat.lt_or_eq_of_le (Nat.le_of_lt_succ hj) with lt | rfl
        · exact (h1 j m' lt ej ei).1 p3
        · rw [e] at ej; cases ej; omega
      · rcases Nat.lt_or_eq_of_le (Nat.le_of_lt_succ hj) with lt | rfl
        · exact (uni j m' lt ej ei (by rw [p4, hp])).elim
        · rfl
  · obtain ⟨x', y', hL', h1', h2'⟩ := hk k c' hc'
    refine ⟨x', y', by rw [List.getElem?_set_ne (Ne.symm ek)]; exact hL', fun j m' hj ej ei => ?_, h2'⟩
    rcases Nat.lt_or_eq_of_le (Nat.le_of_lt_succ hj) with lt | rfl
    · exact h1' j m' lt ej ei
    · rw [e] at ej; cases ej; exact absurd ei.symm ek
/-- a call and what it became -/
def Ren (M : List Mark) (k : Nat) (c c' : Call) : Prop := c'.hand = c.hand ∧ c'.what = c.what ∧ M[c'.b]? = some ⟨c.b, 0, k, 3⟩ ∧ match c.e with
  | none => c'.e = none
  | some x => ∃ j, c'.e = some j ∧ M[j]? = some ⟨x, 1, k, 4⟩
theorem pick_list {α β : Type} {F : α → β} {R : Nat → α → Prop} : ∀ {L : List β}, (∀ k ds, L[k]? = some ds → ∃ c, ds = F c ∧ R k c) → ∃ cs : List α, L = cs.map F ∧ ∀ k c, cs[k]? = some c → R k c
  | [], _ => ⟨[], rfl, fun k c e => by simp at e⟩
  | ds :: L, h => by
    obtain ⟨c, e, r⟩ := h 0 ds rfl
    obtain ⟨cs, e2, r2⟩ := pick_list (L := L) (R := fun k => R (k + 1)) fun k ds hk => h (k + 1) ds (by simpa using hk)
    refine ⟨c :: cs, by rw [List.map_cons, e, e2], fun k c' hk => ?_⟩
    cases k with
    | zero =>
      have : c = c' := Option.some.inj hk
      rw [← this]; exact r
    | succ k => exact r2 k c' (by simpa using hk)
theorem prog_end {M : List Mark} {cs : List Call} {L : List (List PyData)} (h : Prog M cs M.length L) (hM : M.Perm (marksOf 0 cs)) : ∃ cs' : List Call, L = cs'.map Call.l ∧ cs'.length = cs.length ∧ ∀ (k : Nat) c c', cs[k]? = some c → cs'[k]? = some c' → Ren M k c c' := by
  obtain ⟨hl, hk⟩ := h
  obtain ⟨cs', e, r⟩ := pick_list (F := Call.l) (R := fun k c' => ∃ c, cs[k]? = some c ∧ Ren M k c c') (L := L) fun k ds hd => by
    have hi := (List.getElem?_eq_some_iff.mp hd).1
    obtain ⟨c, hc⟩ : ∃ c, cs[k]? = some c := ⟨_, List.getElem?_eq_getElem (by omega)⟩
    obtain ⟨x, y, hL, h1, h2⟩ := hk k c hc
    rw [hd] at hL
    cases hL
    have mb : (⟨c.b, 0, k, 3⟩ : Mark) ∈ M := hM.mem_iff.mpr (marks_mem (i := 0) hc (by rw [Nat.zero_add]; exact mem_mkOf.mpr (.inl rfl)))
    obtain ⟨jb, ejb⟩ := List.mem_iff_getElem?.mp mb
    have ex := (h1 jb _ (List.getElem?_eq_some_iff.mp ejb).1 ejb rfl).1 rfl
    cases he : c.e with
    | none => exact ⟨⟨c.hand, c.what, jb, none⟩, by rw [ex, h2 he]; rfl, c, hc, rfl, rfl, ejb, by rw [he]⟩
    | some z =>
      have me : (⟨z, 1, k, 4⟩ : Mark) ∈ M := hM.mem_iff.mpr (marks_mem (i := 0) hc (by rw [Nat.zero_add]; exact mem_mkOf.mpr (.inr ⟨z, he, rfl⟩)))
      obtain ⟨je, eje⟩ := List.mem_iff_getElem?.mp me
      have ey := (h1 je _ (List.getElem?_eq_some_iff.mp eje).1 eje rfl).2 rfl
      exact ⟨⟨c.hand, c.what, jb, some je⟩, by rw [ex, ey]; rfl, c, hc, rfl, rfl, ejb, by rw [he]; exact ⟨je, rfl, eje⟩⟩
  refine ⟨cs', e, by rw [← hl, e, List.length_map], fun k c c' hc hc' => ?_⟩
  obtain ⟨c2, hc2, rr⟩ := r k c' hc'
  rw [hc] at hc2
  cases hc2
  exact rr
/-- calls as they are drawn -/
structure UnOk (many : Nat) (cs : List Call) : Prop where
  lo : 1 ≤ many
  hi : many ≤ 8
  len : cs.length ≤ 300
  each : ∀ c ∈ cs, c.okAt many
  rise : cs.Pairwise (fun c c' => c.b < c'.b)
  clear : cs.Pairwise (fun c c' => c.hand = c'.hand → ∃ x, c.e = some x ∧ x < c'.b)
  vals : (cs.filterMap putV).Nodup
  what : ∀ c ∈ cs, match c.what with
    | .put v => v < 10 ^ 20
    | .look l => ∀ x, some x ∈ l → x < 10 ^ 20
theorem putV_eq {c c' : Call} (h1 : c'.hand = c.hand) (h2 : c'.what = c.what) : putV c' = putV c := by unfold putV; rw [h2, h1]
/-- all its numbers are small -/
def Call.low (c : Call) : Prop := c.b < 1000 ∧ (∀ x, c.e = some x → x < 1000) ∧ match c.what with
  | .put v => v < 10 ^ 20
  | .look l => ∀ x, some x ∈ l → x < 10 ^ 20
theorem Call.low.short {c : Call} (h : c.low) : c.short := ⟨by have := h.1; omega, fun x e => by have := h.2.1 x e; omega, h.2.2⟩
theorem un_rec {M : List Mark} {many : Nat} {cs cs' : List Call} (ok : UnOk many cs) (hM : M.Perm (marksOf 0 cs)) (hs : M.Pairwise (fun m m' => HT.lexLt m'.key m.key = false)) (hl : cs'.length = cs.length) (r : ∀ (k : Nat) c c', cs[k]? = some c → cs'[k]? = some c' → Ren M k c c') :
    RecOk many cs' ∧ ∀ c ∈ cs', c.low := by
  have mono : ∀ {j j' : Nat} {m m' : Mark}, M[j]? = some m → M[j']? = some m' → m.t < m'.t → j < j' := fun {j j' m m'} e e' lt => by
    rcases Nat.lt_trichotomy j j' with h | h | h
    · exact h
    · subst h; rw [e] at e'; cases e'; omega
    · obtain ⟨h1, e1⟩ := List.getElem?_eq_some_iff.mp e
      obtain ⟨h2, e2⟩ := List.getElem?_eq_some_iff.mp e'
      have := List.pairwise_iff_getElem.mp hs j' j h2 h1 h
      rw [e1, e2] at this
      have nt : ¬ ((m.t : Int) = (m'.t : Int)) := by omega
      rw [Mark.key, Mark.key, HT.lexLt_cons, if_neg nt, decide_eq_true (by omega)] at this
      cases this
  have at_ : ∀ {k : Nat} {c' : Call}, cs'[k]? = some c' → ∃ c, cs[k]? = some c ∧ Ren M k c c' := fun {k c'} e => by
    have h1 := (List.getElem?_eq_some_iff.mp e).1
    exact ⟨_, List.getElem?_eq_getElem (by omega), r k _ _ (List.getElem?_eq_getElem (by omega)) e⟩
  have at1 : ∀ {c' : Call}, c' ∈ cs' → ∃ k c, cs[k]? = some c ∧ c ∈ cs ∧ Ren M k c c' := fun {c'} h => by
    obtain ⟨k, e⟩ := List.mem_iff_getElem?.mp h
    obtain ⟨c, h1, h2⟩ := at_ e
    exact ⟨k, c, h1, List.mem_of_getElem? h1, h2⟩
  have pw : ∀ {R S : Call → Call → Prop}, cs.Pairwise R → (∀ k k' c d c' d', k < k' → Ren M k c c' → Ren M k' d d' → R c d → S c' d') → cs'.Pairwise S := fun {R S} h f => by
    refine List.pairwise_iff_getElem.mpr fun i j hi hj lt => ?_
    have h1 := List.pairwise_iff_getElem.mp h i j (by omega) (by omega) lt
    exact f i j _ _ _ _ lt (r i _ _ (List.getElem?_eq_getElem (by omega)) (List.getElem?_eq_getElem hi)) (r j _ _ (List.getElem?_eq_getElem (by omega)) (List.getElem?_eq_getElem hj)) h1
  have mlen : M.length ≤ 600 := by
    have := marksOf_len cs 0
    have := ok.len
    rw [hM.length_eq]; omega
  have ren_e : ∀ {k : Nat} {c c' : Call} {j : Nat}, Ren M k c c' → c'.e = some j → ∃ x, c.e = some x ∧ M[j]? = some ⟨x, 1, k, 4⟩ := fun {k c c' j} h e => by
    obtain ⟨_, _, _, h4⟩ := h
    cases he : c.e with
    | none => rw [he] at h4; rw [e] at h4; cases h4
    | some x =>
      rw [he] at h4
      obtain ⟨j2, e2, e3⟩ := h4
      rw [e] at e2
      cases e2
      exact ⟨x, rfl, e3⟩
  have ren_s : ∀ {k : Nat} {c c' : Call} {x : Nat}, Ren M k c c' → c.e = some x → ∃ j, c'.e = some j ∧ M[j]? = some ⟨x, 1, k, 4⟩ := fun {k c c' x} h e => by
    obtain ⟨_, _, _, h4⟩ := h
    rw [e] at h4
    exact h4
  have rise : cs'.Pairwise (fun c c' => c.b < c'.b) := pw ok.rise fun k k' c d c' d' _ rc rd h => mono rc.2.2.1 rd.2.2.1 h
  refine ⟨⟨ok.lo, ok.hi, by rw [hl]; exact ok.len, fun c' hc' => ?_, rise, ?_, ?_, ?_⟩, fun c' hc' => ?_⟩
  · obtain ⟨k, c, _, hc, rc⟩ := at1 hc'
    obtain ⟨o1, o2, o3⟩ := ok.each c hc
    refine ⟨by rw [rc.1]; exact o1, fun j ej => ?_, ?_⟩
    · obtain ⟨x, ex, e3⟩ := ren_e rc ej
      exact mono rc.2.2.1 e3 (o2 x ex)
    · rw [rc.2.1]
      cases hw : c.what with
      | put v => trivial
      | look l =>
        rw [hw] at o3
        obtain ⟨⟨x, ex⟩, l1⟩ := o3
        obtain ⟨j, ej, _⟩ := ren_s rc ex
        exact ⟨⟨j, ej⟩, l1⟩
  · rw [List.nodup_append]
    refine ⟨?_, ?_, fun x hx y hy z => ?_⟩
    · rw [List.nodup_iff_pairwise_ne, List.pairwise_map]
      exact rise.imp fun h => Nat.ne_of_lt h
    · rw [List.nodup_iff_pairwise_ne, List.pairwise_filterMap]
      refine pw (R := fun c d => True) (List.pairwise_iff_getElem.mpr fun _ _ _ _ _ => trivial) fun k k' c d c' d' lt rc rd _ x ex y ey z => ?_
      subst z
      obtain ⟨x1, _, e1⟩ := ren_e rc ex
      obtain ⟨x2, _, e2⟩ := ren_e rd ey
      rw [e1] at e2
      cases e2
      omega
    · subst z
      obtain ⟨c', hc', eb⟩ := List.mem_map.mp hx
      obtain ⟨d', hd', ee⟩ := List.mem_filterMap.mp hy
      obtain ⟨k, c, _, _, rc⟩ := at1 hc'
      obtain ⟨k', d, _, _, rd⟩ := at1 hd'
      obtain ⟨x2, _, e2⟩ := ren_e rd ee
      have e1 := rc.2.2.1
      rw [eb, e2] at e1
      cases e1
  · refine pw ok.clear fun k k' c d c' d' lt rc rd h eh => ?_
    obtain ⟨x, ex, lx⟩ := h (by rw [← rc.1, ← rd.1]; exact eh)
    obtain ⟨j, ej, e3⟩ := ren_s rc ex
    exact ⟨j, ej, Nat.le_of_lt (mono e3 rd.2.2.1 lx)⟩
  · have : cs'.filterMap putV = cs.filterMap putV := by
      have : cs'.map putV = cs.map putV := by
        apply List.ext_getElem?
        intro i
        rw [List.getElem?_map, List.getElem?_map]
        by_cases h : i < cs.length
        · rw [List.getElem?_eq_getElem h, List.getElem?_eq_getElem (show i < cs'.length by omega)]
          have rc := r i _ _ (List.getElem?_eq_getElem h) (List.getElem?_eq_getElem (show i < cs'.length by omega))
          show some _ = some _
          rw [putV_eq rc.1 rc.2.1]
        · rw [List.getElem?_eq_none (by omega), List.getElem?_eq_none (by omega)]
      have e2 : ∀ l : List Call, l.filterMap putV = (l.map putV).filterMap id := fun l => by rw [List.filterMap_map]; rfl
      rw [e2, e2, this]
    rw [this]
    exact ok.vals
  · obtain ⟨k, c, _, hc, rc⟩ := at1 hc'
    have hb := (List.getElem?_eq_some_iff.mp rc.2.2.1).1
    refine ⟨by omega, fun j ej => ?_, ?_⟩
    · obtain ⟨x, _, e3⟩ := ren_e rc ej
      have := (List.getElem?_eq_some_iff.mp e3).1
      omega
    · rw [rc.2.1]
      exact ok.what c hc
end K32
/-! Walks: the law's calls with unlike moments. -/
namespace K32
open PySem PySem.Spec PyProof.Rows L2 TL
local macro_rules | `(tactic| walk_at "ev") => `(tactic| first
  | exact evs_var rfl | exact evs_own rfl | exact evs_int | exact evs_str | exact evs_bl | exact evs_non
  | exact eva_nil | (apply eva_c <;> walk_at "ev")
  | exact evs_isi (evs_var rfl) rfl kit_int_int | exact evs_isi (evs_var rfl) rfl kit_int_bool | exact evs_isi (evs_var rfl) rfl kit_tuple_tuple | exact evs_isi (evs_var rfl) rfl kit_str_str
  | exact evs_ixT (evs_var rfl) evs_int rfl
  | (apply evs_I0 <;> walk_at "ev") | (apply evs_B0 <;> walk_at "ev")
  | (apply evs_andV <;> walk_at "ev") | (apply evs_orV <;> walk_at "ev") | (apply evs_notV; walk_at "ev")
  | (apply evs_chain <;> walk_at "ev")
  | (apply evs_neg; walk_at "ev")
  | (apply evt_test; walk_at "ev") | (apply evt_B; walk_at "ev") | (apply evt_not; walk_at "ev")
  | (apply evt_and1 <;> walk_at "ev") | (apply evt_or1 <;> walk_at "ev")
  | (intro _; walk_at "ev"))
local macro_rules | `(tactic| walk_at "ret") => `(tactic| (apply sx_ret; walk_at "ev"))
section
variable {K : PySem.W.Frag} {H : Hp} {a b : Addr} {bs : List Addr} {L : List (List PyData)}
theorem DTs.set : ∀ {xs : List V} {ds : List PyData} (p : Nat) {v : V} {d : PyData}, DTs K H xs ds → DT K H v d → DTs K H (xs.set p v) (ds.set p d)
  | _, _, _, _, _, .nil, _ => .nil
  | _, _, 0, _, _, .cons _ t, h => .cons h t
  | _, _, p + 1, _, _, .cons r t, h => .cons r (DTs.set p t h)
theorem paired_set {α β : Type} {F : α → β → Prop} : ∀ {l : List α} {m : List β} (i : Nat) {x : α} {y : β}, Paired F l m → l[i]? = some x → F x y → Paired F l (m.set i y)
  | _, _, _, _, _, .nil, _, _ => .nil
  | _, _, 0, _, _, .cons h t, e, f => by
    simp at e; subst e; exact .cons f t
  | _, _, i + 1, _, _, .cons h t, e, f => .cons h (paired_set i t (by simpa using e) f)
theorem paired_memI {α β : Type} {F G : α → β → Prop} : ∀ {l : List α} {m : List β}, Paired F l m → (∀ (i : Nat) (a : α) (b : β), l[i]? = some a → m[i]? = some b → F a b → G a b) → Paired G l m
  | _, _, .nil, _ => .nil
  | _, _, .cons r t, f => .cons (f 0 _ _ rfl rfl r) (paired_memI t fun i a b e1 e2 => f (i + 1) a b (by simpa using e1) (by simpa using e2))
theorem paired_setI {α β : Type} {F G : α → β → Prop} : ∀ {l : List α} {m : List β} (i : Nat) {x : α} {y : β}, Paired F l m → l[i]? = some x → G x y → (∀ (j : Nat) (a : α) (b : β), j ≠ i → l[j]? = some a → F a b → G a b) → Paired G l (m.set i y)
  | _, _, _, _, _, .nil, _, _, _ => .nil
  | _, _, 0, _, _, .cons h t, e, f, g => by
    simp at e; subst e
    exact .cons f (paired_memI t fun i a b e1 _ => g (i + 1) a b (by omega) (by simpa using e1))
  | _, _, i + 1, _, _, .cons h t, e, f, g => .cons (g 0 _ _ (by omega) rfl h) (paired_setI i t (by simpa using e) f fun j a b hj e1 => g (j + 1) a b (by omega) (by simpa using e1))
/-- an item of an inner list is stored -/
theorem LoA.upd (h : LoA K H a bs L) (nd : bs.Nodup) (na : ∀ b ∈ bs, b ≠ a) {i p : Nat} {ds : List PyData} {xs : List V} {v : V} {d : PyData} (hb : bs[i]? = some b) (hx : H b = some (.lst xs)) (t : DTs K H xs ds) (hv : DT K H v d) :
    LoA K (L2.upd H b (.lst (xs.set p v))) a bs (L.set i (ds.set p d)) := by
  have hT : ∀ c ys, SqT K H c ys → SqT K (L2.upd H b (.lst (xs.set p v))) c ys := fun _ _ => sqT_updL hx
  refine ⟨by rw [upd_ne (Ne.symm (na b (List.mem_of_getElem? hb)))]; exact h.at_, ?_⟩
  refine paired_setI i h.each hb ⟨_, upd_same, DTs.mono hT _ _ (DTs.set p t hv)⟩ fun j c ds' hj e ⟨ys, q, t2⟩ => ⟨ys, ?_, DTs.mono hT _ _ t2⟩
  rw [upd_ne fun z => hj ((List.getElem?_inj (List.getElem?_eq_some_iff.mp e).1 nd).mp (by rw [e, hb, z]))]
  exact q
theorem stb_one {σ : L2.St} {n i : Nat} {v : V} (hl : σ.length = n) (h : σ[i]? = some (some v)) : StB ⟨K, none, H, []⟩ H σ ((List.replicate n none).set i (some (.val v))) := by
  refine ⟨.refl, .of_none, .of_none, by rw [List.length_set, List.length_replicate, hl], fun j s e => ?_, fun v s m => (nomatch m), fun j ds a e _ => ?_⟩
  · rcases getSet e with ⟨rfl, e'⟩ | ⟨n, e'⟩
    · cases e'; exact ⟨v, h, rfl⟩
    · rw [List.getElem?_replicate] at e'; split at e' <;> cases e'
  · rcases getSet e with ⟨rfl, e'⟩ | ⟨n, e'⟩
    · cases e'
    · rw [List.getElem?_replicate] at e'; split at e' <;> cases e'
end
theorem raw_asg {te : TE} {g : TG} {u : TS} {D : Ends} {σ : L2.St} {H : Hp} (h : te σ H fun x H1 => g x σ H1 fun σ' H' => u D σ' H') : tSeq (tAsg te g) u D σ H := h
theorem raw_for {wi : TI} {g : TG} {tb u : TS} {D : Ends} {σ : L2.St} {H : Hp} (h : wi σ H fun J H1 => ∃ W : Nat → Nat → L2.St → Hp → Prop, (∃ m, W 0 m σ H1) ∧ ∀ i m σ H, W i m σ H →
  (J.stop i H ∧ u D σ H) ∨ (J.go i H ∧ ∃ N : L2.St → Hp → Prop, (∀ σ' H', N σ' H' → ∃ m', m' < m ∧ W (i + 1) m' σ' H') ∧ ∀ x H', J.yld i H x H' → g x σ H' fun σ2 H2 => tb { D with nx := N, ct := N, bk := fun σ H => u D σ H } σ2 H2)) : tSeq (tFor wi g tb) u D σ H := h
def notOwn (x : Option Sv) : Prop := ∀ ds, x ≠ some (.own ds)
def keyD : PyData → List Int
  | .tuple ds => ds.map fun d => match d with
    | .int i => i
    | _ => 0
  | _ => []
theorem keyD_mark (m : Mark) : keyD m.d = m.key := rfl
def key1 : PyData → List Int
  | .tuple (.int i :: _) => [i]
  | _ => []
def rest1 : PyData → List PyData
  | .tuple (_ :: r) => r
  | _ => []
def pairC (c : Call) : PyData := .tuple [natD c.b, c.d]
abbrev spUn (K : PySem.W.Frag) : Sp := fun vs H Q _ => ∃ (a : Addr) (bs : List Addr) (many : Nat) (cs : List Call), vs = [.ref a] ∧ LoA K H a bs (cs.map Call.l) ∧ UnOk many cs ∧ ∀ v H' cs', Same H H' → DT K H' v (callsD cs') → RecOk many cs' → (∀ c ∈ cs', c.low) → Q v H'
section
variable {P : Program} {w : World} {K : PySem.W.Frag} {mg : Str → Option Value} {base : Heap}
abbrev N_law_unlike : List Str := ["_law_calls_here", "_law_marks", "_law_at", "_law_found", "_law_place", "_law_moment", "_law_sort", "_law_part", "_law_call", "_law_pair"]
theorem sc_law_unlike : FnScope N_law_unlike ["_law_calls_here"] (defScope (top 141)) := ⟨rfl, rfl, rfl, by decide +kernel, rfl, by decide +kernel, by decide +kernel⟩
theorem c_law_unlike (T : TX K mg) : C8.Cal P w K mg base 1 "_law_unlike" (spUn K) [] := by
  refine cal_of T.d_law_unlike (fun F => F.bindsN (ps := ["_law_calls_here"]) fun _ _ _ _ _ _ us hl => match us, hl with | [_], _ => rfl) fun F => F.ok sc_law_unlike (fun vs H Q E h => ?_) (fun cdv A outer s H vs Q E hr h => ?_)
  · obtain ⟨a, bs, many, cs, rfl, _⟩ := h
    rfl
  obtain ⟨a, bs, many, cs, rfl, lo, ok, k⟩ := h
  refine ⟨_, PSs.nox (pss_cons (ps_set (i := 1) sc_law_unlike.nd rfl (Or.inl rfl) (pe_lst pa_nil)) (pss_cons (ps_for PassesOwn.never rfl (pi_range1 (by rfl) T.n_range (pa_cons (pe_callB b_len (by rfl) T.n_len bt_len (pa_cons (pv 0) pa_nil)) pa_nil)) (pg_name (i := 2) sc_law_unlike.nd rfl (Or.inl rfl)) (pss_cons (ps_expr (pe_app (pv 1) (pe_tup (pa_cons (pe_ix ix_list (pe_ix ix_list (pv 0) (pv 2) (fun _ _ => rfl)) pe_int (fun _ _ => rfl)) (pa_cons pe_int (pa_cons (pv 2) (pa_cons pe_int pa_nil))))))) (pss_one (ps_if (pt_cmpR o_notN (pe_ix ix_list (pe_ix ix_list (pv 0) (pv 2) (fun _ _ => rfl)) pe_int (fun _ _ => rfl)) pe_non (nomark _)) (pss_one (ps_expr (pe_app (pv 1) (pe_tup (pa_cons (pe_ix ix_list (pe_ix ix_list (pv 0) (pv 2) (fun _ _ => rfl)) pe_int (fun _ _ => rfl)) (pa_cons pe_int (pa_cons (pv 2) (pa_cons pe_int pa_nil)))))))) pss_nil)))) (pss_cons (ps_setLc (i := 3) (own := [("_law_call", 8)]) (g := gName 8) (by rfl) sc_law_unlike.nd rfl rfl (sw_true rfl rfl rfl (by decide +kernel)) (pi_list (pv 0)) (blkOk_by (own := [("_law_call", 8)]) (N := N_law_unlike) (sc := defScope (top 141)) (by decide +kernel)) (fun _ _ _ _ _ => (pg_name (i := 8) sc_law_unlike.nd rfl (Or.inl rfl))) (fun _ _ _ _ _ => pts_nil) (fun _ _ _ _ _ => (pe_callTy (b_listOK (K := K) rfl) (by rfl) T.n_list bt_list (pa_cons (pv 8) pa_nil)))) (pss_cons (ps_set (i := 4) sc_law_unlike.nd rfl (Or.inl rfl) pe_int) (pss_cons (ps_for PassesOwn.never rfl (pi_list (pe_callB cr_sortedK (by rfl) T.n_sorted bt_sorted (pa_cons (pv 1) pa_nil))) (pg_is (is := [5, 6, 2, 7]) (pg_tup rfl (pgs_cons (pg_name (i := 5) sc_law_unlike.nd rfl (Or.inl rfl)) (pgs_cons (pg_name (i := 6) sc_law_unlike.nd rfl (Or.inl rfl)) (pgs_cons (pg_name (i := 2) sc_law_unlike.nd rfl (Or.inl rfl)) (pgs_cons (pg_name (i := 7) sc_law_unlike.nd rfl (Or.inl rfl)) pgs_nil)))))) (pss_cons (ps_set (i := 8) sc_law_unlike.nd rfl (Or.inl rfl) (pe_ix ix_list (pv 3) (pv 2) (fun _ _ => rfl))) (pss_cons (ps_asg (pv 4) (pg_sub (pv 8) (pv 7) set_list)) (pss_one (ps_set (i := 4) sc_law_unlike.nd rfl (Or.inl rfl) (pe_op op_add (pv 4) pe_int)))))) (pss_one (ps_ret (pe_callTy b_tupO (by rfl) T.n_tuple bt_tuple (pa_cons (pe_lc (own := [("_law_pair", 9)]) (g := gName 9) (by rfl) sc_law_unlike.nd (pi_list (pe_callB cr_sortedK (by rfl) T.n_sorted bt_sorted (pa_cons (pe_lc (own := [("_law_call", 8)]) (g := gName 8) (by rfl) sc_law_unlike.nd (pi_list (pv 3)) (blkOk_by (own := [("_law_call", 8)]) (N := N_law_unlike) (sc := defScope (top 141)) (by decide +kernel)) (fun _ _ _ _ _ => (pg_name (i := 8) sc_law_unlike.nd rfl (Or.inl rfl))) (fun _ _ _ _ _ => pts_nil) (fun _ _ _ _ _ => (pe_tup (pa_cons (pe_ix (ix_listK (K := K) rfl) (pv 8) pe_int (fun _ _ => rfl)) (pa_cons (pe_callTy (b_tupOK (K := K) rfl) (by rfl) T.n_tuple bt_tuple (pa_cons (pv 8) pa_nil)) pa_nil))))) pa_nil))) (blkOk_by (own := [("_law_pair", 9)]) (N := N_law_unlike) (sc := defScope (top 141)) (by decide +kernel)) (fun _ _ _ _ _ => (pg_name (i := 9) sc_law_unlike.nd rfl (Or.inl rfl))) (fun _ _ _ _ _ => pts_nil) (fun _ _ _ _ _ => (pe_ix (ix_tupK (K := K) rfl) (pv 9) pe_int (fun _ _ => rfl)))) pa_nil))))))))), ?_⟩
  have st0 : StB ⟨K, none, H, []⟩ H (start N_law_unlike [.ref a]) (slots N_law_unlike [.val (.ref a)]) := stb_start .of_none (.cons rfl .nil) (by intro s hs ds z; subst z; simp at hs)
  have off : ∀ {a bs}, Off none a bs := .none
  have lz : cs.length ≤ 300 := ok.len
  refine raw_seq (G := (· = [some (.val (.ref a)), some (.own []), none, none, none, none, none, none, none, none])) (sx_asgL (P := (· = [])) (evl_lst (ds := []) eva_nil) fun ds e => by rw [e]; rfl) st0 fun σ1 H1 δ1 st1 e1 => ?_
  subst e1
  let I : Nat → Dn → Prop := fun n δ => ∃ x2, notOwn x2 ∧ δ = [some (.val (.ref a)), some (.own ((marksOf 0 (cs.take n)).map Mark.d)), x2, none, none, none, none, none, none, none]
  refine raw_seq (G := fun δ => ∃ x2, notOwn x2 ∧ δ = [some (.val (.ref a)), some (.own ((marksOf 0 cs).map Mark.d)), x2, none, none, none, none, none, none, none]) (sx_for (evi_rng1 (P := (· = (cs.length : Int))) ((eva_c (evs_loLen (B := ⟨K, none, H, []⟩) (i := 0) rfl lo off) eva_nil).imp fun ss e => ⟨(cs.length : Int), by rw [e, List.length_map], rfl, by omega, by omega⟩)) fun n put q => ?_) st1 fun σ2 H2 δ2 st2 ⟨x2, nx2, e2⟩ => ?_
  · obtain ⟨j, ej, en, ep⟩ := q
    have en' : n = cs.length := by rw [en, show j = (cs.length : Int) from ej]; omega
    subst en' ep
    refine ⟨I, ⟨none, (fun _ z => by cases z), rfl⟩, fun γ n δ' hn q2 => ?_, fun δ' ⟨x, nx, e⟩ => ⟨x, nx, by rw [e, List.take_length]⟩⟩
    obtain ⟨x2, _, e⟩ := q2
    subst e
    have hc : cs[n]? = some cs[n] := List.getElem?_eq_getElem hn
    generalize cs[n] = c at hc
    have hm : (cs.map Call.l)[n]? = some c.l := by rw [List.getElem?_map, hc]; rfl
    have tk : marksOf 0 (cs.take (n + 1)) = marksOf 0 (cs.take n) ++ mkOf n c := by
      rw [List.take_succ, hc]
      show marksOf 0 (cs.take n ++ [c]) = _
      rw [marksOf_snoc, List.length_take, Nat.min_eq_left (by omega), Nat.zero_add]
    have ml : ((marksOf 0 (cs.take n)).map Mark.d).length ≤ 600 := by
      rw [List.length_map]
      have := marksOf_len (cs.take n) 0
      rw [List.length_take] at this
      omega
    show SX _ _ [some (.val (.ref a)), some (.own ((marksOf 0 (cs.take n)).map Mark.d)), some (.dat (.int ((0 : Int) + (n : Nat)))), none, none, none, none, none, none, none] _
    rw [Int.zero_add]
    have it : ∀ (δ : Dn) (z : Int) (d : PyData), δ[0]? = some (some (.val (.ref a))) → δ[2]? = some (some (.dat (natD n))) → atI c.l z = some d → EvS (Bx.add ⟨K, none, H, []⟩ γ) (tOp (rIxL K) (tOp (rIxL K) (tVar 0) (tVar 2)) (tC (.int z))) δ (Is d) := fun δ z d h0 h2 hz => evs_ixL (B := Bx.add ⟨K, none, H, []⟩ γ) (evs_loIx (B := Bx.add ⟨K, none, H, []⟩ γ) (k := n) h0 lo off (evs_var h2) hm) evs_int hz
    refine sx_seq (G := (· = [some (.val (.ref a)), some (.own ((marksOf 0 (cs.take n) ++ [(Mark.mk c.b 0 n 3)]).map Mark.d)), some (.dat (natD n)), none, none, none, none, none, none, none])) (sx_app1 (i := 1) (d := Mark.d (Mark.mk c.b 0 n 3)) rfl (evs_tup (ds := [natD c.b, natD 0, natD n, natD 3]) (eva_c (it _ 3 _ rfl rfl rfl) (eva_c evs_int (eva_c (evs_var rfl) (eva_c evs_int eva_nil))))) (by omega) (by rw [List.map_append]; rfl)) fun δ' e => ?_
    subst e
    cases he : c.e with
    | none => exact sx_no (evt_test (evs_is (evs_notN (s := .dat .none) (it _ 4 _ rfl rfl (by unfold Call.l; rw [he]; rfl))) rfl)) (sx_next ⟨some (.dat (natD n)), (fun _ z => by cases z), by rw [tk]; unfold mkOf; rw [he]⟩)
    | some x =>
      refine sx_yes (evt_test (evs_is (evs_notN (s := .dat (natD x)) (it _ 4 _ rfl rfl (by unfold Call.l; rw [he]; rfl))) rfl)) (sx_app1 (i := 1) (d := Mark.d (Mark.mk x 1 n 4)) rfl (evs_tup (ds := [natD x, natD 1, natD n, natD 4]) (eva_c (it _ 4 _ rfl rfl (by unfold Call.l; rw [he]; rfl)) (eva_c evs_int (eva_c (evs_var rfl) (eva_c evs_int eva_nil))))) (by rw [List.length_map, List.length_append]; rw [List.length_map] at ml; show _ + 1 ≤ _; omega) ⟨some (.dat (natD n)), (fun _ z => by cases z), ?_⟩)
      rw [tk]
      unfold mkOf
      rw [he]
      show _ = [some (Sv.val (.ref a)), some (Sv.own ((marksOf 0 (cs.take n) ++ ([(Mark.mk c.b 0 n 3)] ++ [(Mark.mk x 1 n 4)])).map Mark.d)), some (.dat (natD n)), none, none, none, none, none, none, none]
      rw [← List.append_assoc, List.map_append (l₁ := marksOf 0 (cs.take n) ++ [(Mark.mk c.b 0 n 3)])]
      rfl
  subst e2
  refine raw_asg (lc_copy (B := ⟨K, none, H, []⟩) (i := 0) (j := 8) st2 rfl (show 8 < 10 by decide) lo off (by rw [List.length_map]; omega) fun f fs H3 st3 r3 hf ofs nd lo3 => ?_)
  have st3b := st3.set 3 (v := .ref f) (s := .val (.ref f)) rfl rfl
  have st3c := st3b.share (i := 1) (ds := (marksOf 0 cs).map Mark.d) rfl
  have s02 : Same H H2 := st2.rel.none_same
  have hb0 : ∀ b ∈ fs, H b = none := fun b hb => by
    cases e : H b with
    | none => rfl
    | some o => have := s02 _ _ e; rw [(ofs b hb).1] at this; cases this
  have s03 : Same H H3 := st3.rel.none_same
  have st3d : StB ⟨K, none, H3, []⟩ H3 (σ2.set 3 (some (.ref f))) [some (.val (.ref a)), some (.lst ((marksOf 0 cs).map Mark.d)), x2, some (.val (.ref f)), none, none, none, none, none, none] := st3c.rebase fun i ds e => by
    have z : [some (Sv.val (.ref a)), some (.lst ((marksOf 0 cs).map Mark.d)), x2, some (.val (.ref f)), none, none, none, none, none, none][i]? = some (some (.own ds)) := e
    match i, z with
    | 2, z =>
      have z : x2 = some (.own ds) := Option.some.inj z
      exact nx2 ds z
    | 0, z => cases z
    | 1, z => cases z
    | 3, z => cases z
    | 4, z => cases z
    | 5, z => cases z
    | 6, z => cases z
    | 7, z => cases z
    | 8, z => cases z
    | 9, z => cases z
    | n + 10, z => cases z
  refine raw_seq (G := (· = [some (.val (.ref a)), some (.lst ((marksOf 0 cs).map Mark.d)), x2, some (.val (.ref f)), some (.dat (natD 0)), none, none, none, none, none])) (sx_asg1 (s := .dat (natD 0)) evs_int rfl rfl) st3d fun σ4 H4 δ4 st4 e4 => ?_
  subst e4
  have lo4 := st4.lo lo3 off
  have s04 : Same H H4 := fun b o e => st4.rel.none_same _ _ (s03 b o e)
  have sl4 : σ4.length = 10 := st4.len
  obtain ⟨v3, g3, z3⟩ := st4.ok 3 _ rfl
  obtain ⟨v4, g4, z4⟩ := st4.ok 4 _ rfl
  cases z3
  cases DT.int_inv z4
  refine raw_for ?_
  refine evl_sortedK (B := ⟨K, none, H3, []⟩) (k := keyD) (f := fun _ => []) (d := 4) (by decide) (evs_var (i := 1) rfl) (fun e he => ?_) (.inl fun _ _ => rfl) σ4 H4 st4 _ fun s sv ms H5 r5 h5 hs hsl t5 ⟨pm, pw⟩ => ?_
  · obtain ⟨m, _, rfl⟩ := List.mem_map.mp he
    rw [keyD_mark, List.append_nil]
    exact ⟨rfl, rfl⟩
  obtain ⟨M, rfl, pM⟩ := perm_map_inv pm _ rfl
  have sM : M.Pairwise (fun m m' => HT.lexLt m'.key m.key = false) := by
    rw [List.pairwise_map] at pw
    exact pw.imp fun {m m'} e => by rw [keyD_mark, keyD_mark] at e; exact e
  have hM : ∀ m ∈ M, m ∈ marksOf 0 cs := fun m hm => pM.mem_iff.mp hm
  have ndM : M.Nodup := pM.nodup_iff.mpr (marks_nodup cs 0)
  have s45 : Same H4 H5 := r5.none_same
  have lo5 : LoA K H5 f fs (cs.map Call.l) := lo4.rel off .of_none r5
  have fs_f : ∀ b ∈ fs, b ≠ f := fun b hb => (ofs b hb).2
  let N5 : Nat → L2.St → Hp → Prop := fun n σ' H' => n ≤ M.length ∧ Same H H' ∧ σ'.length = 10 ∧ σ'[3]? = some (some (.ref f)) ∧ σ'[4]? = some (some (.int (n : Nat))) ∧ (∃ sv, H' s = some (.lst sv) ∧ DTs K H' sv (M.map Mark.d)) ∧ ∃ L, LoA K H' f fs L ∧ Prog M cs n L
  refine ⟨s, rfl, ⟨sv, SqL.of hsl⟩, fun n m σ' H' => m = M.length - n ∧ N5 n σ' H', ⟨M.length - 0, rfl, Nat.zero_le _, (fun b o e => s45 _ _ (s04 b o e)), sl4, g3, g4, ⟨sv, hsl, t5⟩, cs.map Call.l, lo5, prog_start M cs⟩, ?_⟩
  rintro n m σ' H' ⟨rfl, hn, sHH, sl, g3', g4', ⟨sv', hsv, tsv⟩, L, lo', pr⟩
  by_cases hlt : n < M.length
  · right
    have eM : M[n]? = some M[n] := List.getElem?_eq_getElem hlt
    generalize M[n] = mk at eM
    obtain ⟨v, ev, ov⟩ := tsv.get (show (M.map Mark.d)[n]? = some mk.d by rw [List.getElem?_map, eM]; rfl)
    refine ⟨⟨sv', v, SqL.of hsv, ev⟩, N5 (n + 1), fun σ3 H3 q => ⟨M.length - (n + 1), by omega, rfl, q⟩, fun x H3' hy => ?_⟩
    obtain ⟨eH, hy2⟩ := hy
    have eH := eH.symm
    subst eH
    have ex := hy2 _ (SqL.of hsv)
    rw [ev] at ex
    cases ex
    obtain ⟨t, ys, rfl, sq, ty⟩ := DT.tup_inv ov
    have ey : ys = mk.key.map V.int := DTs.ints (ns := mk.key) ty
    subst ey
    refine ⟨t, _, rfl, sq, rfl, _, _, rfl, _, _, rfl, _, _, rfl, _, _, rfl, rfl, ?_⟩
    have i2 : ((((σ'.set 5 (some (V.int (mk.t : Nat)))).set 6 (some (V.int (mk.s : Nat)))).set 2 (some (V.int (mk.i : Nat)))).set 7 (some (V.int (mk.p : Nat)))).length = 10 := by simp [sl]
    obtain ⟨ds, hds, hp, pr2⟩ := prog_step pr hM ndM eM
    obtain ⟨b, hb, xs, hx, tx⟩ := lo'.get hds
    have bfs : b ∈ fs := List.mem_of_getElem? hb
    have hb0' := hb0 b bfs
    have xl := tx.length
    show tSeq _ _ _ ((((σ'.set 5 (some (V.int (mk.t : Nat)))).set 6 (some (V.int (mk.s : Nat)))).set 2 (some (V.int (mk.i : Nat)))).set 7 (some (V.int (mk.p : Nat)))) H'
    have q3 : ((((σ'.set 5 (some (V.int (mk.t : Nat)))).set 6 (some (V.int (mk.s : Nat)))).set 2 (some (V.int (mk.i : Nat)))).set 7 (some (V.int (mk.p : Nat))))[3]? = some (some (.ref f)) := by
      rw [List.getElem?_set_ne (by decide), List.getElem?_set_ne (by decide), List.getElem?_set_ne (by decide), List.getElem?_set_ne (by decide)]; exact g3'
    have q4 : ((((σ'.set 5 (some (V.int (mk.t : Nat)))).set 6 (some (V.int (mk.s : Nat)))).set 2 (some (V.int (mk.i : Nat)))).set 7 (some (V.int (mk.p : Nat))))[4]? = some (some (.int (n : Nat))) := by
      rw [List.getElem?_set_ne (by decide), List.getElem?_set_ne (by decide), List.getElem?_set_ne (by decide), List.getElem?_set_ne (by decide)]; exact g4'
    have q2 : ((((σ'.set 5 (some (V.int (mk.t : Nat)))).set 6 (some (V.int (mk.s : Nat)))).set 2 (some (V.int (mk.i : Nat)))).set 7 (some (V.int (mk.p : Nat))))[2]? = some (some (.int (mk.i : Nat))) := by
      rw [List.getElem?_set_ne (by decide), List.getElem?_set, if_pos rfl, if_pos (by simp [sl])]
    have q7 : ((((σ'.set 5 (some (V.int (mk.t : Nat)))).set 6 (some (V.int (mk.s : Nat)))).set 2 (some (V.int (mk.i : Nat)))).set 7 (some (V.int (mk.p : Nat))))[7]? = some (some (.int (mk.p : Nat))) := by
      rw [List.getElem?_set, if_pos rfl, if_pos (by simp [sl])]
    generalize (((σ'.set 5 (some (V.int (mk.t : Nat)))).set 6 (some (V.int (mk.s : Nat)))).set 2 (some (V.int (mk.i : Nat)))).set 7 (some (V.int (mk.p : Nat))) = τ at i2 q2 q3 q4 q7 ⊢
    refine raw_asg ⟨.ref f, q3, .int (mk.i : Nat), q2, f, _, _, .ref b, rfl, rfl, SqL.of lo'.at_, by rw [atI_nat, List.getElem?_map, hb]; rfl, ?_⟩
    have w8 : (τ.set 8 (some (V.ref b)))[8]? = some (some (.ref b)) := by rw [List.getElem?_set, if_pos rfl, if_pos (by omega)]
    have w3 : (τ.set 8 (some (V.ref b)))[3]? = some (some (.ref f)) := by rw [List.getElem?_set_ne (by decide)]; exact q3
    have w4 : (τ.set 8 (some (V.ref b)))[4]? = some (some (.int (n : Nat))) := by rw [List.getElem?_set_ne (by decide)]; exact q4
    have w7 : (τ.set 8 (some (V.ref b)))[7]? = some (some (.int (mk.p : Nat))) := by rw [List.getElem?_set_ne (by decide)]; exact q7
    have wl : (τ.set 8 (some (V.ref b))).length = 10 := by rw [List.length_set]; exact i2
    show tSeq _ _ _ (τ.set 8 (some (V.ref b))) H'
    generalize τ.set 8 (some (V.ref b)) = τ2 at w3 w4 w7 w8 wl ⊢
    refine raw_asg ⟨_, w4, _, w8, _, w7, b, xs, _, mk.p, rfl, rfl, hx, ?_, ?_⟩
    · unfold ixN
      rw [if_pos (Int.natCast_nonneg _), if_pos (by omega)]
      rfl
    refine ⟨_, w4, (n : Int), 1, rfl, rfl, ?_⟩
    have ndv : DT K H' (.int (n : Nat)) (natD n) := DT.int _
    have hsb : s ≠ b := fun z => by
      subst z
      rw [hx] at hsv
      cases hsv
      obtain ⟨c, hc, _⟩ := mark_at (hM mk (List.mem_of_getElem? eM))
      obtain ⟨y1, y2, hL, _⟩ := pr.2 _ c hc
      rw [hds] at hL
      cases hL
      cases tx with
      | cons ox tx =>
        cases ox
        cases M with
        | nil => simp at eM
        | cons m0 M' =>
          cases tsv with
          | cons ov _ => cases ov
    have hT : ∀ c ys, SqT K H' c ys → SqT K (upd H' b (.lst (xs.set mk.p (.int (n : Nat))))) c ys := fun _ _ => sqT_updL hx
    refine ⟨hlt, fun c o e => by rw [upd_ne (ne_of_none e hb0')]; exact sHH c o e, by rw [List.length_set]; exact wl, by rw [List.getElem?_set_ne (by decide)]; exact w3, by rw [List.getElem?_set, if_pos rfl, if_pos (by omega)]; rfl, ⟨sv', by rw [upd_ne hsb]; exact hsv, DTs.mono hT _ _ tsv⟩, _, lo'.upd nd fs_f hb hx tx ndv, pr2⟩
  · have : n = M.length := by omega
    subst this
    refine .inl ⟨⟨sv', SqL.of hsv, by rw [tsv.length, List.length_map]; exact Nat.le_refl _⟩, ?_⟩
    obtain ⟨cs', rfl, hl', ren⟩ := prog_end pr pM
    obtain ⟨rok, rsh⟩ := un_rec ok pM sM hl' ren
    have st6 : StB ⟨K, none, H', []⟩ H' σ' [none, none, none, some (.val (.ref f)), none, none, none, none, none, none] := stb_one sl g3'
    have rl := rok.len
    refine (?_ : SX ⟨K, none, H', []⟩ _ [none, none, none, some (.val (.ref f)), none, none, none, none, none, none] { nx := fun _ => False, rt := fun s => s = .dat (callsD cs') }) σ' H' st6 _ ⟨fun _ _ _ _ q => q.elim, fun v H6 s r hh o f q => ?_, fun _ _ _ _ q => q.elim, fun _ _ _ _ q => q.elim⟩
    · let d0 : Call := ⟨0, .put 0, 0, none⟩
      have lc : EvL ⟨K, none, H', []⟩ (tLc (iList K (tVar 3)) (gName 8) tYes (tTup (tCons (tOp (rIxL K) (tVar 8) (tC (.int 3))) (tCons (tCB (rTupO K) (tCons (tVar 8) tNil)) tNil))) [8]) [none, none, none, some (.val (.ref f)), none, none, none, none, none, none] (· = cs'.map pairC) := by
        refine (evl_map (B := ⟨K, none, H', []⟩) (n := (cs'.map Call.l).length) (put := putLo 8 (cs'.map Call.l)) (f := fun i => pairC (cs'.getD i d0)) (evi_lo rfl lo' off) (by rw [List.length_map]; omega) fun γ i hi => ?_).imp fun ds e => by rw [e, List.length_map, map_range_getD]
        rw [List.length_map] at hi
        have hg : cs'[i]? = some cs'[i] := List.getElem?_eq_getElem hi
        unfold putLo
        rw [show (cs'.map Call.l).getD i [] = cs'[i].l from getD_of (by rw [List.getElem?_map, hg]; rfl), show cs'.getD i d0 = cs'[i] from getD_of hg]
        exact evs_tup (B := Bx.add ⟨K, none, H', []⟩ γ) (ds := [natD cs'[i].b, cs'[i].d]) (eva_c (evs_ixL (ds := cs'[i].l) (evs_var rfl) evs_int rfl) (eva_c (evs_tupleL1 (ds := cs'[i].l) (evs_var rfl)) eva_nil))
      have uni : ∀ c ∈ cs', ∀ c' ∈ cs', c.b = c'.b → c = c' := fun c hc c' hc' e => by
        obtain ⟨i, hi, rfl⟩ := List.getElem_of_mem hc
        obtain ⟨j, hj, rfl⟩ := List.getElem_of_mem hc'
        rcases Nat.lt_trichotomy i j with h | h | h
        · have := List.pairwise_iff_getElem.mp rok.rise i j hi hj h; omega
        · subst h; rfl
        · have := List.pairwise_iff_getElem.mp rok.rise j i hj hi h; omega
      have so : EvL ⟨K, none, H', []⟩ (tCB (rSortedK K) (tCons (tLc (iList K (tVar 3)) (gName 8) tYes (tTup (tCons (tOp (rIxL K) (tVar 8) (tC (.int 3))) (tCons (tCB (rTupO K) (tCons (tVar 8) tNil)) tNil))) [8]) tNil)) [none, none, none, some (.val (.ref f)), none, none, none, none, none, none] (· = cs'.map pairC) := by
        refine (evl_sortedK (B := ⟨K, none, H', []⟩) (k := key1) (f := rest1) (d := 1) (by decide) (EvL.evs1 lc) (fun e he => ?_) (.inr ?_)).imp fun ms ⟨pm, pw⟩ => ?_
        · obtain ⟨c, _, rfl⟩ := List.mem_map.mp he
          exact ⟨rfl, rfl⟩
        · rw [List.pairwise_map]
          exact rok.rise.imp fun {c c'} lt e => by
            have : [(c.b : Int)] = [(c'.b : Int)] := e
            injection this with h1 _
            omega
        · obtain ⟨l, rfl, pl⟩ := perm_map_inv pm cs' rfl
          rw [List.pairwise_map] at pw
          have e : l = cs' := List.Perm.eq_of_pairwise (le := fun c c' : Call => c.b ≤ c'.b) (fun c c' hc hc' h1 h2 => uni c (pl.mem_iff.mp hc) c' hc' (by omega)) (pw.imp fun {c c'} e => by
            have e : HT.lexLt [(c'.b : Int)] [(c.b : Int)] = false := e
            rw [HT.lexLt_cons] at e
            split at e
            · omega
            · have := of_decide_eq_false e
              omega) (rok.rise.imp fun {c c'} h => Nat.le_of_lt h) pl
          rw [e]
      exact sx_ret (d := callsD cs') (evs_tupleL1 (ds := cs'.map Call.d) (EvL.evs1 (evl_mapL (L := cs') (F := pairC) (f := Call.d) (evi_newY (ds := cs'.map pairC) so) (by omega) fun γ c hc => evs_ixT (ds := [natD c.b, c.d]) (evs_var rfl) evs_int rfl))) rfl
    · subst q
      exact k v H6 cs' (fun b o e => r.none_same _ _ (sHH b o e)) o rok rsh
end
end K32
/-! The drawn calls: plain law, rules for a list of lists that grows. -/
namespace K32
open PySem PySem.Spec PyProof.Rows L2
structure CaInv (many k now : Nat) (ends : List Nat) (stop : List Bool) (cs : List Call) : Prop where
  el : ends.length = many
  sl : stop.length = many
  len : cs.length ≤ k
  each : ∀ c ∈ cs, c.okAt many
  rise : cs.Pairwise (fun c c' => c.b < c'.b)
  bnow : ∀ c ∈ cs, c.b ≤ now
  clear : cs.Pairwise (fun c c' => c.hand = c'.hand → ∃ x, c.e = some x ∧ x < c'.b)
  fin : ∀ c ∈ cs, ∀ m, ends[c.hand]? = some m → (c.e = none ∧ stop[c.hand]? = some true) ∨ ∃ x, c.e = some x ∧ x ≤ m
  vals : (cs.filterMap putV).Nodup
  vlt : ∀ c ∈ cs, match c.what with
    | .put v => v < 100 * k
    | .look l => ∀ x, some x ∈ l → x < 100 * k + 8
theorem CaInv.skip {many k now : Nat} {ends : List Nat} {stop : List Bool} {cs : List Call} (h : CaInv many k now ends stop cs) : CaInv many (k + 1) now ends stop cs :=
  { h with
    len := by have := h.len; omega
    vlt := fun c hc => by
      have := h.vlt c hc
      cases hw : c.what with
      | put v => rw [hw] at this; show v < 100 * (k + 1); have this : v < 100 * k := this; omega
      | look l => rw [hw] at this; exact fun x hx => by have := this x hx; omega }
theorem CaInv.start (many : Nat) : CaInv many 0 0 (List.replicate many 0) (List.replicate many false) [] :=
  ⟨List.length_replicate, List.length_replicate, Nat.le_refl _, (fun c h => nomatch h), .nil, (fun c h => nomatch h), .nil, (fun c h => nomatch h), .nil, (fun c h => nomatch h)⟩
/-- one more call -/
theorem CaInv.more {many k now now' m fi : Nat} {ends : List Nat} {stop stop' : List Bool} {cs : List Call} {c : Call} (h : CaInv many k now ends stop cs) (m8 : many ≤ 8) (h1 : c.hand < many) (hs : stop[c.hand]? = some false) (hm : ends[c.hand]? = some m)
    (b1 : now < c.b) (b2 : m < c.b) (b3 : c.b ≤ now') (f1 : c.b < fi) (he : (c.e = some fi ∧ stop' = stop) ∨ (c.e = none ∧ stop' = stop.set c.hand true ∧ ∃ v, c.what = .put v))
    (hw : match c.what with
      | .put v => v = 100 * k + c.hand
      | .look l => l.length = many ∧ ∀ x, some x ∈ l → x < 100 * k + 8) : CaInv many (k + 1) now' (ends.set c.hand fi) stop' (cs ++ [c]) := by
  have k1 := h.skip
  refine ⟨by rw [List.length_set]; exact h.el, ?_, by rw [List.length_append]; have := h.len; show _ + 1 ≤ _; omega, fun d hd => ?_, ?_, fun d hd => ?_, ?_, fun d hd n hn => ?_, ?_, fun d hd => ?_⟩
  · rcases he with ⟨_, rfl⟩ | ⟨_, rfl, _⟩
    · exact h.sl
    · rw [List.length_set]; exact h.sl
  · rcases List.mem_append.mp hd with hd | hd
    · exact h.each d hd
    · rw [List.mem_singleton.mp hd]
      refine ⟨h1, fun x ex => ?_, ?_⟩
      · rcases he with ⟨e, _⟩ | ⟨e, _⟩
        · rw [e] at ex; cases ex; exact f1
        · rw [e] at ex; cases ex
      · cases hq : c.what with
        | put v => trivial
        | look l =>
          rw [hq] at hw
          refine ⟨?_, hw.1⟩
          rcases he with ⟨e, _⟩ | ⟨_, _, v, e⟩
          · exact ⟨_, e⟩
          · rw [hq] at e; cases e
  · rw [List.pairwise_append]
    refine ⟨h.rise, List.pairwise_singleton _ _, fun x hx y hy => ?_⟩
    rw [List.mem_singleton.mp hy]
    have := h.bnow x hx
    omega
  · rcases List.mem_append.mp hd with hd | hd
    · have := h.bnow d hd; omega
    · rw [List.mem_singleton.mp hd]; exact b3
  · rw [List.pairwise_append]
    refine ⟨h.clear, List.pairwise_singleton _ _, fun x hx y hy eh => ?_⟩
    rw [List.mem_singleton.mp hy] at eh ⊢
    rcases h.fin x hx m (by rw [eh]; exact hm) with ⟨_, e2⟩ | ⟨z, e1, e2⟩
    · rw [eh, hs] at e2; cases e2
    · exact ⟨z, e1, by omega⟩
  · rcases List.mem_append.mp hd with hd | hd
    · by_cases eh : d.hand = c.hand
      · rw [eh, List.getElem?_set, if_pos rfl, if_pos (by rw [h.el]; exact h1)] at hn
        cases hn
        rcases h.fin d hd m (by rw [eh]; exact hm) with ⟨_, e2⟩ | ⟨z, e1, e2⟩
        · rw [eh, hs] at e2; cases e2
        · exact .inr ⟨z, e1, by omega⟩
      · rw [List.getElem?_set_ne (Ne.symm eh)] at hn
        rcases h.fin d hd n hn with ⟨e1, e2⟩ | q
        · refine .inl ⟨e1, ?_⟩
          rcases he with ⟨_, rfl⟩ | ⟨_, rfl, _⟩
          · exact e2
          · rw [List.getElem?_set_ne (Ne.symm eh)]; exact e2
        · exact .inr q
    · rw [List.mem_singleton.mp hd] at hn ⊢
      rw [List.getElem?_set, if_pos rfl, if_pos (by rw [h.el]; exact h1)] at hn
      cases hn
      rcases he with ⟨e, _⟩ | ⟨e, rfl, _⟩
      · exact .inr ⟨_, e, Nat.le_refl _⟩
      · exact .inl ⟨e, by rw [List.getElem?_set, if_pos rfl, if_pos (by rw [h.sl]; exact h1)]⟩
  · rw [List.filterMap_append, List.nodup_append]
    refine ⟨h.vals, ?_, fun x hx y hy e => ?_⟩
    · cases q : putV c with
      | none => rw [List.filterMap_cons_none q]; exact .nil
      | some x => rw [List.filterMap_cons_some q]; exact List.pairwise_singleton _ _
    · subst e
      obtain ⟨d, hd, e1⟩ := List.mem_filterMap.mp hx
      obtain ⟨d2, hd2, e2⟩ := List.mem_filterMap.mp hy
      rw [List.mem_singleton.mp hd2] at e2
      have v1 := h.vlt d hd
      unfold putV at e1 e2
      cases q1 : d.what with
      | look l => rw [q1] at e1; cases e1
      | put v =>
        cases q2 : c.what with
        | look l => rw [q2] at e2; cases e2
        | put v2 =>
          rw [q1] at e1 v1
          rw [q2] at e2 hw
          have e3 := e1.trans e2.symm
          have e4 : v = v2 := congrArg (fun o : Option (Nat × Nat) => match o with | some p => p.2 | none => 0) e3
          have v1 : v < 100 * k := v1
          have hw : v2 = 100 * k + c.hand := hw
          omega
  · rcases List.mem_append.mp hd with hd | hd
    · exact k1.vlt d hd
    · rw [List.mem_singleton.mp hd]
      cases hq : c.what with
      | put v => rw [hq] at hw; show v < 100 * (k + 1); have hw : v = 100 * k + c.hand := hw; omega
      | look l => rw [hq] at hw; exact fun x hx => by have := hw.2 x hx; omega
theorem CaInv.un {many k now : Nat} {ends : List Nat} {stop : List Bool} {cs : List Call} (h : CaInv many k now ends stop cs) (m1 : 1 ≤ many) (m8 : many ≤ 8) (hk : k ≤ 150) : UnOk many cs :=
  ⟨m1, m8, by have := h.len; omega, h.each, h.rise, h.clear, h.vals, fun c hc => by
    have := h.vlt c hc
    cases hw : c.what with
    | put v => rw [hw] at this; show v < 10 ^ 20; have this : v < 100 * k := this; omega
    | look l => rw [hw] at this; exact fun x hx => by have := this x hx; omega⟩
/-! ### a list of lists grows -/
/-- slots whose lists are flat and not empty -/
def okS : Option Sv → Prop
  | some (.own _) => False
  | some (.lst es) => ∃ d ds, es = d :: ds ∧ flatD d = true
  | _ => True
theorem al {o : Option Sv} {δ : Dn} (h : okS o) (t : ∀ o ∈ δ, okS o) : ∀ x ∈ o :: δ, okS x := List.forall_mem_cons.mpr ⟨h, t⟩
theorem al0 : ∀ x ∈ ([] : Dn), okS x := fun x h => nomatch h
section
variable {B : Bx} {H H' H1 : Hp} {σ : L2.St} {δ : Dn} {te : TE} {i : Nat} {a : Addr} {bs : List Addr} {L : List (List PyData)} {ds : List PyData}
theorem lst_ne {K : PySem.W.Frag} {hd : Hand} {v : V} {es : List PyData} (o : SvOk K hd H v (.lst es)) (f : ∃ d ds, es = d :: ds ∧ flatD d = true) (h : H a = some (.lst (bs.map V.ref))) : v ≠ .ref a := fun z => by
  obtain ⟨b, xs, e, _, q, t⟩ := o
  obtain ⟨d, ds, rfl, fd⟩ := f
  rw [z] at e
  cases e
  rw [h] at q
  cases q
  cases bs with
  | nil => cases t
  | cons b bs =>
    cases t with
    | cons o _ =>
      have := o.flat fd
      cases d <;> first | cases this | cases fd
/-- what a growing list of lists keeps clear of -/
structure Gr (hd : Hand) (a : Addr) (bs : List Addr) : Prop where
  off : Off hd a bs
  q : ∀ p q, hd = some (p, q) → a ≠ q
  na : ∀ b ∈ bs, b ≠ a
/-- xs.append(a new list) -/
theorem raw_app (st : StB B H σ δ) (hi : δ[i]? = some (some (.val (.ref a)))) (lo : LoA B.K B.H0 a bs L) (gr : Gr B.hd a bs) (hno : ∀ o ∈ δ, okS o) (h : EvL B te δ (· = ds)) (hz : L.length ≤ 1000) {D : Ends}
    (k : ∀ H' b, StB ⟨B.K, B.hd, H', []⟩ H' σ δ → LoA B.K H' a (bs ++ [b]) (L ++ [ds]) → Gr B.hd a (bs ++ [b]) → (∀ c o, c ≠ a → (∀ p q, B.hd = some (p, q) → c ≠ p) → B.H0 c = some o → H' c = some o) → D.nx σ H') : tDrop (tBM B.K "list" rAppend (tVar i) (tCons te tNil)) D σ H := by
  obtain ⟨off, hq, na⟩ := gr
  obtain ⟨v, e, rfl⟩ := st.ok i _ hi
  have lo1 := st.lo lo off
  refine ⟨_, e, .inl ⟨rfl, _, SqL.of lo1.at_⟩, h σ H st _ fun b xs es H1 r1 h1 hb hl t ees => ?_⟩
  subst ees
  have st1 := st.mono r1 h1
  have lo2 := st1.lo lo off
  have bp : ∀ p q, B.hd = some (p, q) → b ≠ p := st.hh.ne_free hb
  have ba : b ≠ a := fun z => by rw [z, lo1.at_] at hb; cases hb
  refine ⟨a, _, .ref b, rfl, rfl, lo2.at_, by rw [List.length_map, lo2.len]; exact Nat.lt_of_le_of_lt hz (by decide), ?_⟩
  have hT : ∀ c ys, SqT B.K H1 c ys → SqT B.K (upd H1 a (.lst (bs.map V.ref ++ [.ref b]))) c ys := fun _ _ => sqT_updL lo2.at_
  have hh2 : Hands B.hd (upd H1 a (.lst (bs.map V.ref ++ [.ref b]))) := fun p q z => by
    obtain ⟨⟨x, y, w, u, k1, k2⟩, ns, k3, k4⟩ := h1 p q z
    exact ⟨⟨x, y, w, u, by rw [upd_ne (Ne.symm (off p q z).1)]; exact k1, k2⟩, ns, by rw [upd_ne (Ne.symm (hq p q z))]; exact k3, k4⟩
  refine k _ b ⟨.refl, hh2, hh2, st1.len, fun j s es => ?_, fun v s m => (nomatch m), fun j ds c e1 _ => ?_⟩ ⟨by rw [List.map_append]; exact upd_same, ?_⟩ ⟨fun p q z => ⟨(off p q z).1, fun c hc => ?_⟩, hq, fun c hc => ?_⟩ fun c o hc hp e => ?_
  · obtain ⟨v, h2, o2⟩ := st1.ok j s es
    refine ⟨v, h2, o2.updL lo2.at_ fun hs => ?_⟩
    have ok := hno _ (List.mem_of_getElem? es)
    cases s with
    | lst fs => exact lst_ne o2 ok lo2.at_
    | own fs => exact ok.elim
    | _ => cases hs
  · exact (hno _ (List.mem_of_getElem? e1)).elim
  · exact paired_snoc (paired_memL lo2.each fun c hc ds ⟨xs, e, t⟩ => ⟨xs, by rw [upd_ne (na c hc)]; exact e, DTs.mono hT _ _ t⟩) ⟨xs, by rw [upd_ne ba]; exact hl, DTs.mono hT _ _ t⟩
  · rcases List.mem_append.mp hc with hc | hc
    · exact (off p q z).2 c hc
    · rw [List.mem_singleton.mp hc]; exact bp p q z
  · rcases List.mem_append.mp hc with hc | hc
    · exact na c hc
    · rw [List.mem_singleton.mp hc]; exact ba
  · rw [upd_ne hc]
    exact r1 c o hp (st.rel c o hp e)
/-- the slots behind are forgotten -/
theorem StB.cut {pre r : Dn} (st : StB B H σ (pre ++ r)) {n : Nat} (hn : r.length = n) : StB B H σ (pre ++ List.replicate n none) := st.weak (by rw [st.len, List.length_append, List.length_append, List.length_replicate, hn]) fun i s e => by
  refine ⟨?_, rfl⟩
  by_cases h : i < pre.length
  · rw [List.getElem?_append_left h] at e ⊢
    exact e
  · rw [List.getElem?_append_right (by omega), List.getElem?_replicate] at e
    split at e <;> cases e
end
section
variable {B : Bx} {δ : Dn} {ta te : TE} {x d : PyData} {ds : List PyData} {i : Int} {n : Nat}
/-- [d] * n -/
theorem evl_rep (ha : EvL B ta δ (· = [d])) (hb : EvS B te δ (Is (natD n))) (hn : n ≤ 1000) : EvL B (tOp rRep ta te) δ (· = List.replicate n d) := fun σ H st Q k => ha σ H st _ fun a xs ds H1 r1 h1 hf hl t e => by
  subst e
  refine hb σ H1 (st.mono r1 h1) _ fun w H2 s r2 h2 o2 e2 => ?_
  subst e2
  cases DT.int_inv o2
  have nh := st.hh.ne_free hf
  have hl2 := r2 _ _ nh hl
  have t2 := DTs.mono (fun _ _ => sqT_rel h1 r2) _ _ t
  cases t2 with
  | cons o t2 =>
    cases t2
    rename_i v
    refine ⟨a, n, [v], rfl, rfl, hl2, by omega, by omega, by show 1 * (n : Int).toNat ≤ _; rw [Int.toNat_natCast, Nat.one_mul]; exact Nat.le_trans hn (by decide), fun p hp => ?_⟩
    have r3 : Rel B.hd H2 (upd H2 p (.lst (List.replicate (n : Int).toNat [v]).flatten)) := .new hp
    refine k p _ _ _ ((r1.trans r2).trans r3) (h2.new hp) (free_back h2 (r1.trans r2) hp) upd_same ?_ rfl
    have go : ∀ m : Nat, DTs B.K (upd H2 p (.lst (List.replicate (n : Int).toNat [v]).flatten)) (List.replicate m [v]).flatten (List.replicate m d) := fun m => by
      induction m with
      | zero => exact .nil
      | succ m ih =>
        rw [List.replicate_succ, List.replicate_succ, List.flatten_cons]
        exact .cons (DT.mono (fun _ _ => sqT_rel h2 r3) _ _ o) ih
    have := go n
    rw [Int.toNat_natCast] at this ⊢
    exact this
/-- xs[:i] + [x] + xs[i + 1:] -/
theorem evl_repl {k j : Nat} {te2 : TE} (hi : δ[j]? = some (some (.lst ds))) (h1 : EvS B te δ (Is (natD k))) (h2 : EvS B ta δ (Is x)) (h3 : EvS B te2 δ (Is (natD k))) (hk : k < ds.length) (hz : ds.length ≤ 1000) : EvL B (tOp rCat (tOp rCat (tSl (rSlL B.K) (tVar j) tNoPart (tPart te)) (tLst (tCons ta tNil))) (tSl (rSlL B.K) (tVar j) (tPart (tOp (rI0 fun i j => .int (i + j)) te2 (tC (.int 1)))) tNoPart)) δ (· = ds.set k x) := by
  have e2 : ((k : Int) + 1) = ((k + 1 : Nat) : Int) := by omega
  refine (evl_cat (ds := ds.take k ++ [x]) (es := ds.drop (k + 1)) (EvL.evs1 (evl_cat (ds := ds.take k) (es := [x]) (EvL.evs1 ((evl_slL (evs_var hi) evo_none (evo_some h1)).imp fun ds e => by rw [e, cutD_to])) (EvL.evs1 (evl_lst (ds := [x]) (eva_c h2 eva_nil))) (by rw [List.length_take]; show _ + 1 ≤ _; omega))) (EvL.evs1 ((evl_slL (evs_var hi) (evo_some (evs_I0 h3 evs_int)) evo_none).imp fun ds e => by rw [e, e2, cutD_from])) (by simp only [List.length_append, List.length_take, List.length_drop, List.length_singleton]; omega)).imp fun es e => ?_
  rw [e, List.set_eq_take_append_cons_drop, if_pos hk, List.append_assoc]
  rfl
end
end K32
/-! Walks: the law's calls. -/
namespace K32
open PySem PySem.Spec PyProof.Rows L2 TL
local macro_rules | `(tactic| walk_at "ev") => `(tactic| first
  | exact evs_var rfl | exact evs_own rfl | exact evs_int | exact evs_str | exact evs_bl | exact evs_non
  | exact eva_nil | (apply eva_c <;> walk_at "ev")
  | exact evs_isi (evs_var rfl) rfl kit_int_int | exact evs_isi (evs_var rfl) rfl kit_int_bool | exact evs_isi (evs_var rfl) rfl kit_tuple_tuple | exact evs_isi (evs_var rfl) rfl kit_str_str
  | exact evs_ixT (evs_var rfl) evs_int rfl
  | (apply evs_I0 <;> walk_at "ev") | (apply evs_B0 <;> walk_at "ev")
  | (apply evs_andV <;> walk_at "ev") | (apply evs_orV <;> walk_at "ev") | (apply evs_notV; walk_at "ev")
  | (apply evs_chain <;> walk_at "ev")
  | (apply evs_neg; walk_at "ev")
  | (apply evt_test; walk_at "ev") | (apply evt_B; walk_at "ev") | (apply evt_not; walk_at "ev")
  | (apply evt_and1 <;> walk_at "ev") | (apply evt_or1 <;> walk_at "ev")
  | (intro _; walk_at "ev"))
local macro_rules | `(tactic| walk_at "ret") => `(tactic| (apply sx_ret; walk_at "ev"))
abbrev caD (p f : Addr) (many most : Nat) (ends : List Nat) (stop : List Bool) (now : Nat) (r : Dn) : Dn := [some (.val (.ref p)), some (.dat (natD many)), some (.dat (natD most)), some (.val (.ref f)), some (.lst (ends.map natD)), some (.lst (stop.map PyData.bool)), some (.dat (natD now))] ++ r
theorem okCa {p f : Addr} {many most now : Nat} {ends : List Nat} {stop : List Bool} {r : Dn} (h1 : 1 ≤ ends.length) (h2 : 1 ≤ stop.length) (h : ∀ o ∈ r, okS o) : ∀ o ∈ caD p f many most ends stop now r, okS o := by
  obtain ⟨x, l, rfl⟩ : ∃ x l, ends = x :: l := by cases ends with | nil => simp at h1 | cons x l => exact ⟨x, l, rfl⟩
  obtain ⟨y, m, rfl⟩ : ∃ x l, stop = x :: l := by cases stop with | nil => simp at h2 | cons x l => exact ⟨x, l, rfl⟩
  exact al trivial (al trivial (al trivial (al trivial (al ⟨natD x, l.map natD, rfl, rfl⟩ (al ⟨.bool y, m.map PyData.bool, rfl, rfl⟩ (al trivial h))))))
theorem okS_no {δ : Dn} (h : ∀ o ∈ δ, okS o) : ∀ (i : Nat) (ds : List PyData), δ[i]? ≠ some (some (Sv.own ds)) := fun i ds e => (h _ (List.mem_of_getElem? e)).elim
theorem ok_nones : ∀ n : Nat, ∀ o ∈ List.replicate n (none : Option Sv), okS o := fun n o ho => by rw [List.eq_of_mem_replicate ho]; trivial
structure CaH (K : PySem.W.Frag) (hd : Hand) (H : Hp) (f : Addr) (many k now : Nat) (ends : List Nat) (stop : List Bool) (cs : List Call) (bs : List Addr) (H' : Hp) : Prop where
  lo : LoA K H' f bs (cs.map Call.l)
  gr : Gr hd f bs
  rel : Rel hd H H'
  inv : CaInv many k now ends stop cs
theorem CaH.go {K : PySem.W.Frag} {hd : Hand} {H : Hp} {f : Addr} {many k now : Nat} {ends : List Nat} {stop : List Bool} {cs : List Call} {bs : List Addr} {H' H2 : Hp} (h : CaH K hd H f many k now ends stop cs bs H') (hh : Hands hd H') (r : Rel hd H' H2) : CaH K hd H f many k now ends stop cs bs H2 :=
  ⟨h.lo.rel h.gr.off hh r, h.gr, h.rel.trans r, h.inv⟩
theorem raw_seq0 {t u : TS} {D : Ends} {σ : L2.St} {H : Hp} (h : t { D with nx := fun σ' H' => u D σ' H' } σ H) : tSeq t u D σ H := h
theorem raw_asg1 {te : TE} {g : TG} {D : Ends} {σ : L2.St} {H : Hp} (h : te σ H fun x H1 => g x σ H1 fun σ' H' => D.nx σ' H') : tAsg te g D σ H := h
theorem raw_ifS {c : TT} {t u : TS} {D : Ends} {σ : L2.St} {H : Hp} (h : c σ H fun b H1 => if b = true then t D σ H1 else u D σ H1) : tIfS c t u D σ H := h
theorem StB.forget {B : Bx} {H : Hp} {σ : L2.St} {δ : Dn} (st : StB B H σ δ) (i : Nat) : StB B H σ (δ.set i none) := st.weak (by rw [List.length_set]; exact st.len) fun j s e => by
  rcases getSet e with ⟨_, e'⟩ | ⟨_, e'⟩
  · cases e'
  · exact ⟨e', rfl⟩
theorem setB (l : List Bool) (i : Nat) (b : Bool) : (l.map PyData.bool).set i (.bool b) = (l.set i b).map PyData.bool := by rw [List.map_set]
theorem setN (l : List Nat) (i x : Nat) : (l.map natD).set i (natD x) = (l.set i x).map natD := by rw [List.map_set]
section
variable {P : Program} {w : World} {K : PySem.W.Frag} {mg : Str → Option Value} {base : Heap}
abbrev N_law_calls : List Str := ["_law_hand_here", "_law_many", "_law_most", "_law_found", "_law_ends", "_law_stopped", "_law_now", "_law_turn", "_law_one", "_law_begin", "_law_end", "_law_value", "_law_puts", "_law_picture", "_law_call", "_law_other"]
theorem sc_law_calls : FnScope N_law_calls ["_law_hand_here", "_law_many", "_law_most"] (defScope (top 140)) := ⟨rfl, rfl, rfl, by decide +kernel, rfl, by decide +kernel, by decide +kernel⟩
theorem c_law_calls (T : TX K mg) : C8.Cal P w K mg base 2 "_law_calls" (spH K (fun x : Nat × Nat => [.dat (natD x.1), .dat (natD x.2)]) (fun x => (1 ≤ x.1 ∧ x.1 ≤ 8) ∧ x.2 ≤ 150) (fun x s => ∃ cs : List Call, s = .dat (callsD cs) ∧ RecOk x.1 cs ∧ ∀ c ∈ cs, c.low)) [] := by
  refine cal_of T.d_law_calls (fun F => F.bindsN (ps := ["_law_hand_here", "_law_many", "_law_most"]) fun _ _ _ _ _ _ us hl => match us, hl with | [_, _, _], _ => rfl) fun F => F.ok sc_law_calls (fun vs H Q E h => ?_) (fun cdv A outer s H vs Q E hr h => ?_)
  · obtain ⟨a, p, q, ws, rfl, _, o, _⟩ := h
    obtain ⟨v, u, rfl, _⟩ := paired2 o
    rfl
  obtain ⟨⟨many, most⟩, p, q, ws, rfl, hh0, o, ⟨⟨m1, m8⟩, h150⟩, k⟩ := h
  have m1 : 1 ≤ many := m1
  have m8 : many ≤ 8 := m8
  have h150 : most ≤ 150 := h150
  refine ⟨_, PSs.nox (pss_cons (ps_set (i := 3) sc_law_calls.nd rfl (Or.inl rfl) (pe_lst pa_nil)) (pss_cons (ps_set (i := 4) sc_law_calls.nd rfl (Or.inl rfl) (pe_op op_rep (pe_lst (pa_cons pe_int pa_nil)) (pv 1))) (pss_cons (ps_set (i := 5) sc_law_calls.nd rfl (Or.inl rfl) (pe_op op_rep (pe_lst (pa_cons pe_bl pa_nil)) (pv 1))) (pss_cons (ps_set (i := 6) sc_law_calls.nd rfl (Or.inl rfl) pe_int) (pss_cons (ps_for PassesOwn.never rfl (pi_range1 (by rfl) T.n_range (pa_cons (C8.pe_c (c_law_draw T) hr (by decide) rfl (pa_cons (pv 0) (pa_cons (pe_op op_add (pv 2) pe_int) pa_nil))) pa_nil)) (pg_name (i := 7) sc_law_calls.nd rfl (Or.inl rfl)) (pss_cons (ps_set (i := 8) sc_law_calls.nd rfl (Or.inl rfl) (C8.pe_c (c_law_draw T) hr (by decide) rfl (pa_cons (pv 0) (pa_cons (pv 1) pa_nil)))) (pss_one (ps_if (pt_not (pt_val (pe_ix ix_list (pv 5) (pv 8) (fun _ _ => rfl)))) (pss_cons (ps_set (i := 9) sc_law_calls.nd rfl (Or.inl rfl) (pe_op op_add (pe_op op_add (pe_callB (b_max2 rfl) (by rfl) T.n_max bt_max (pa_cons (pv 6) (pa_cons (pe_ix ix_list (pv 4) (pv 8) (fun _ _ => rfl)) pa_nil))) pe_int) (C8.pe_c (c_law_draw T) hr (by decide) rfl (pa_cons (pv 0) (pa_cons pe_int pa_nil))))) (pss_cons (ps_set (i := 6) sc_law_calls.nd rfl (Or.inl rfl) (pe_op op_add (pv 9) (C8.pe_c (c_law_draw T) hr (by decide) rfl (pa_cons (pv 0) (pa_cons pe_int pa_nil))))) (pss_cons (ps_set (i := 10) sc_law_calls.nd rfl (Or.inl rfl) (pe_op op_add (pe_op op_add (pv 9) pe_int) (pe_op op_mul (C8.pe_c (c_law_draw T) hr (by decide) rfl (pa_cons (pv 0) (pa_cons pe_int pa_nil))) pe_int))) (pss_cons (ps_if (pt_cmpR op_eq (C8.pe_c (c_law_draw T) hr (by decide) rfl (pa_cons (pv 0) (pa_cons pe_int pa_nil))) pe_int (nomark _)) (pss_cons (ps_set (i := 11) sc_law_calls.nd rfl (Or.inl rfl) (pe_op op_add (pe_op op_mul pe_int (pv 7)) (pv 8))) (pss_one (ps_if (pt_cmpR op_eq (C8.pe_c (c_law_draw T) hr (by decide) rfl (pa_cons (pv 0) (pa_cons pe_int pa_nil))) pe_int (nomark _)) (pss_cons (ps_expr (pe_app (pv 3) (pe_lst (pa_cons pe_str (pa_cons (pv 8) (pa_cons (pv 11) (pa_cons (pv 9) (pa_cons pe_non pa_nil)))))))) (pss_one (ps_set (i := 5) sc_law_calls.nd rfl (Or.inl rfl) (pe_op op_cat (pe_op op_cat (pe_slice sl_list (pv 5) po_none (po_some (pv 8))) (pe_lst (pa_cons pe_bl pa_nil))) (pe_slice sl_list (pv 5) (po_some (pe_op op_add (pv 8) pe_int)) po_none))))) (pss_one (ps_expr (pe_app (pv 3) (pe_lst (pa_cons pe_str (pa_cons (pv 8) (pa_cons (pv 11) (pa_cons (pv 9) (pa_cons (pv 10) pa_nil)))))))))))) (pss_cons (ps_set (i := 12) sc_law_calls.nd rfl (Or.inr rfl) (pe_op op_cat (pe_lc (own := [("_law_call", 14)]) (g := gName 14) (by rfl) sc_law_calls.nd (pi_list (pv 3)) (blkOk_by (own := [("_law_call", 14)]) (N := N_law_calls) (sc := defScope (top 140)) (by decide +kernel)) (fun _ _ _ _ _ => (pg_name (i := 14) sc_law_calls.nd rfl (Or.inl rfl))) (fun _ _ _ _ _ => (pts_one (pt_cmpR op_eq (pe_ix (ix_listK (K := K) rfl) (pv 14) pe_int (fun _ _ => rfl)) pe_str (nomark _)))) (fun _ _ _ _ _ => (pe_ix (ix_listK (K := K) rfl) (pv 14) pe_int (fun _ _ => rfl)))) (pe_lst (pa_cons pe_non (pa_cons pe_non (pa_cons pe_int pa_nil)))))) (pss_cons (ps_set (i := 13) sc_law_calls.nd rfl (Or.inl rfl) (pe_callTy b_tupO (by rfl) T.n_tuple bt_tuple (pa_cons (pe_lc (own := [("_law_other", 15)]) (g := gName 15) (by rfl) sc_law_calls.nd (pi_range1 (by rfl) T.n_range (pa_cons (pv 1) pa_nil)) (blkOk_by (own := [("_law_other", 15)]) (N := N_law_calls) (sc := defScope (top 140)) (by decide +kernel)) (fun _ _ _ _ _ => (pg_name (i := 15) sc_law_calls.nd rfl (Or.inl rfl))) (fun _ _ _ _ _ => pts_nil) (fun _ _ _ _ _ => (pe_ix (ix_listK (K := K) rfl) (pv 12) (C8.pe_c (c_law_draw T) hr (by decide) rfl (pa_cons (pv 0) (pa_cons (pe_callB (b_lenK (K := K) rfl) (by rfl) T.n_len bt_len (pa_cons (pv 12) pa_nil)) pa_nil))) (fun _ _ => rfl)))) pa_nil))) (pss_one (ps_expr (pe_app (pv 3) (pe_lst (pa_cons pe_str (pa_cons (pv 8) (pa_cons (pv 13) (pa_cons (pv 9) (pa_cons (pv 10) pa_nil)))))))))))) (pss_one (ps_set (i := 4) sc_law_calls.nd rfl (Or.inl rfl) (pe_op op_cat (pe_op op_cat (pe_slice sl_list (pv 4) po_none (po_some (pv 8))) (pe_lst (pa_cons (pv 10) pa_nil))) (pe_slice sl_list (pv 4) (po_some (pe_op op_add (pv 8) pe_int)) po_none)))))))) pss_nil)))) (pss_one (ps_ret (C8.pe_c (c_law_unlike T) hr (by decide) rfl (pa_cons (pv 3) pa_nil))))))))), ?_⟩
  have hh : Hands (some (p, q)) H := fun p' q' e => by cases e; exact hh0
  have st0 : StB ⟨K, some (p, q), H, []⟩ H (start N_law_calls (.ref p :: ws)) (slots N_law_calls [.val (.ref p), .dat (natD many), .dat (natD most)]) := stb_start hh (.cons rfl o) (by intro s hs ds z; subst z; simp at hs)
  refine raw_asg (evl_lst (B := ⟨K, some (p, q), H, []⟩) (ds := []) eva_nil (show 0 ≤ 1000 by decide) _ H st0 _ fun f xs ds H1 r1 h1 hf hl t e => ?_)
  subst e
  cases t
  have gr0 : Gr (some (p, q)) f [] := ⟨fun p' q' e => ⟨st0.hh.ne_free hf p' q' e, fun b hb => nomatch hb⟩, (fun p' q' e z => by
    obtain ⟨_, ns, h3, _⟩ := hh p' q' e
    rw [← z, hf] at h3
    cases h3), fun b hb => nomatch hb⟩
  have st1 : StB ⟨K, some (p, q), H1, []⟩ H1 ((start N_law_calls (.ref p :: ws)).set 3 (some (.ref f))) [some (.val (.ref p)), some (.dat (natD many)), some (.dat (natD most)), some (.val (.ref f)), none, none, none, none, none, none, none, none, none, none, none, none] := ((st0.mono r1 h1).set 3 (v := .ref f) (s := .val (.ref f)) rfl rfl).rebase (okS_no (al trivial (al trivial (al trivial (al trivial (ok_nones 12))))))
  have ca1 : CaH K (some (p, q)) H f many 0 0 (List.replicate many 0) (List.replicate many false) [] [] H1 := ⟨⟨hl, .nil⟩, gr0, r1, CaInv.start many⟩
  have hN : List.replicate many (natD 0) = (List.replicate many 0).map natD := List.map_replicate.symm
  have hB : List.replicate many (PyData.bool false) = (List.replicate many false).map PyData.bool := List.map_replicate.symm
  refine raw_seq (G := (· = [some (.val (.ref p)), some (.dat (natD many)), some (.dat (natD most)), some (.val (.ref f)), some (.own ((List.replicate many 0).map natD)), none, none, none, none, none, none, none, none, none, none, none])) (sx_asgL (P := (· = List.replicate many (natD 0))) (evl_rep (evl_lst (ds := [natD 0]) (eva_c evs_int eva_nil)) (evs_var rfl) (by omega)) fun ds e => by rw [e, hN]; rfl) st1 fun σ2 H2 δ2 st2 e2 => ?_
  subst e2
  refine raw_seq (G := (· = [some (.val (.ref p)), some (.dat (natD many)), some (.dat (natD most)), some (.val (.ref f)), some (.own ((List.replicate many 0).map natD)), some (.own ((List.replicate many false).map PyData.bool)), none, none, none, none, none, none, none, none, none, none])) (sx_asgL (P := (· = List.replicate many (.bool false))) (evl_rep (evl_lst (ds := [.bool false]) (eva_c evs_bl eva_nil)) (evs_var rfl) (by omega)) fun ds e => by rw [e, hB]; rfl) st2 fun σ3 H3 δ3 st3 e3 => ?_
  subst e3
  refine raw_seq (G := (· = [some (.val (.ref p)), some (.dat (natD many)), some (.dat (natD most)), some (.val (.ref f)), some (.own ((List.replicate many 0).map natD)), some (.own ((List.replicate many false).map PyData.bool)), some (.dat (natD 0)), none, none, none, none, none, none, none, none, none])) (sx_asg1 (s := .dat (natD 0)) evs_int rfl rfl) st3 fun σ4 H4 δ4 st4 e4 => ?_
  subst e4
  have ca4 := ca1.go h1 st4.rel
  have rl0 : 1 ≤ (List.replicate many 0).length := by rw [List.length_replicate]; exact m1
  have rlf : 1 ≤ (List.replicate many false).length := by rw [List.length_replicate]; exact m1
  have st4b : StB ⟨K, some (p, q), H4, []⟩ H4 σ4 (caD p f many most (List.replicate many 0) (List.replicate many false) 0 (List.replicate 9 none)) := StB.rebase (B := ⟨K, some (p, q), H1, []⟩) ((st4.share (i := 4) rfl).share (i := 5) rfl) (okS_no (okCa rl0 rlf (ok_nones 9)))
  clear st4 st3 st2
  refine raw_for ?_
  refine (eva_cons (P := fun s => ∃ d : Nat, s = .dat (natD d) ∧ d < most + 1) (evs_draw (B := ⟨K, some (p, q), H4, []⟩) (p := p) (q := q) (m := most + 1) rfl rfl (evs_I0 (i := (most : Int)) (j := 1) (evs_var rfl) evs_int) (by omega) (by omega)) eva_nil) σ4 H4 st4b _ fun vs H5 ss r5 h5 o5 ⟨s, r, e1, ⟨d, e2, hd⟩, e3⟩ => ?_
  subst e1 e2 e3
  obtain ⟨v, rfl, ov⟩ := paired1 o5
  cases DT.int_inv ov
  let N5 : Nat → L2.St → Hp → Prop := fun i σ' H' => i ≤ d ∧ ∃ now ends stop cs bs, StB ⟨K, some (p, q), H', []⟩ H' σ' (caD p f many most ends stop now (List.replicate 9 none)) ∧ CaH K (some (p, q)) H f many i now ends stop cs bs H'
  have st5 : StB ⟨K, some (p, q), H5, []⟩ H5 σ4 (caD p f many most (List.replicate many 0) (List.replicate many false) 0 (List.replicate 9 none)) := (st4b.mono r5 h5).rebase (okS_no (okCa rl0 rlf (ok_nones 9)))
  refine ⟨(d : Int), rfl, by omega, by omega, fun i m σ' H' => m = d - i ∧ N5 i σ' H', ⟨d - 0, rfl, Nat.zero_le _, 0, _, _, [], [], st5, ca4.go st4b.hh r5⟩, ?_⟩
  rintro i m σ' H' ⟨rfl, hi, now, ends, stop, cs, bs, st, ca⟩
  by_cases hlt : i < d
  · refine .inr ⟨show i < (d : Int).toNat by omega, N5 (i + 1), fun σ3 H3 z => ⟨d - (i + 1), by omega, rfl, z⟩, fun x H3 hy => ?_⟩
    obtain ⟨eH, rfl⟩ := hy
    have eH := eH.symm
    subst eH
    show tSeq _ _ _ (σ'.set 7 (some (V.int ((0 : Int) + (i : Nat))))) H'
    rw [Int.zero_add]
    have i150 : i ≤ 150 := by omega
    have el := ca.inv.el
    have sl := ca.inv.sl
    have el1 : 1 ≤ ends.length := by omega
    have sl1 : 1 ≤ stop.length := by omega
    have cl : cs.length ≤ 150 := by have := ca.inv.len; omega
    have st7 : StB ⟨K, some (p, q), H', []⟩ H' (σ'.set 7 (some (.int (i : Nat)))) (caD p f many most ends stop now [some (.dat (natD i)), none, none, none, none, none, none, none, none]) := st.set 7 (v := .int (i : Nat)) (s := .dat (natD i)) (DT.int _) rfl
    refine raw_seq (G := fun δ => ∃ one, one < many ∧ δ = caD p f many most ends stop now [some (.dat (natD i)), some (.dat (natD one)), none, none, none, none, none, none, none]) (sx_asg (evs_draw (p := p) (q := q) (m := many) rfl rfl (evs_var rfl) m1 (by omega)) (fun s ⟨d, e, _⟩ => by rw [e]; rfl) fun s ⟨one, e, h⟩ => ⟨one, h, by rw [e]; rfl⟩) st7 fun σ8 H8 δ8 st8 ⟨one, ho, e8⟩ => ?_
    subst e8
    have ca8 := ca.go st.hh st8.rel
    obtain ⟨b, hb⟩ : ∃ b, stop[one]? = some b := ⟨_, List.getElem?_eq_getElem (by omega)⟩
    obtain ⟨m0, hm0⟩ : ∃ m0, ends[one]? = some m0 := ⟨_, List.getElem?_eq_getElem (by omega)⟩
    refine raw_ifS (evt_not (a := b) (evt_B (evs_ixL (ds := stop.map PyData.bool) (d := .bool b) (evs_var rfl) (evs_var rfl) (by rw [atI_nat, List.getElem?_map, hb]; rfl))) σ8 H8 st8 _ fun c H9 r9 h9 ec => ?_)
    subst ec
    have st9 := st8.mono r9 h9
    have ca9 := ca8.go st8.hh r9
    cases b with
    | true => exact iteF ⟨hlt, now, ends, stop, cs, bs, (StB.cut (pre := caD p f many most ends stop now []) (n := 9) st9 rfl).rebase (okS_no (okCa el1 sl1 (ok_nones 9))), ⟨ca9.lo, ca9.gr, ca9.rel, ca9.inv.skip⟩⟩
    | false =>
      refine iteT ?_
      refine raw_seq (G := fun δ => ∃ b, (now < b ∧ m0 < b) ∧ δ = caD p f many most ends stop now [some (.dat (natD i)), some (.dat (natD one)), some (.dat (natD b)), none, none, none, none, none, none]) (sx_asg (P := fun s => ∃ b : Nat, s = .dat (natD b) ∧ now < b ∧ m0 < b) ((evs_I0P (P := fun z => (now : Int) < z ∧ (m0 : Int) < z) (R := fun z => 0 ≤ z) (S := fun z => (now : Int) < z ∧ (m0 : Int) < z) (evs_I0P (P := fun z => (now : Int) ≤ z ∧ (m0 : Int) ≤ z) (R := (· = 1)) (evs_max2P (P := (· = (now : Int))) (R := (· = (m0 : Int))) (Is.intP (evs_var rfl) rfl) (Is.intP (evs_ixL (ds := ends.map natD) (d := natD m0) (evs_var rfl) (evs_var rfl) (by rw [atI_nat, List.getElem?_map, hm0]; rfl)) rfl) fun x y e1 e2 => by subst e1 e2; split <;> omega) (Is.intP evs_int rfl) fun x y h e => by subst e; omega) ((evs_draw (p := p) (q := q) (m := 3) rfl rfl evs_int (by decide) (by decide)).imp fun s ⟨d, e, _⟩ => ⟨(d : Int), e, by omega⟩) fun x y h1 h2 => by omega).imp fun s ⟨z, e, h1, h2⟩ => ⟨z.toNat, by rw [e]; show Sv.dat (.int z) = Sv.dat (.int (z.toNat : Int)); rw [Int.toNat_of_nonneg (by omega)], by omega, by omega⟩) (fun s ⟨b, e, _⟩ => by rw [e]; rfl) fun s ⟨b, e, h⟩ => ⟨b, h, by rw [e]; rfl⟩) st9 fun σ10 H10 δ10 st10 ⟨b, ⟨b1, b2⟩, e10⟩ => ?_
      subst e10
      refine raw_seq (G := fun δ => ∃ now2, b ≤ now2 ∧ δ = caD p f many most ends stop now2 [some (.dat (natD i)), some (.dat (natD one)), some (.dat (natD b)), none, none, none, none, none, none]) (sx_asg (P := fun s => ∃ n : Nat, s = .dat (natD n) ∧ b ≤ n) ((evs_I0P (P := (· = (b : Int))) (R := fun z => 0 ≤ z) (S := fun z => (b : Int) ≤ z) (Is.intP (evs_var rfl) rfl) ((evs_draw (p := p) (q := q) (m := 2) rfl rfl evs_int (by decide) (by decide)).imp fun s ⟨d, e, _⟩ => ⟨(d : Int), e, by omega⟩) fun x y h1 h2 => by omega).imp fun s ⟨z, e, h1⟩ => ⟨z.toNat, by rw [e]; show Sv.dat (.int z) = Sv.dat (.int (z.toNat : Int)); rw [Int.toNat_of_nonneg (by omega)], by omega⟩) (fun s ⟨b, e, _⟩ => by rw [e]; rfl) fun s ⟨b, e, h⟩ => ⟨b, h, by rw [e]; rfl⟩) st10 fun σ11 H11 δ11 st11 ⟨now2, b3, e11⟩ => ?_
      subst e11
      refine raw_seq (G := fun δ => ∃ fi, b < fi ∧ δ = caD p f many most ends stop now2 [some (.dat (natD i)), some (.dat (natD one)), some (.dat (natD b)), some (.dat (natD fi)), none, none, none, none, none]) (sx_asg (P := fun s => ∃ n : Nat, s = .dat (natD n) ∧ b < n) ((evs_I0P (P := fun z => (b : Int) < z) (R := fun z => 0 ≤ z) (S := fun z => (b : Int) < z) (evs_I0P (P := (· = (b : Int))) (R := (· = 1)) (Is.intP (evs_var rfl) rfl) (Is.intP evs_int rfl) fun x y e1 e2 => by omega) (evs_IP (P := fun z => 0 ≤ z ∧ z < 9) (R := (· = 2)) ((evs_draw (p := p) (q := q) (m := 9) rfl rfl evs_int (by decide) (by decide)).imp fun s ⟨d, e, _⟩ => ⟨(d : Int), e, by omega, by omega⟩) (Is.intP evs_int rfl) fun x y h e => by
        subst e
        exact ⟨.inr ⟨by decide, by decide⟩, by omega⟩) fun x y h1 h2 => by omega).imp fun s ⟨z, e, h1⟩ => ⟨z.toNat, by rw [e]; show Sv.dat (.int z) = Sv.dat (.int (z.toNat : Int)); rw [Int.toNat_of_nonneg (by omega)], by omega⟩) (fun s ⟨b, e, _⟩ => by rw [e]; rfl) fun s ⟨b, e, h⟩ => ⟨b, h, by rw [e]; rfl⟩) st11 fun σ12 H12 δ12 st12 ⟨fi, f1, e12⟩ => ?_
      subst e12
      have ca12 := ca.go st.hh st12.rel
      have st12b : StB ⟨K, some (p, q), H12, []⟩ H12 σ12 (caD p f many most ends stop now2 [some (.dat (natD i)), some (.dat (natD one)), some (.dat (natD b)), some (.dat (natD fi)), none, none, none, none, none]) := st12.rebase (okS_no (okCa el1 sl1 (al trivial (al trivial (al trivial (al trivial (ok_nones 5)))))))
      clear st7 st8 st9 st10 st11 ca8 ca9
      let Φ : L2.St → Hp → Prop := fun σ H3 => ∃ (stop' : List Bool) (c : Call) (bs' : List Addr), StB ⟨K, some (p, q), H3, []⟩ H3 σ (caD p f many most ends stop' now2 [some (.dat (natD i)), some (.dat (natD one)), some (.dat (natD b)), some (.dat (natD fi)), none, none, none, none, none]) ∧ LoA K H3 f bs' ((cs ++ [c]).map Call.l) ∧ Gr (some (p, q)) f bs' ∧ Rel (some (p, q)) H H3 ∧ (c.hand = one ∧ c.b = b) ∧
        ((c.e = some fi ∧ stop' = stop) ∨ (c.e = none ∧ stop' = stop.set one true ∧ ∃ v, c.what = .put v)) ∧ match c.what with
          | .put v => v = 100 * i + one
          | .look l => l.length = many ∧ ∀ x, some x ∈ l → x < 100 * i + 8
      have relApp : ∀ {Hc Hd : Hp}, Rel (some (p, q)) H Hc → (∀ c o, c ≠ f → (∀ p' q', some (p, q) = some (p', q') → c ≠ p') → Hc c = some o → Hd c = some o) → Rel (some (p, q)) H Hd := fun r h c o hc e => h c o (ne_of_none e hf) hc (r c o hc e)
      refine cut1 Φ (fun U hU => ?_) fun σ13 H13 ⟨stop', c, bs', st13, lo13, gr13, rel13, ⟨c1, c2⟩, c3, c4⟩ => ?_
      · refine raw_ifS (evt_draw0 (B := ⟨K, some (p, q), H12, []⟩) (p := p) (q := q) (m := 2) rfl rfl evs_int (by decide) (by decide) σ12 H12 st12b _ fun bb Ha ra ha _ => ?_)
        have sta := st12b.mono ra ha
        cases bb with
        | true =>
          refine iteT ?_
          refine raw_seq (G := (· = caD p f many most ends stop now2 [some (.dat (natD i)), some (.dat (natD one)), some (.dat (natD b)), some (.dat (natD fi)), some (.dat (natD (100 * i + one))), none, none, none, none])) (sx_asg1 (s := .dat (natD (100 * i + one))) ((evs_I0 (i := 100 * (i : Int)) (j := (one : Int)) (evs_I (i := 100) (j := (i : Int)) evs_int (evs_var rfl) (.inl ⟨by decide, by decide⟩)) (evs_var rfl)).imp fun s e => by rw [e]; show _ = Sv.dat (.int ((100 * i + one : Nat) : Int)); rw [Int.natCast_add, Int.natCast_mul]; rfl) rfl rfl) sta fun σb Hb δb stb eb => ?_
          subst eb
          refine raw_ifS (evt_draw0 (B := ⟨K, some (p, q), H12, []⟩) (p := p) (q := q) (m := 8) rfl rfl evs_int (by decide) (by decide) σb Hb stb _ fun b2 Hc rc hc _ => ?_)
          have relc : Rel (some (p, q)) H' Hc := (st12.rel.trans stb.rel).trans rc
          have okc : ∀ o ∈ caD p f many most ends stop now2 [some (.dat (natD i)), some (.dat (natD one)), some (.dat (natD b)), some (.dat (natD fi)), some (.dat (natD (100 * i + one))), none, none, none, none], okS o := okCa el1 sl1 (al trivial (al trivial (al trivial (al trivial (al trivial (ok_nones 4))))))
          have stc : StB ⟨K, some (p, q), Hc, []⟩ Hc σb (caD p f many most ends stop now2 [some (.dat (natD i)), some (.dat (natD one)), some (.dat (natD b)), some (.dat (natD fi)), some (.dat (natD (100 * i + one))), none, none, none, none]) := (stb.mono rc hc).rebase (okS_no okc)
          have cac := ca.go st.hh relc
          cases b2 with
          | true =>
            refine iteT (raw_seq0 (raw_app (B := ⟨K, some (p, q), Hc, []⟩) (i := 3) stc rfl cac.lo cac.gr okc (evl_lst (ds := Call.l ⟨one, .put (100 * i + one), b, none⟩) (eva_c evs_str (eva_c (evs_var rfl) (eva_c (evs_var rfl) (eva_c (evs_var rfl) (eva_c evs_non eva_nil))))) (show 5 ≤ 1000 by decide)) (by rw [List.length_map]; omega) fun Hd bd std lod grd reld => ?_))
            refine raw_asg1 (evl_repl (B := ⟨K, some (p, q), Hd, []⟩) (j := 5) (k := one) (x := .bool true) (ds := stop.map PyData.bool) rfl (evs_var rfl) evs_bl (evs_var rfl) (by rw [List.length_map]; omega) (by rw [List.length_map]; omega) σb Hd std _ fun s5 xs es He re he hf5 hl5 t5 ees => ?_)
            subst ees
            have ste := ((std.set_new 5 hf5 re he hl5 t5).share (i := 5) rfl).forget 11
            rw [setB] at ste
            have rele := (relApp cac.rel reld).trans re
            refine hU _ _ ⟨stop.set one true, ⟨one, .put (100 * i + one), b, none⟩, _, StB.rebase (B := ⟨K, some (p, q), Hd, []⟩) ste (okS_no (okCa el1 (by rw [List.length_set]; exact sl1) (al trivial (al trivial (al trivial (al trivial (ok_nones 5))))))), ?_, grd, rele, ⟨rfl, rfl⟩, .inr ⟨rfl, rfl, _, rfl⟩, rfl⟩
            rw [List.map_append]
            exact lod.rel grd.off std.hh re
          | false =>
            refine iteF (raw_app (B := ⟨K, some (p, q), Hc, []⟩) (i := 3) stc rfl cac.lo cac.gr okc (evl_lst (ds := Call.l ⟨one, .put (100 * i + one), b, some fi⟩) (eva_c evs_str (eva_c (evs_var rfl) (eva_c (evs_var rfl) (eva_c (evs_var rfl) (eva_c (evs_var rfl) eva_nil))))) (show 5 ≤ 1000 by decide)) (by rw [List.length_map]; omega) fun Hd bd std lod grd reld => ?_)
            refine hU _ _ ⟨stop, ⟨one, .put (100 * i + one), b, some fi⟩, _, std.forget 11, ?_, grd, relApp cac.rel reld, ⟨rfl, rfl⟩, .inl ⟨rfl, rfl⟩, rfl⟩
            rw [List.map_append]
            exact lod
        | false =>
          refine iteF ?_
          have lc : EvL ⟨K, some (p, q), H12, []⟩ (tLc (iList K (tVar 3)) (gName 14) (tTest (tOp rEq (tOp (rIxL K) (tVar 14) (tC (.int 0))) (tC (.str "put")))) (tOp (rIxL K) (tVar 14) (tC (.int 2))) [14]) (caD p f many most ends stop now2 [some (.dat (natD i)), some (.dat (natD one)), some (.dat (natD b)), some (.dat (natD fi)), none, none, none, none, none]) (fun ds => ∃ l : List (Option Nat), ds = l.map optD ∧ (∀ x, some x ∈ l → x < 100 * i) ∧ l.length ≤ 150) := by
            refine evl_lc (evi_lo (B := ⟨K, some (p, q), H12, []⟩) rfl ca12.lo ca12.gr.off) fun n put ⟨e1, e2⟩ => ?_
            subst e1 e2
            rw [List.length_map]
            refine ⟨by omega, fun n acc => ∃ l : List (Option Nat), acc = l.map optD ∧ (∀ x, some x ∈ l → x < 100 * i) ∧ l.length ≤ n, ⟨[], rfl, (fun x hx => nomatch hx), Nat.le_refl _⟩, fun γ n acc hn ⟨l, e, h, hl⟩ => ?_, fun acc ⟨l, e, h, hl⟩ => ⟨l, e, h, by omega⟩⟩
            have hc : cs[n]? = some cs[n] := List.getElem?_eq_getElem hn
            have vc := ca.inv.vlt cs[n] (List.getElem_mem hn)
            unfold putLo
            rw [show (cs.map Call.l).getD n [] = cs[n].l from getD_of (by rw [List.getElem?_map, hc]; rfl)]
            generalize cs[n] = c at vc
            cases hw : c.what with
            | put v =>
              rw [hw] at vc
              have vc : v < 100 * i := vc
              refine ⟨(· = true), evt_test (evs_isK (x := "put") (evs_ixL (ds := c.l) (evs_var rfl) evs_int (by unfold Call.l; rw [hw]; rfl)) (by decide +kernel)), fun _ => (evs_ixL (ds := c.l) (d := natD v) (evs_var rfl) evs_int (by unfold Call.l; rw [hw]; rfl)).imp fun s es => ⟨_, es, l ++ [some v], by rw [e, List.map_append]; rfl, fun x hx => ?_, by rw [List.length_append]; show _ + 1 ≤ _; omega⟩, fun z => Bool.noConfusion (show false = true from z)⟩
              rcases List.mem_append.mp hx with hx | hx
              · exact h x hx
              · have := List.mem_singleton.mp hx; cases this; exact vc
            | look l2 =>
              exact ⟨(· = false), evt_test (evs_isK (x := "look") (evs_ixL (ds := c.l) (evs_var rfl) evs_int (by unfold Call.l; rw [hw]; rfl)) (by decide +kernel)), fun z => Bool.noConfusion (show true = false from z), fun _ => ⟨l, e, h, by omega⟩⟩
          refine raw_seq (G := fun δ => ∃ l : List (Option Nat), ((∀ x, some x ∈ l → x < 100 * i + 8) ∧ 1 ≤ l.length ∧ l.length ≤ 200) ∧ δ = caD p f many most ends stop now2 [some (.dat (natD i)), some (.dat (natD one)), some (.dat (natD b)), some (.dat (natD fi)), none, some (.own (l.map optD)), none, none, none]) (sx_asgL (P := fun ds => ∃ l : List (Option Nat), ds = l.map optD ∧ (∀ x, some x ∈ l → x < 100 * i + 8) ∧ 1 ≤ l.length ∧ l.length ≤ 200) (evl_catP (R := (· = [.none, .none, natD 7])) (EvL.evs lc) (EvL.evs (evl_lst (ds := [.none, .none, natD 7]) (eva_c evs_non (eva_c evs_non (eva_c evs_int eva_nil))))) fun ds es ⟨l, e, h, hl⟩ e2 => ?_) fun ds ⟨l, e, h⟩ => ⟨l, h, by rw [e]; rfl⟩) sta fun σb Hb δb stb ⟨l, ⟨l1, l2, l3⟩, eb⟩ => ?_
          · subst e e2
            refine ⟨by rw [List.length_map]; show _ + 3 ≤ _; omega, l ++ [none, none, some 7], by rw [List.map_append]; rfl, fun x hx => ?_, by rw [List.length_append]; show 1 ≤ _ + 3; omega, by rw [List.length_append]; show _ + 3 ≤ _; omega⟩
            rcases List.mem_append.mp hx with hx | hx
            · have := h x hx; omega
            · simp at hx; omega
          subst eb
          refine raw_seq (G := fun δ => ∃ lk : List (Option Nat), (lk.length = many ∧ ∀ x, some x ∈ lk → x < 100 * i + 8) ∧ δ = caD p f many most ends stop now2 [some (.dat (natD i)), some (.dat (natD one)), some (.dat (natD b)), some (.dat (natD fi)), none, some (.own (l.map optD)), some (.dat (.tuple (lk.map optD))), none, none]) (sx_asg (P := fun s => ∃ lk : List (Option Nat), s = .dat (.tuple (lk.map optD)) ∧ lk.length = many ∧ ∀ x, some x ∈ lk → x < 100 * i + 8) ((evs_tupleL (evl_rngP (n := many) (Q := fun _ d => ∃ o : Option Nat, d = optD o ∧ ∀ x, o = some x → x < 100 * i + 8) (eva_c (evs_var rfl) eva_nil) (by omega) fun γ n hn => evs_ixLP (ds := l.map optD) (evs_own rfl) ((evs_draw (p := p) (q := q) (m := l.length) rfl rfl ((evs_len (s := .lst (l.map optD)) (evs_own rfl) rfl (by rw [List.length_map]; omega)).imp fun s e => by rw [e, List.length_map]; rfl) (by omega) (by omega)).imp fun s ⟨d, e, hd⟩ => ⟨(d : Int), e, Int.natCast_nonneg _, by rw [List.length_map]; omega⟩) fun d hd => ?a1).evs).imp fun s ⟨ds, e, hl, hq⟩ => ?a2) (fun s ⟨b, e, _⟩ => by rw [e]; rfl) fun s ⟨lk, e, h⟩ => ⟨lk, h, by rw [e]; rfl⟩) stb fun σc Hc δc stc ⟨lk, ⟨k1, k2⟩, ec⟩ => ?a3
          case a1 =>
            obtain ⟨o, ho, rfl⟩ := List.mem_map.mp hd
            exact ⟨o, rfl, fun x e => l1 x (e ▸ ho)⟩
          case a2 =>
            obtain ⟨lk, rfl, hv⟩ := map_of (F := optD) (G := fun o : Option Nat => ∀ x, o = some x → x < 100 * i + 8) (cs := ds) (mem_get hq)
            rw [List.length_map] at hl
            exact ⟨lk, e, hl, fun x hx => hv _ hx x rfl⟩
          subst ec
          have relc : Rel (some (p, q)) H' Hc := st12.rel.trans stc.rel
          have okc : ∀ o ∈ caD p f many most ends stop now2 [some (.dat (natD i)), some (.dat (natD one)), some (.dat (natD b)), some (.dat (natD fi)), none, none, some (.dat (.tuple (lk.map optD))), none, none], okS o := okCa el1 sl1 (al trivial (al trivial (al trivial (al trivial (al trivial (al trivial (al trivial (ok_nones 2))))))))
          have std : StB ⟨K, some (p, q), Hc, []⟩ Hc σc (caD p f many most ends stop now2 [some (.dat (natD i)), some (.dat (natD one)), some (.dat (natD b)), some (.dat (natD fi)), none, none, some (.dat (.tuple (lk.map optD))), none, none]) := StB.rebase (B := ⟨K, some (p, q), H12, []⟩) (stc.forget 12) (okS_no okc)
          have cac := ca.go st.hh relc
          refine raw_app (B := ⟨K, some (p, q), Hc, []⟩) (i := 3) std rfl cac.lo cac.gr okc (evl_lst (ds := Call.l ⟨one, .look lk, b, some fi⟩) (eva_c evs_str (eva_c (evs_var rfl) (eva_c (evs_var rfl) (eva_c (evs_var rfl) (eva_c (evs_var rfl) eva_nil))))) (show 5 ≤ 1000 by decide)) (by rw [List.length_map]; omega) fun Hd bd std lod grd reld => ?_
          refine hU _ _ ⟨stop, ⟨one, .look lk, b, some fi⟩, _, std.forget 13, ?_, grd, relApp cac.rel reld, ⟨rfl, rfl⟩, .inl ⟨rfl, rfl⟩, k1, k2⟩
          rw [List.map_append]
          exact lod
      · subst c1 c2
        have sl2 : 1 ≤ stop'.length := by
          rcases c3 with ⟨_, rfl⟩ | ⟨_, rfl, _⟩
          · exact sl1
          · rw [List.length_set]; exact sl1
        refine raw_asg1 (evl_repl (B := ⟨K, some (p, q), H13, []⟩) (j := 4) (k := c.hand) (x := natD fi) (ds := ends.map natD) rfl (evs_var rfl) (evs_var rfl) (evs_var rfl) (by rw [List.length_map]; omega) (by rw [List.length_map]; omega) σ13 H13 st13 _ fun s4 xs es H14 r14 h14 hf4 hl4 t4 ees => ?_)
        subst ees
        have st14 := (st13.set_new 4 hf4 r14 h14 hl4 t4).share (i := 4) rfl
        rw [setN] at st14
        exact ⟨hlt, now2, ends.set c.hand fi, stop', cs ++ [c], bs', StB.rebase (B := ⟨K, some (p, q), H13, []⟩) (StB.cut (pre := caD p f many most (ends.set c.hand fi) stop' now2 []) (n := 9) st14 rfl) (okS_no (okCa (by rw [List.length_set]; exact el1) sl2 (ok_nones 9))), ⟨lo13.rel gr13.off st13.hh r14, gr13, rel13.trans r14, ca.inv.more m8 ho hb hm0 b1 b2 b3 f1 c3 c4⟩⟩
  · have : i = d := by omega
    subst this
    refine .inl ⟨show (i : Int).toNat ≤ i by omega, ?_⟩
    obtain ⟨v, g3, e3⟩ := st.ok 3 _ rfl
    cases e3
    refine ⟨_, g3, f, bs, many, cs, rfl, ca.lo, ca.inv.un m1 m8 (by omega), fun v H6 cs' sm dt rok sh => ?_⟩
    exact k v H6 (.dat (callsD cs')) (ca.rel.trans (.same sm)) ((st.hh.same sm) p q rfl) dt (fun z => by cases z) ⟨cs', rfl, rok, sh⟩
end
end K32
/-! Walks: the law's hand. -/
namespace K32
open PySem PySem.Spec PyProof.Rows L2 TL
local macro_rules | `(tactic| walk_at "ev") => `(tactic| first
  | exact evs_var rfl | exact evs_own rfl | exact evs_int | exact evs_str | exact evs_bl | exact evs_non
  | exact eva_nil | (apply eva_c <;> walk_at "ev")
  | exact evs_isi (evs_var rfl) rfl kit_int_int | exact evs_isi (evs_var rfl) rfl kit_int_bool | exact evs_isi (evs_var rfl) rfl kit_tuple_tuple | exact evs_isi (evs_var rfl) rfl kit_str_str
  | exact evs_ixT (evs_var rfl) evs_int rfl
  | (apply evs_I0 <;> walk_at "ev") | (apply evs_B0 <;> walk_at "ev")
  | (apply evs_andV <;> walk_at "ev") | (apply evs_orV <;> walk_at "ev") | (apply evs_notV; walk_at "ev")
  | (apply evs_chain <;> walk_at "ev")
  | (apply evs_neg; walk_at "ev")
  | (apply evt_test; walk_at "ev") | (apply evt_B; walk_at "ev") | (apply evt_not; walk_at "ev")
  | (apply evt_and1 <;> walk_at "ev") | (apply evt_or1 <;> walk_at "ev")
  | (intro _; walk_at "ev"))
local macro_rules | `(tactic| walk_at "ret") => `(tactic| (apply sx_ret; walk_at "ev"))
theorem raw_retLst {ta : TA} {D : Ends} {σ : L2.St} {H : Hp} (h : ta σ H fun xs H1 => xs.length ≤ sizeLine ∧ ∀ p, H1 p = none → D.rt (.ref p) (L2.upd H1 p (.lst xs))) : tRet (tLst ta) D σ H := h
theorem raw_cons {te : TE} {tr : TA} {σ : L2.St} {H : Hp} {Q : List V → Hp → Prop} (h : te σ H fun x H1 => tr σ H1 fun xs H2 => Q (x :: xs) H2) : tCons te tr σ H Q := h
theorem raw_consC {v : V} {tr : TA} {σ : L2.St} {H : Hp} {Q : List V → Hp → Prop} (h : tr σ H fun xs H2 => Q (v :: xs) H2) : tCons (tC v) tr σ H Q := h
abbrev spHd (K : PySem.W.Frag) : Sp := fun vs H Q _ => ∃ (a : Addr) (ns : List Int), vs = [.ref a] ∧ SqL K H a (ns.map V.int) ∧ ns.length ≤ 63 ∧ ∀ p q H', Same H H' → HandAt H' p q → Q (.ref p) H'
section
variable {B : Bx} {δ : Dn} {a : Addr} {ns : List Int} {i : Nat}
theorem evl_cut63 (hi : δ[i]? = some (some (.val (.ref a)))) (hq : ∀ H, Rel B.hd B.H0 H → SqL B.K H a (ns.map V.int)) (hz : ns.length ≤ 63) : EvL B (tSl (rSlL B.K) (tVar i) tNoPart (tPart (tC (.int 63)))) δ (· = ns.map PyData.int) := fun σ H st Q k => by
  obtain ⟨v, e, rfl⟩ := st.ok i _ hi
  have ec : cutV (ns.map V.int) none (some 63) = ns.map V.int := by
    unfold cutV
    rw [HT.sIx_none, show (63 : Int) = ((63 : Nat) : Int) from rfl, HT.sIx_nat, List.drop_zero, Nat.sub_zero, Nat.min_eq_right (by rw [List.length_map]; exact hz), List.take_of_length_le (Nat.le_refl _)]
  refine ⟨_, e, 63, rfl, a, _, rfl, hq H st.rel, fun p hp => ?_⟩
  rw [ec]
  exact k p _ _ _ (.new hp) (st.hh.new hp) hp upd_same (DTs.of_ints ns) rfl
end
section
variable {P : Program} {w : World} {K : PySem.W.Frag} {mg : Str → Option Value} {base : Heap}
abbrev N_law_hand : List Str := ["_law_script", "_law_cell"]
theorem sc_law_hand : FnScope N_law_hand ["_law_script"] (defScope (top 130)) := ⟨rfl, rfl, rfl, by decide +kernel, rfl, by decide +kernel, by decide +kernel⟩
theorem c_law_hand (T : TX K mg) : C8.Cal P w K mg base 1 "_law_hand" (spHd K) [] := by
  refine cal_of T.d_law_hand (fun F => F.bindsN (ps := ["_law_script"]) fun _ _ _ _ _ _ us hl => match us, hl with | [_], _ => rfl) fun F => F.ok sc_law_hand (fun vs H Q E h => ?_) (fun cdv A outer s H vs Q E hr h => ?_)
  · obtain ⟨a, ns, rfl, _⟩ := h
    rfl
  obtain ⟨a, ns, rfl, sq, hz, k⟩ := h
  refine ⟨_, PSs.nox (pss_one (ps_ret (pe_lst (pa_cons (pe_lc (own := [("_law_cell", 1)]) (g := gName 1) (by rfl) sc_law_hand.nd (pi_list (pe_slice sl_list (pv 0) po_none (po_some pe_int))) (blkOk_by (own := [("_law_cell", 1)]) (N := N_law_hand) (sc := defScope (top 130)) (by decide +kernel)) (fun _ _ _ _ _ => (pg_name (i := 1) sc_law_hand.nd rfl (Or.inl rfl))) (fun _ _ _ _ _ => pts_nil) (fun _ _ _ _ _ => (pe_callTy b_int1 (by rfl) T.n_int bt_int (pa_cons (pv 1) pa_nil)))) (pa_cons pe_int (pa_cons pe_int (pa_cons (pe_op op_add pe_int (pe_callB b_len (by rfl) T.n_len bt_len (pa_cons (pe_slice sl_list (pv 0) po_none (po_some pe_int)) pa_nil))) (pa_cons pe_int pa_nil)))))))), ?_⟩
  have st0 : StB ⟨K, none, H, []⟩ H (start N_law_hand [.ref a]) (slots N_law_hand [.val (.ref a)]) := stb_start .of_none (.cons rfl .nil) (by intro s hs ds z; subst z; simp at hs)
  have hq : ∀ H', Rel none H H' → SqL K H' a (ns.map V.int) := fun H' r => r.none_same.seq sq
  have cutE : EvL ⟨K, none, H, []⟩ (tSl (rSlL K) (tVar 0) tNoPart (tPart (tC (.int 63)))) (slots N_law_hand [.val (.ref a)]) (· = ns.map PyData.int) := evl_cut63 (B := ⟨K, none, H, []⟩) rfl hq hz
  have lc : EvL ⟨K, none, H, []⟩ (tLc (iList K (tSl (rSlL K) (tVar 0) tNoPart (tPart (tC (.int 63))))) (gName 1) tYes (tCB rInt1 (tCons (tVar 1) tNil)) [1]) (slots N_law_hand [.val (.ref a)]) (· = ns.map PyData.int) := evl_mapL (L := ns) (F := PyData.int) (f := PyData.int) (evi_newY (ds := ns.map PyData.int) cutE) (by omega) fun γ x hx => evs_int1 (evs_var rfl)
  have ln : EvS ⟨K, none, H, []⟩ (tOp (rI0 fun i j => .int (i + j)) (tC (.int 1)) (tCB (rLen K) (tCons (tSl (rSlL K) (tVar 0) tNoPart (tPart (tC (.int 63)))) tNil))) (slots N_law_hand [.val (.ref a)]) (Is (.int (1 + (ns.length : Nat)))) := evs_I0 evs_int ((evs_len (B := ⟨K, none, H, []⟩) (s := .lst (ns.map PyData.int)) (EvL.evs1 cutE) rfl (by rw [List.length_map]; omega)).imp fun s e => by rw [e, List.length_map])
  refine raw_retLst (raw_cons (lc _ H st0 _ fun q xs ds H1 r1 h1 hf hl t e => ?_))
  subst e
  have ex : xs = ns.map V.int := t.ints
  subst ex
  refine raw_consC (raw_consC (raw_cons (ln _ H1 (st0.mono r1 h1) _ fun v H2 s r2 h2 o2 e2 => ?_)))
  subst e2
  cases DT.int_inv o2
  have hl2 := r2.none_same _ _ hl
  refine ⟨(by show 5 ≤ sizeLine; decide), fun p hp => ?_⟩
  refine k p q _ (fun b o e => by rw [upd_ne (ne_of_none (r2.none_same _ _ (r1.none_same _ _ e)) hp)]; exact r2.none_same _ _ (r1.none_same _ _ e)) ⟨⟨0, 0, 1 + (ns.length : Nat), 0, upd_same, by decide, by decide, by omega, by decide, by omega⟩, ns, by rw [upd_ne (ne_of_none hl2 hp)]; exact hl2, hz⟩
end
end K32
/-! Walks: the law. -/
namespace K32
open PySem PySem.Spec PyProof.Rows L2 TL
local macro_rules | `(tactic| walk_at "ev") => `(tactic| first
  | exact evs_var rfl | exact evs_own rfl | exact evs_int | exact evs_str | exact evs_bl | exact evs_non
  | exact eva_nil | (apply eva_c <;> walk_at "ev")
  | exact evs_isi (evs_var rfl) rfl kit_int_int | exact evs_isi (evs_var rfl) rfl kit_int_bool | exact evs_isi (evs_var rfl) rfl kit_tuple_tuple | exact evs_isi (evs_var rfl) rfl kit_str_str
  | exact evs_ixT (evs_var rfl) evs_int rfl
  | (apply evs_I0 <;> walk_at "ev") | (apply evs_B0 <;> walk_at "ev")
  | (apply evs_andV <;> walk_at "ev") | (apply evs_orV <;> walk_at "ev") | (apply evs_notV; walk_at "ev")
  | (apply evs_chain <;> walk_at "ev")
  | (apply evs_neg; walk_at "ev")
  | (apply evt_test; walk_at "ev") | (apply evt_B; walk_at "ev") | (apply evt_not; walk_at "ev")
  | (apply evt_and1 <;> walk_at "ev") | (apply evt_or1 <;> walk_at "ev")
  | (intro _; walk_at "ev"))
local macro_rules | `(tactic| walk_at "ret") => `(tactic| (apply sx_ret; walk_at "ev"))
section
variable {X : Cx}
theorem rc_Play (T : TX X.K X.mg) : RcG X 3 (DIns (He.ga X.K "Play") (likeI X.K (He.ga X.K "Play") isPlay)) := by
  obtain ⟨fd, F, hb⟩ := q_Play (P := X.prog) (w := X.w) (K := X.K) (mg := X.mg) (base := X.base) T
  have m := T.me_Play_eqx
  exact rcG_ins (E := C8.E0) F m.at_ m.fn hb C8.pass0
theorem rc_Record (T : TX X.K X.mg) : RcG X 3 (DIns (He.ga X.K "Record") (likeI X.K (He.ga X.K "Record") isRec)) := by
  obtain ⟨fd, F, hb⟩ := q_Record (P := X.prog) (w := X.w) (K := X.K) (mg := X.mg) (base := X.base) T
  have m := T.me_Record_eqx
  exact rcG_ins (E := C8.E0) F m.at_ m.fn hb C8.pass0
end
section
variable {B : Bx} {δ : Dn} {ta tb : TE}
theorem evs_eqI {C : Addr} {fs : List (Str × PyData)} {F : List (Str × PyData) → Prop} (ha : EvS B ta δ (· = .ins C fs)) (hb : EvS B tb δ (· = .ins C fs)) (hF : F fs) : EvS B (tOp (rEqG (DIns C (likeI B.K C F))) ta tb) δ (Is (.bool true)) := evs_op1 ha hb fun H v w hh o1 o2 Q k => by
  obtain ⟨a, dx, gs, rfl, h1, f1⟩ := o1
  obtain ⟨b, dy, es, rfl, h2, f2⟩ := o2
  exact ⟨⟨a, b, dx, dy, gs, es, rfl, rfl, h1, h2, fs, dx, dy, gs, es, hF, h1, h2, f1, f2⟩, fun H' e => k.dat (.same e) (hh.same e) (DT.bl true) rfl⟩
theorem stb_hand {K : PySem.W.Frag} {H : Hp} {p q : Addr} {σ : L2.St} {n i : Nat} (hh : HandAt H p q) (hl : σ.length = n) (h : σ[i]? = some (some (.ref p))) : StB ⟨K, some (p, q), H, []⟩ H σ ((List.replicate n none).set i (some (.val (.ref p)))) := by
  have hd : Hands (some (p, q)) H := fun p' q' e => by cases e; exact hh
  refine ⟨.refl, hd, hd, by rw [List.length_set, List.length_replicate, hl], fun j s e => ?_, fun v s m => (nomatch m), fun j ds a e _ => ?_⟩
  · rcases getSet e with ⟨rfl, e'⟩ | ⟨n, e'⟩
    · cases e'; exact ⟨_, h, rfl⟩
    · rw [List.getElem?_replicate] at e'; split at e' <;> cases e'
  · rcases getSet e with ⟨rfl, e'⟩ | ⟨n, e'⟩
    · cases e'
    · rw [List.getElem?_replicate] at e'; split at e' <;> cases e'
end
/-! ### plain -/
theorem closed_one (r : Str) : closedS [r] = r ++ NLs := by
  refine ext_tl ?_
  rw [tl_closed, tl_append, tl_NL]
  simp
theorem shift_putV (f : Nat) (c : Call) : putV (shiftC f c) = putV c := rfl
theorem shift_ok {m f : Nat} {cs : List Call} (h : RecOk m cs) (lw : ∀ c ∈ cs, c.low) (hf : f ≤ 9100000000000000000) : RecOk m (cs.map (shiftC f)) ∧ ∀ c ∈ cs.map (shiftC f), c.short := by
  refine ⟨⟨h.lo, h.hi, by rw [List.length_map]; exact h.len, fun c' hc' => ?_, ?_, ?_, ?_, ?_⟩, fun c' hc' => ?_⟩
  · obtain ⟨c, hc, rfl⟩ := List.mem_map.mp hc'
    obtain ⟨o1, o2, o3⟩ := h.each c hc
    refine ⟨o1, fun x ex => ?_, ?_⟩
    · have ex : c.e.map (· + f) = some x := ex
      obtain ⟨y, ey, rfl⟩ := Option.map_eq_some_iff.mp ex
      have := o2 y ey
      show c.b + f < y + f
      omega
    · show match c.what with
        | .put _ => True
        | .look l => (∃ x, c.e.map (· + f) = some x) ∧ l.length = m
      cases hw : c.what with
      | put v => trivial
      | look l =>
        rw [hw] at o3
        obtain ⟨⟨x, ex⟩, l1⟩ := o3
        exact ⟨⟨x + f, by rw [ex]; rfl⟩, l1⟩
  · rw [List.pairwise_map]
    exact h.rise.imp fun {a b} lt => by show a.b + f < b.b + f; omega
  · have e : (cs.map (shiftC f)).map (·.b) ++ (cs.map (shiftC f)).filterMap (·.e) = (cs.map (·.b) ++ cs.filterMap (·.e)).map (· + f) := by
      rw [List.map_append, List.map_map, List.map_map, List.filterMap_map, List.map_filterMap]
      rfl
    rw [e, List.nodup_iff_pairwise_ne, List.pairwise_map]
    exact (List.nodup_iff_pairwise_ne.mp h.unlike).imp fun {a b} ne => by omega
  · rw [List.pairwise_map]
    exact h.clear.imp fun {a b} c eh => by
      obtain ⟨x, ex, lx⟩ := c eh
      refine ⟨x + f, ?_, ?_⟩
      · show a.e.map (· + f) = _
        rw [ex]; rfl
      · show x + f ≤ b.b + f
        omega
  · rw [List.filterMap_map]
    exact h.vals
  · obtain ⟨c, hc, rfl⟩ := List.mem_map.mp hc'
    obtain ⟨l1, l2, l3⟩ := lw c hc
    refine ⟨by show c.b + f < _; omega, fun x ex => ?_, l3⟩
    have ex : c.e.map (· + f) = some x := ex
    obtain ⟨y, ey, rfl⟩ := Option.map_eq_some_iff.mp ex
    have := l2 y ey
    omega
theorem pl_call (c : Call) (h : ∀ l, c.what = .look l → l.length ≤ 1000) : PlD 2 c.d := by
  have opt : ∀ o : Option Nat, flat3 (optD o) = true := fun o => by cases o <;> rfl
  refine .inr ⟨c.l, rfl, (by show 5 ≤ 1000; decide), fun e he => ?_⟩
  rcases List.mem_cons.mp he with rfl | he
  · exact .inl rfl
  rcases List.mem_cons.mp he with rfl | he
  · exact .inl rfl
  rcases List.mem_cons.mp he with rfl | he
  · cases hw : c.what with
    | put v => exact .inl rfl
    | look l =>
      refine .inr ⟨l.map optD, rfl, by rw [List.length_map]; exact h l hw, fun e he => ?_⟩
      obtain ⟨o, _, rfl⟩ := List.mem_map.mp he
      exact opt o
  rcases List.mem_cons.mp he with rfl | he
  · exact .inl rfl
  rw [List.mem_singleton.mp he]
  exact .inl (opt _)
theorem pl_calls {m : Nat} {cs : List Call} (h : RecOk m cs) : PlD 3 (callsD cs) := by
  have hl := h.len
  have hm := h.hi
  refine .inr ⟨cs.map Call.d, rfl, by rw [List.length_map]; omega, fun e he => ?_⟩
  obtain ⟨c, hc, rfl⟩ := List.mem_map.mp he
  refine pl_call c fun l e => ?_
  have := (h.each c hc).2.2
  rw [e] at this
  have := this.2
  omega
theorem pl_nats {ns : List Nat} (h : ns.length ≤ 1000) : PlD 3 (.tuple (ns.map natD)) := .inr ⟨_, rfl, by rw [List.length_map]; exact h, fun e he => by
  obtain ⟨n, _, rfl⟩ := List.mem_map.mp he
  exact .inl rfl⟩
abbrev spLaw (K : PySem.W.Frag) : Sp := fun vs H Q _ => ∃ (a : Addr) (ns : List Int), vs = [.ref a] ∧ SqL K H a (ns.map V.int) ∧ ns.length ≤ 63 ∧ ∀ H', Q (.bl true) H'
section
variable {P : Program} {w : World} {K : PySem.W.Frag} {mg : Str → Option Value} {base : Heap}
abbrev N_law : List Str := ["_law_script", "_law_hand_here", "_law_kind", "_law_inputs_here", "_law_play", "_law_text", "_law_weaving_here", "_law_many", "_law_calls_here", "_law_record", "_law_turn", "_law_one"]
theorem sc_law : FnScope N_law ["_law_script"] (defScope (top 143)) := ⟨rfl, rfl, rfl, by decide +kernel, rfl, by decide +kernel, by decide +kernel⟩
abbrev lwD (p : Addr) (r : Dn) : Dn := none :: some (.val (.ref p)) :: r
theorem f_law (T : TX K mg) {f : Addr} {fd : FuncData} (F : FunD K "law" "law" (defArgs (top 143)) (defBody (top 143)) (defScope (top 143)) [] [] f fd) : FnOk P w K mg base CX0 11 f fd ["_law_script"] (spLaw K) := by
  refine F.ok sc_law (fun vs H Q E h => ?_) (fun cdv A outer s H vs Q E hr h => ?_)
  · obtain ⟨a, ns, rfl, _⟩ := h
    rfl
  obtain ⟨a, ns, rfl, sq, hz, k⟩ := h
  refine ⟨_, PSs.nox (pss_cons (ps_set (i := 1) sc_law.nd rfl (Or.inr rfl) (C8.pe_c (c_law_hand T) hr (by decide) rfl (pa_cons (pv 0) pa_nil))) (pss_cons (ps_set (i := 2) sc_law.nd rfl (Or.inl rfl) (pe_ix ix_list (pe_lst (pa_cons pe_str (pa_cons pe_str (pa_cons pe_str (pa_cons pe_str (pa_cons pe_str (pa_cons pe_str (pa_cons pe_str pa_nil)))))))) (C8.pe_c (c_law_draw T) hr (by decide) rfl (pa_cons (pv 1) (pa_cons pe_int pa_nil))) (fun _ _ => rfl))) (pss_cons (ps_set (i := 3) sc_law.nd rfl (Or.inl rfl) (C8.pe_c (c_law_inputs T) hr (by decide) rfl (pa_cons (pv 1) (pa_cons (pv 2) pa_nil)))) (pss_cons (ps_set (i := 4) sc_law.nd rfl (Or.inl rfl) (C8.pe_mk (k_Play T) hr (by decide) rfl (pa_cons (pv 2) (pa_cons (pv 3) pa_nil)))) (pss_cons (ps_set (i := 5) sc_law.nd rfl (Or.inl rfl) (C8.pe_c (c_law_closed T) hr (by decide) rfl (pa_cons (C8.pe_c (c_law_play_lines T) hr (by decide) rfl (pa_cons (pv 2) (pa_cons (pv 3) pa_nil))) pa_nil))) (pss_cons (ps_if (PW.pt (pw_or (pt_not (pt_val (C8.pe_c (c_law_is T) hr (by decide) rfl (pa_cons (C8.pe_c (c_play_text T) hr (by decide) rfl (pa_cons (pv 4) pa_nil)) (pa_cons (pv 5) pa_nil))))) (pw_or (pt_not (pt_cmpR (op_eqG (rc_Play T) (hr.mono (by decide))) (C8.pe_c (c_read_play T) hr (by decide) rfl (pa_cons (pv 5) pa_nil)) (pv 4) (nomark _))) (pw_or1 (pt_cmpR op_ne (C8.pe_c (c_play_text T) hr (by decide) rfl (pa_cons (C8.pe_c (c_read_play T) hr (by decide) rfl (pa_cons (pv 5) pa_nil)) pa_nil)) (pv 5) (nomark _)))))) (pss_one (ps_ret pe_bl)) pss_nil) (pss_cons (ps_set (i := 6) sc_law.nd rfl (Or.inl rfl) (C8.pe_c (c_law_weaving T) hr (by decide) rfl (pa_cons (pv 1) (pa_cons (pv 4) (pa_cons (C8.pe_c (c_law_draw T) hr (by decide) rfl (pa_cons (pv 1) (pa_cons pe_int pa_nil))) pa_nil))))) (pss_cons (ps_if (pt_cmpR op_eq (C8.pe_c (c_law_draw T) hr (by decide) rfl (pa_cons (pv 1) (pa_cons pe_int pa_nil))) pe_int (nomark _)) (pss_one (ps_set (i := 6) sc_law.nd rfl (Or.inl rfl) (pe_callTy b_tupO (by rfl) T.n_tuple bt_tuple (pa_cons (pe_lc (own := [("_law_turn", 10)]) (g := gName 10) (by rfl) sc_law.nd (pi_range1 (by rfl) T.n_range (pa_cons (C8.pe_c (c_law_draw T) hr (by decide) rfl (pa_cons (pv 1) (pa_cons pe_int pa_nil))) pa_nil)) (blkOk_by (own := [("_law_turn", 10)]) (N := N_law) (sc := defScope (top 143)) (by decide +kernel)) (fun _ _ _ _ _ => (pg_name (i := 10) sc_law.nd rfl (Or.inl rfl))) (fun _ _ _ _ _ => pts_nil) (fun _ _ _ _ _ => (C8.pe_c (c_law_draw T) hr (by decide) rfl (pa_cons (pv 1) (pa_cons (pe_op op_pow pe_int pe_int) pa_nil))))) pa_nil)))) pss_nil) (pss_cons (ps_set (i := 5) sc_law.nd rfl (Or.inl rfl) (pe_op o_addS (pe_jn pe_str (pe_op op_cat (pe_lst (pa_cons pe_str pa_nil)) (pe_lc (own := [("_law_one", 11)]) (g := gName 11) (by rfl) sc_law.nd (pi_tup (pv 6)) (blkOk_by (own := [("_law_one", 11)]) (N := N_law) (sc := defScope (top 143)) (by decide +kernel)) (fun _ _ _ _ _ => (pg_name (i := 11) sc_law.nd rfl (Or.inl rfl))) (fun _ _ _ _ _ => pts_nil) (fun _ _ _ _ _ => (pe_callTy b_str (by rfl) T.n_str bt_str (pa_cons (pv 11) pa_nil)))))) pe_str)) (pss_cons (ps_if (PW.pt (pw_or (pt_not (pt_val (C8.pe_c (c_law_is T) hr (by decide) rfl (pa_cons (C8.pe_c (c_weaving_text T) hr (by decide) rfl (pa_cons (pv 6) pa_nil)) (pa_cons (pv 5) pa_nil))))) (pw_or1 (pt_not (pt_val (C8.pe_c (c_law_is T) hr (by decide) rfl (pa_cons (C8.pe_c (c_weaving_text T) hr (by decide) rfl (pa_cons (pe_callTy b_listO (by rfl) T.n_list bt_list (pa_cons (pv 6) pa_nil)) pa_nil)) (pa_cons (pv 5) pa_nil)))))))) (pss_one (ps_ret pe_bl)) pss_nil) (pss_cons (ps_if (pt_not (pt_val (C8.pe_c (c_law_is T) hr (by decide) rfl (pa_cons (C8.pe_c (c_read_weaving T) hr (by decide) rfl (pa_cons (pv 5) pa_nil)) (pa_cons (pv 6) pa_nil))))) (pss_one (ps_ret pe_bl)) pss_nil) (pss_cons (ps_set (i := 7) sc_law.nd rfl (Or.inl rfl) (pe_op op_add pe_int (C8.pe_c (c_law_draw T) hr (by decide) rfl (pa_cons (pv 1) (pa_cons pe_int pa_nil))))) (pss_cons (ps_set (i := 8) sc_law.nd rfl (Or.inl rfl) (C8.pe_c (c_law_calls T) hr (by decide) rfl (pa_cons (pv 1) (pa_cons (pv 7) (pa_cons (pe_ix ix_list (pe_lst (pa_cons pe_int (pa_cons pe_int (pa_cons pe_int (pa_cons pe_int pa_nil))))) (C8.pe_c (c_law_draw T) hr (by decide) rfl (pa_cons (pv 1) (pa_cons pe_int pa_nil))) (fun _ _ => rfl)) pa_nil))))) (pss_cons (ps_if (pt_cmpR op_eq (C8.pe_c (c_law_draw T) hr (by decide) rfl (pa_cons (pv 1) (pa_cons pe_int pa_nil))) pe_int (nomark _)) (pss_one (ps_set (i := 8) sc_law.nd rfl (Or.inl rfl) (C8.pe_c (c_law_great T) hr (by decide) rfl (pa_cons (pv 1) (pa_cons (pv 8) pa_nil))))) pss_nil) (pss_cons (ps_set (i := 9) sc_law.nd rfl (Or.inl rfl) (C8.pe_mk (k_Record T) hr (by decide) rfl (pa_cons (pv 7) (pa_cons (pv 8) pa_nil)))) (pss_cons (ps_set (i := 5) sc_law.nd rfl (Or.inl rfl) (C8.pe_c (c_law_closed T) hr (by decide) rfl (pa_cons (C8.pe_c (c_law_record_lines T) hr (by decide) rfl (pa_cons (pv 7) (pa_cons (pv 8) pa_nil))) pa_nil))) (pss_cons (ps_if (PW.pt (pw_or (pt_not (pt_val (C8.pe_c (c_law_is T) hr (by decide) rfl (pa_cons (C8.pe_c (c_record_text T) hr (by decide) rfl (pa_cons (pv 9) pa_nil)) (pa_cons (pv 5) pa_nil))))) (pw_or1 (pt_not (pt_cmpR (op_eqG (rc_Record T) (hr.mono (by decide))) (C8.pe_c (c_read_record T) hr (by decide) rfl (pa_cons (pv 5) pa_nil)) (pv 9) (nomark _)))))) (pss_one (ps_ret pe_bl)) pss_nil) (pss_one (ps_ret (pe_and (pe_cmpR op_eq (C8.pe_c (c_record_text T) hr (by decide) rfl (pa_cons (C8.pe_c (c_read_record T) hr (by decide) rfl (pa_cons (pv 5) pa_nil)) pa_nil)) (pv 5) (nomark _)) (pe_one (C8.pe_c (c_law_is T) hr (by decide) rfl (pa_cons (pe_fld (C8.pe_c (c_read_record T) hr (by decide) rfl (pa_cons (pv 5) pa_nil)) rfl) (pa_cons (pv 8) pa_nil)))))))))))))))))))))))), ?_⟩
  refine raw_asg ⟨.ref a, rfl, a, ns, rfl, sq, hz, fun p q H1 sm hh => ?_⟩
  have st : StB ⟨K, some (p, q), H1, []⟩ H1 ((start N_law [.ref a]).set 1 (some (.ref p))) (lwD p [none, none, none, none, none, none, none, none, none, none]) := stb_hand (n := 12) (i := 1) hh rfl rfl
  show tSeq _ _ { nx := fun _ H' => Q .non H', rt := Q } ((start N_law [.ref a]).set 1 (some (.ref p))) H1
  refine (?_ : SX ⟨K, some (p, q), H1, []⟩ (tSeq _ _) (lwD p [none, none, none, none, none, none, none, none, none, none]) { nx := fun _ => False, rt := fun s => s = .dat (.bool true) }) _ H1 st { nx := fun _ H' => Q .non H', rt := Q } ⟨fun _ _ _ _ q => q.elim, fun v H6 s r hh o f q => by subst q; cases DT.bl_inv o; exact k H6, fun _ _ _ _ q => q.elim, fun _ _ _ _ q => q.elim⟩
  -- the kind, the inputs, the play
  refine q_asg (P := fun s => ∃ i : Inp, s = .dat (.str i.kind)) ((evs_pick (p := p) (q := q) (m := 7) (ds := kindsD) (P := fun d => ∃ i : Inp, d = .str i.kind) rfl rfl (evl_lst (ds := kindsD) (eva_c evs_str (eva_c evs_str (eva_c evs_str (eva_c evs_str (eva_c evs_str (eva_c evs_str (eva_c evs_str eva_nil))))))) (show 7 ≤ 1000 by decide)) evs_int rfl (by decide) (by decide) fun d hd => ?_).imp fun s ⟨d, e, i, e2⟩ => ⟨i, by rw [e, e2]⟩) (fun s ⟨i, e⟩ => by rw [e]; rfl) fun s ⟨i, e⟩ => ?_
  · simp only [kindsD, List.mem_cons, List.not_mem_nil, or_false] at hd
    rcases hd with rfl | rfl | rfl | rfl | rfl | rfl | rfl
    · exact ⟨.man .sweep [], rfl⟩
    · exact ⟨.man .twice [], rfl⟩
    · exact ⟨.man .borrow [], rfl⟩
    · exact ⟨.lev [], rfl⟩
    · exact ⟨.nam [], rfl⟩
    · exact ⟨.near 1 [], rfl⟩
    · exact ⟨.cha [], rfl⟩
  subst e
  refine q_asg (P := fun s => ∃ j : Inp, j.ok ∧ j.kind = i.kind ∧ s = .dat j.inputs) (evs_callH (B := ⟨K, some (p, q), H1, []⟩) rfl rfl (eva_c (evs_var rfl) eva_nil) fun ss e => ⟨i, e, trivial, fun s q => q⟩) (fun s ⟨j, _, _, e⟩ => by rw [e]; rfl) fun s ⟨j, ok, ek, e⟩ => ?_
  subst e
  rw [← ek]
  have pok := plW_ok ok
  have pl7 := plW_len ok
  refine q_asg1 (s := plS K j) (evs_make (B := ⟨K, some (p, q), H1, []⟩) j (eva_c (evs_var rfl) (eva_c (evs_var rfl) eva_nil)) ok) rfl ?_
  refine q_asg1 (s := .dat (.str (textD (plW j)))) (evs_call1 (B := ⟨K, some (p, q), H1, []⟩) (α := List Str) ((plW j).map lineD) (eva_c (EvL.evs1 (evl_call (P := (· = [.dat (.str j.kind), .dat j.inputs])) (eva_c (evs_var rfl) (eva_c (evs_var rfl) eva_nil)) fun ss e => ⟨j, e, ok, fun s q => ⟨_, q, rfl⟩⟩)) eva_nil) ⟨by rw [List.length_map]; omega, text_rows pok⟩) rfl ?_
  have isS : ∀ {te : TE} {δ : Dn} {i : Nat} {x : Str}, EvS ⟨K, some (p, q), H1, []⟩ te δ (Is (.str x)) → δ[i]? = some (some (.dat (.str x))) → EvT ⟨K, some (p, q), H1, []⟩ (tNot (tB (tCall (spIs K 3) [] C8.E0 (tCons te (tCons (tVar i) tNil))))) δ (· = false) := fun h hi => evt_notT (evt_B (evs_call1 (B := ⟨K, some (p, q), H1, []⟩) (α := PyData) (.str _) (eva_c h (eva_c (evs_var hi) eva_nil)) (.inl rfl)))
  have rp : ∀ {δ : Dn}, δ[5]? = some (some (.dat (.str (textD (plW j))))) → EvS ⟨K, some (p, q), H1, []⟩ (tCall (spS K (fun i : Inp => [.dat (.str (textD (plW i)))]) Inp.ok (fun i s => s = plS K i)) [] C8.E0 (tCons (tVar 5) tNil)) δ (· = plS K j) := fun h => evs_call1 (B := ⟨K, some (p, q), H1, []⟩) (α := Inp) j (eva_c (evs_var h) eva_nil) ok
  refine q_no (evt_orF (isS (evs_call1 (B := ⟨K, some (p, q), H1, []⟩) (α := Inp) j (eva_c (evs_var rfl) eva_nil) ok) rfl) (evt_orF (evt_notT (evt_test (evs_eqI (B := ⟨K, some (p, q), H1, []⟩) (rp rfl) (evs_var rfl) ⟨j, ok, rfl⟩))) (evt_test (evs_neF (d := .str (textD (plW j))) (evs_call1 (B := ⟨K, some (p, q), H1, []⟩) (α := Inp) j (eva_c (rp rfl) eva_nil) ok) (evs_var rfl) rfl rfl)))) ?_
  -- the weaving
  refine q_asg (P := fun s => ∃ ns : List Nat, s = .dat (.tuple (ns.map natD)) ∧ ns.length ≤ 90 ∧ ∀ n ∈ ns, n < 10 ^ 20) (evs_callH (B := ⟨K, some (p, q), H1, []⟩) rfl rfl (eva_cons (P := (· = plS K j)) (evs_var rfl) (eva_cons (evs_draw (p := p) (q := q) (m := 40) rfl rfl evs_int (by decide) (by decide)) eva_nil)) fun ss ⟨s1, r1, e1, e2, s2, r2, e3, ⟨d, e4, hd⟩, e5⟩ => ⟨(j, d), by rw [e1, e2, e3, e4, e5]; rfl, ⟨ok, by show d ≤ 40; omega⟩, fun s ⟨ns, e, h1, h2⟩ => ⟨ns, e, by omega, fun n hn => by have := h2 n hn; omega⟩⟩) (fun s ⟨ns, e, _⟩ => by rw [e]; rfl) fun s ⟨ns0, e, ns1, ns2⟩ => ?_
  subst e
  refine sx_seq (G := fun δ => ∃ ns : List Nat, (ns.length ≤ 90 ∧ ∀ n ∈ ns, n < 10 ^ 20) ∧ δ = lwD p [some (.dat (.str j.kind)), some (.dat j.inputs), some (plS K j), some (.dat (.str (textD (plW j)))), some (.dat (.tuple (ns.map natD))), none, none, none, none, none]) (sx_if (P := fun _ => True) (evt_draw0 (p := p) (q := q) (m := 3) rfl rfl evs_int (by decide) (by decide)) (fun _ => ?a1) fun _ => sx_next ⟨ns0, ⟨ns1, ns2⟩, rfl⟩) fun δ' ⟨ns, ⟨n1, n2⟩, e⟩ => ?a2
  case a1 =>
    refine sx_asg (P := fun s => ∃ ns : List Nat, s = .dat (.tuple (ns.map natD)) ∧ ns.length ≤ 90 ∧ ∀ n ∈ ns, n < 10 ^ 20) ((evs_tupleL (P := fun ds => ∃ ns : List Nat, ds = ns.map natD ∧ ns.length ≤ 90 ∧ ∀ n ∈ ns, n < 10 ^ 20) (EvL.evs (evl_lc (evi_rng1 (P := fun i => 0 ≤ i ∧ i ≤ 4) ((eva_cons (evs_draw (p := p) (q := q) (m := 5) rfl rfl evs_int (by decide) (by decide)) eva_nil).imp ?b0)) fun n put ⟨i, ⟨i0, i4⟩, en, ep⟩ => ?b1))).imp fun s ⟨ds, e, ns, e2, h⟩ => ⟨ns, by rw [e, e2], h⟩) (fun s ⟨ns, e, _⟩ => by rw [e]; rfl) fun s ⟨ns, e, h⟩ => ⟨ns, h, by rw [e]; rfl⟩
    case b0 =>
      rintro ss ⟨s1, r1, e1, ⟨d, e2, hd⟩, e3⟩
      exact ⟨(d : Int), by rw [e1, e2, e3]; rfl, ⟨by omega, by omega⟩, by omega, by omega⟩
    case b1 =>
      subst en ep
      refine ⟨by omega, fun n acc => ∃ ns : List Nat, acc = ns.map natD ∧ ns.length ≤ n ∧ ∀ x ∈ ns, x < 10 ^ 20, ⟨[], rfl, Nat.le_refl _, (fun x hx => nomatch hx)⟩, fun γ n acc hn ⟨ns, e, hl, hx⟩ => ⟨_, evt_yes, fun _ => ?_, fun z => Bool.noConfusion (show false = true from z)⟩, fun acc ⟨ns, e, hl, hx⟩ => ⟨ns, e, by omega, hx⟩⟩
      refine (evs_draw (B := Bx.add ⟨K, some (p, q), H1, []⟩ γ) (p := p) (q := q) (m := 1000000) rfl rfl ((evs_I (i := 10) (j := 6) evs_int evs_int ⟨by decide, by decide, by decide⟩).imp fun s e => by rw [e]; rfl) (by decide) (by decide)).imp fun s ⟨d, e2, hd⟩ => ⟨_, e2, ns ++ [d], by rw [e, List.map_append]; rfl, by rw [List.length_append]; show _ + 1 ≤ _; omega, fun x hx2 => ?_⟩
      rcases List.mem_append.mp hx2 with h | h
      · exact hx x h
      · rw [List.mem_singleton.mp h]; omega
  subst e
  have wok := weW_ok n1 n2
  have wlen := wok.len
  refine q_asg1 (s := .dat (.str (textD [weW ns]))) ((evs_addS (x := lineD (weW ns)) (y := NLs) (evs_joinD (l := weW ns) wok (EvL.evs1 ((evl_cat (ds := [.str "weaving"]) (es := ns.map fun n => strW (natD n)) (EvL.evs1 (evl_lst (ds := [.str "weaving"]) (eva_c evs_str eva_nil))) (EvL.evs1 (evl_mapL (L := ns) (F := natD) (f := fun n => strW (natD n)) (evi_tup1 (evs_var rfl)) (by omega) fun γ n hn => evs_str1 (d := natD n) (evs_var rfl) (okw_nat (n2 n hn)).1)) (by rw [List.length_map]; show 1 + ns.length ≤ _; omega)).imp fun ds e => ?c1))) evs_str (by have : NLs.length = 1 := (by decide +kernel); omega)).imp fun s e => ?c2) rfl ?c3
  case c1 =>
    rw [e]
    unfold weW
    rw [List.map_cons, List.map_map]
    rfl
  case c2 =>
    rw [e]
    show _ = Sv.dat (.str (closedS [lineD (weW ns)]))
    rw [closed_one]
  refine q_no (evt_orF (isS (evs_call1 (B := ⟨K, some (p, q), H1, []⟩) (α := List Nat × Bool) (ns, false) (eva_c (evs_var rfl) eva_nil) ⟨n1, n2⟩) rfl) (isS (evs_call1 (B := ⟨K, some (p, q), H1, []⟩) (α := List Nat × Bool) (ns, true) (eva_c (EvL.evs1 (evl_list (s := .dat (.tuple (ns.map natD))) (evs_var rfl) (.inr rfl))) eva_nil) ⟨n1, n2⟩) rfl)) ?_
  refine q_no (evt_notT (evt_B (evs_call1 (B := ⟨K, some (p, q), H1, []⟩) (α := PyData) (.tuple (ns.map natD)) (eva_c (evs_call1 (B := ⟨K, some (p, q), H1, []⟩) (α := List Nat) ns (eva_c (evs_var rfl) eva_nil) ⟨n1, n2⟩) (eva_c (evs_var rfl) eva_nil)) (pl_nats (by omega))))) ?_
  -- the record
  refine q_asg (P := fun s => ∃ m : Nat, s = .dat (natD m) ∧ 1 ≤ m ∧ m ≤ 8) ((evs_I0P (P := (· = 1)) (R := fun z => 0 ≤ z ∧ z < 8) (S := fun z => 1 ≤ z ∧ z ≤ 8) (Is.intP evs_int rfl) ((evs_draw (p := p) (q := q) (m := 8) rfl rfl evs_int (by decide) (by decide)).imp fun s ⟨d, e, hd⟩ => ⟨(d : Int), e, by omega, by omega⟩) fun x y e h => by omega).imp fun s ⟨z, e, h1, h2⟩ => ⟨z.toNat, by rw [e]; show Sv.dat (.int z) = Sv.dat (.int (z.toNat : Int)); rw [Int.toNat_of_nonneg (by omega)], by omega, by omega⟩) (fun s ⟨m, e, _⟩ => by rw [e]; rfl) fun s ⟨m, e, m1, m8⟩ => ?_
  subst e
  refine q_asg (P := fun s => ∃ cs : List Call, s = .dat (callsD cs) ∧ RecOk m cs ∧ ∀ c ∈ cs, c.low) (evs_callH (B := ⟨K, some (p, q), H1, []⟩) rfl rfl (eva_cons (P := (· = .dat (natD m))) (evs_var rfl) (eva_cons (evs_pick (p := p) (q := q) (m := 4) (ds := [natD 20, natD 20, natD 20, natD 150]) (P := fun d => ∃ n : Nat, d = natD n ∧ n ≤ 150) rfl rfl (evl_lst (ds := [natD 20, natD 20, natD 20, natD 150]) (eva_c evs_int (eva_c evs_int (eva_c evs_int (eva_c evs_int eva_nil))))) evs_int rfl (by decide) (by decide) ?d1) eva_nil)) fun ss ⟨s1, r1, e1, e2, s2, r2, e3, ⟨d, e4, n, e5, hn⟩, e6⟩ => ⟨(m, n), by rw [e1, e2, e3, e4, e5, e6], ⟨⟨m1, m8⟩, hn⟩, fun s q => q⟩) (fun s ⟨cs, e, _⟩ => by rw [e]; rfl) fun s ⟨cs0, e, rk0, lw0⟩ => ?d2
  case d1 =>
    intro d hd
    simp only [List.mem_cons, List.not_mem_nil, or_false] at hd
    rcases hd with rfl | rfl | rfl | rfl
    · exact ⟨20, rfl, by decide⟩
    · exact ⟨20, rfl, by decide⟩
    · exact ⟨20, rfl, by decide⟩
    · exact ⟨150, rfl, by decide⟩
  subst e
  refine sx_seq (G := fun δ => ∃ cs : List Call, (RecOk m cs ∧ ∀ c ∈ cs, c.short) ∧ δ = lwD p [some (.dat (.str j.kind)), some (.dat j.inputs), some (plS K j), some (.dat (.str (textD [weW ns]))), some (.dat (.tuple (ns.map natD))), some (.dat (natD m)), some (.dat (callsD cs)), none, none, none]) (sx_if (P := fun _ => True) (evt_draw0 (p := p) (q := q) (m := 4) rfl rfl evs_int (by decide) (by decide)) (fun _ => sx_asg (P := fun s => ∃ cs : List Call, s = .dat (callsD cs) ∧ RecOk m cs ∧ ∀ c ∈ cs, c.short) (evs_callH (B := ⟨K, some (p, q), H1, []⟩) rfl rfl (eva_c (evs_var rfl) eva_nil) fun ss e => ⟨cs0, e, rk0.len, fun s ⟨f, hf, e⟩ => ⟨_, e, shift_ok rk0 lw0 hf⟩⟩) (fun s ⟨cs, e, _⟩ => by rw [e]; rfl) fun s ⟨cs, e, h⟩ => ⟨cs, h, by rw [e]; rfl⟩) fun _ => sx_next ⟨cs0, ⟨rk0, fun c hc => (lw0 c hc).short⟩, rfl⟩) fun δ' ⟨cs, ⟨rk, sh⟩, e⟩ => ?_
  subst e
  have rok := reW_ok rk sh
  have rlen := rk.len
  refine q_asg1 (s := reS K (m, cs)) (evs_make (B := ⟨K, some (p, q), H1, []⟩) (m, cs) (eva_c (evs_var rfl) (eva_c (evs_var rfl) eva_nil)) rk) rfl ?_
  refine q_asg1 (s := .dat (.str (textD (reW m cs)))) (evs_call1 (B := ⟨K, some (p, q), H1, []⟩) (α := List Str) ((reW m cs).map lineD) (eva_c (EvL.evs1 (evl_call (P := (· = [.dat (natD m), .dat (callsD cs)])) (eva_c (evs_var rfl) (eva_c (evs_var rfl) eva_nil)) fun ss e => ⟨(m, cs), e, ⟨rk, sh⟩, fun s q => ⟨_, q, rfl⟩⟩)) eva_nil) ⟨by rw [List.length_map]; unfold reW; rw [List.length_cons, List.length_map]; omega, text_rows rok⟩) rfl ?_
  have rr : ∀ {δ : Dn}, δ[5]? = some (some (.dat (.str (textD (reW m cs))))) → EvS ⟨K, some (p, q), H1, []⟩ (tCall (spS K (fun r : Nat × List Call => [.dat (.str (textD (reW r.1 r.2)))]) (fun r => RecOk r.1 r.2 ∧ ∀ c ∈ r.2, c.short) (fun r s => s = reS K r)) [] C8.E0 (tCons (tVar 5) tNil)) δ (· = reS K (m, cs)) := fun h => evs_call1 (B := ⟨K, some (p, q), H1, []⟩) (α := Nat × List Call) (m, cs) (eva_c (evs_var h) eva_nil) ⟨rk, sh⟩
  refine q_no (evt_orF (isS (evs_call1 (B := ⟨K, some (p, q), H1, []⟩) (α := Nat × List Call) (m, cs) (eva_c (evs_var rfl) eva_nil) ⟨rk, sh⟩) rfl) (evt_notT (evt_test (evs_eqI (B := ⟨K, some (p, q), H1, []⟩) (rr rfl) (evs_var rfl) ⟨(m, cs), rk, rfl⟩)))) ?_
  exact sx_ret (evs_andV (a := true) (b := true) (evs_eqT (d := .str (textD (reW m cs))) (evs_call1 (B := ⟨K, some (p, q), H1, []⟩) (α := Nat × List Call) (m, cs) (eva_c (rr rfl) eva_nil) ⟨rk, sh⟩) (evs_var rfl) rfl rfl) fun _ => evs_call1 (B := ⟨K, some (p, q), H1, []⟩) (α := PyData) (callsD cs) (eva_c (evs_fld (B := ⟨K, some (p, q), H1, []⟩) (rr rfl) T.cls_Record T.no_Record_calls (look_calls (m, cs))) (eva_c (evs_var rfl) eva_nil)) (pl_calls rk)) rfl
end
end K32
set_option maxHeartbeats 0
/-! The end. -/
namespace K32
open PySem PySem.Spec PyProof.Rows L2
theorem facts {P : Program} {w : World} {K : PySem.W.Frag} {h : Heap} {mg : Str → Option Value} {f : Addr} (X : K.In h) (G : h.Ns mainGlobals mg) (hfa : mg ("law" : Str) = some (.ref f)) (c : He.SaysD fal fnl K) (x : exB K = true) :
    ∃ fd : FuncData, (∀ (s : Shared) (v : Value), BindsTo s fd ⟨[v], []⟩ [("_law_script", v)]) ∧ ∀ base : Heap, K.In base → base.Ns mainGlobals mg → FnOk P w K mg base CX0 11 f fd ["_law_script"] (spLaw K) := by
  have T : TX K mg := ⟨⟨h, X, G⟩, c, x⟩
  obtain ⟨fd, F⟩ := T.d_law.fn
  have e := hfa.symm.trans T.d_law.mgf
  cases e
  have b := FunD.bindsA (ps := ["_law_script"]) F fun _ _ _ _ _ _ us hl => match us, hl with | [_], _ => rfl
  exact ⟨fd, fun s v => b s [v] rfl, fun base _ _ => f_law T F⟩
theorem name_law : dl.name = ("law" : PySem.Str) := by kernel_rfl
end K32
open PySem PySem.W PySem.Calls PyProof.Rows
theorem PySem.Challenge.cw_onepicture_k32_whole_texts_holds : PySem.Challenge.rw_onepicture_k32_whole_texts.Holds := by
  refine K32.head (L2.walk_ofE (l := PySem.Challenge.rw_onepicture_k32_whole_texts) (n := 63) (k := 11) (x := "_law_script") (CX := L2.CX0) rfl (by decide) (by kernel_rfl) ⟨rfl, by decide, by decide⟩ ?F (fun _ _ _ _ z => z))
  intro w mg fa h Y G hmg0
  obtain ⟨K, KX, c, x⟩ := Y
  rw [K32.name_law] at hmg0
  obtain ⟨fd, hb, hF⟩ := K32.facts (P := (PySem.Challenge.rw_onepicture_k32_whole_texts).prog) (w := w) KX G hmg0 c x
  exact ⟨K, fd, K32.spLaw K, KX, hb, fun H a ns hl _ hS => ⟨a, ns, rfl, hS, hl, fun _ => rfl⟩, hF⟩
