/- The functions' numbers in this seat's translation: written by wip/tools/gen.py. -/
import Derived.Test.YtmlnknngpdnepaaAb14
namespace Go.Proofs.Ytmlnknngpdnepaa
open Go Go.Ab
abbrev I.parlkeep5_TeachDiffers : FuncId := 3
abbrev I.parlmake_Dfa : FuncId := 4
abbrev I.teach_New : FuncId := 5
abbrev I.parlkeep5_ends : FuncId := 6
abbrev I.teach_Teacher_Symbols : FuncId := 7
abbrev I.mini_Min : FuncId := 8
abbrev I.teach_Teacher_Equal : FuncId := 9
abbrev I.parlkeep5_accepts : FuncId := 10
abbrev I.parlkeep5_words : FuncId := 11
abbrev I.slices_Equal_int_int : FuncId := 12
abbrev I.parlmake_stream_next : FuncId := 13
abbrev I.dfa_Check : FuncId := 14
abbrev I.mini_complete : FuncId := 15
abbrev I.mini_hopcroft : FuncId := 16
abbrev I.slices_Repeat_int_int : FuncId := 17
abbrev I.teach_Differ : FuncId := 18
abbrev I.dfa_Run : FuncId := 19
abbrev I.slices_Clone_int_int : FuncId := 20
abbrev I.parlmake_Below : FuncId := 21
abbrev I.mini_begin : FuncId := 22
abbrev I.mini_parts_split : FuncId := 23
abbrev I.slices_Contains_mini_task_mini_task : FuncId := 24
abbrev I.math_bits_Mul : FuncId := 25
abbrev I.teach_way : FuncId := 26
abbrev I.teach_step : FuncId := 27
abbrev I.slices_Contains_int_int : FuncId := 28
abbrev I.slices_Index_mini_task_mini_task : FuncId := 29
abbrev I.math_bits_Mul32 : FuncId := 30
abbrev I.math_bits_Mul64 : FuncId := 31
abbrev I.slices_Index_int_int : FuncId := 32
end Go.Proofs.Ytmlnknngpdnepaa
