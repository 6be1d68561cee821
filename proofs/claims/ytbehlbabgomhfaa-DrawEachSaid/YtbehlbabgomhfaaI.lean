/- The functions' numbers in this seat's translation: written by wip/tools/gen.py. -/
import Derived.Test.YtbehlbabgomhfaaAb14
namespace Go.Proofs.Ytbehlbabgomhfaa
open Go Go.Ab
abbrev I.parlkeep5_DrawEach : FuncId := 10
abbrev I.parlkeep5_below : FuncId := 11
abbrev I.draw_Number : FuncId := 12
abbrev I.parlkeep5_coins : FuncId := 14
abbrev I.draw_Order : FuncId := 36
abbrev I.slices_Clone_int_int : FuncId := 37
abbrev I.slices_Sort_int_int : FuncId := 38
abbrev I.parlmake_Below : FuncId := 39
abbrev I.slices_Clone_bool_bool : FuncId := 41
abbrev I.slices_pdqsortOrdered_int : FuncId := 50
abbrev I.math_bits_Len : FuncId := 51
abbrev I.cmp_isNaN_int : FuncId := 52
abbrev I.slices_insertionSortOrdered_int : FuncId := 53
abbrev I.slices_heapSortOrdered_int : FuncId := 54
abbrev I.slices_breakPatternsOrdered_int : FuncId := 55
abbrev I.slices_choosePivotOrdered_int : FuncId := 56
abbrev I.slices_reverseRangeOrdered_int : FuncId := 57
abbrev I.slices_partialInsertionSortOrdered_int : FuncId := 58
abbrev I.cmp_Less_int : FuncId := 59
abbrev I.slices_partitionEqualOrdered_int : FuncId := 60
abbrev I.slices_partitionOrdered_int : FuncId := 61
abbrev I.math_bits_Len32 : FuncId := 62
abbrev I.math_bits_Len64 : FuncId := 63
abbrev I.slices_siftDownOrdered_int : FuncId := 64
abbrev I.slices_nextPowerOfTwo : FuncId := 65
abbrev I.slices_xorshift_Next : FuncId := 66
abbrev I.slices_medianAdjacentOrdered_int : FuncId := 67
abbrev I.slices_medianOrdered_int : FuncId := 68
abbrev I.slices_order2Ordered_int : FuncId := 69
end Go.Proofs.Ytbehlbabgomhfaa
