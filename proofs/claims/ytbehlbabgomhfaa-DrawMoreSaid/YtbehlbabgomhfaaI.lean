/- The functions' numbers in this seat's translation: written by wip/tools/gen.py. -/
import Derived.Test.YtbehlbabgomhfaaAb14
namespace Go.Proofs.Ytbehlbabgomhfaa
open Go Go.Ab
abbrev I.parlkeep5_DrawMore : FuncId := 3
abbrev I.parlkeep5_below : FuncId := 11
abbrev I.draw_Number : FuncId := 12
abbrev I.slices_Concat_bool_bool : FuncId := 13
abbrev I.parlmake_Below : FuncId := 39
abbrev I.slices_Grow_bool_bool : FuncId := 40
end Go.Proofs.Ytbehlbabgomhfaa
