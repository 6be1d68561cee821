/- The functions' numbers in this seat's translation: written by wip/tools/gen.py. -/
import Derived.Test.YtbehlbabgomhfaaAb14
namespace Go.Proofs.Ytbehlbabgomhfaa
open Go Go.Ab
abbrev I.parlkeep5_TeachKeeps : FuncId := 6
abbrev I.parlmake_Dfa : FuncId := 18
abbrev I.teach_New : FuncId := 19
abbrev I.teach_Teacher_Symbols : FuncId := 20
abbrev I.parlmake_Word : FuncId := 21
abbrev I.parlkeep5_accepts : FuncId := 22
abbrev I.teach_Teacher_Member : FuncId := 23
abbrev I.teach_Teacher_Asked : FuncId := 24
abbrev I.parlmake_Below : FuncId := 39
abbrev I.parlmake_stream_next : FuncId := 42
abbrev I.dfa_Check : FuncId := 43
abbrev I.dfa_Run : FuncId := 44
end Go.Proofs.Ytbehlbabgomhfaa
