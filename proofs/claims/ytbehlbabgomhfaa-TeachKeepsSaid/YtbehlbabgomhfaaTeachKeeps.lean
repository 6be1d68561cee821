/- The law TeachKeeps of the abstract code, printed by wip/tools/fin.py. Own work. -/
import Derived.Test.YtbehlbabgomhfaaSl10
import Derived.Test.YtbehlbabgomhfaaX
import Derived.Test.YtbehlbabgomhfaaTTeachKeeps
import Derived.Test.YtbehlbabgomhfaaQTeachKeeps
namespace Go.Proofs.Ytbehlbabgomhfaa
open Go Go.Ab
theorem nt_parlmake_Below : Nd.parlmake_Below TTeachKeeps := ⟨inferInstance⟩
theorem nt_parlmake_stream_next : Nd.parlmake_stream_next TTeachKeeps := ⟨inferInstance, nt_parlmake_Below⟩
theorem nt_parlmake_Dfa : Nd.parlmake_Dfa TTeachKeeps := ⟨inferInstance, nt_parlmake_stream_next⟩
theorem nt_dfa_Check : Nd.dfa_Check TTeachKeeps := ⟨inferInstance⟩
theorem nt_teach_New : Nd.teach_New TTeachKeeps := ⟨inferInstance, nt_dfa_Check⟩
theorem nt_teach_Teacher_Symbols : Nd.teach_Teacher_Symbols TTeachKeeps := ⟨inferInstance⟩
theorem nt_parlmake_Word : Nd.parlmake_Word TTeachKeeps := ⟨inferInstance, nt_parlmake_Below⟩
theorem nt_dfa_Run : Nd.dfa_Run TTeachKeeps := ⟨inferInstance, nt_dfa_Check⟩
theorem nt_parlkeep5_accepts : Nd.parlkeep5_accepts TTeachKeeps := ⟨inferInstance, nt_dfa_Run⟩
theorem nt_teach_Teacher_Member : Nd.teach_Teacher_Member TTeachKeeps := ⟨inferInstance, nt_dfa_Run⟩
theorem nt_teach_Teacher_Asked : Nd.teach_Teacher_Asked TTeachKeeps := ⟨inferInstance⟩
theorem nt_parlkeep5_TeachKeeps : Nd.parlkeep5_TeachKeeps TTeachKeeps := ⟨inferInstance, nt_parlmake_Dfa, nt_teach_New, nt_teach_Teacher_Symbols, nt_parlmake_Word, nt_parlkeep5_accepts, nt_teach_Teacher_Member, nt_teach_Teacher_Asked⟩
theorem teachKeeps_law {H : Hp} {w1 : Value} {a0 : (List Int)} (h1 : Rd H w1 (a0.map vi)) (l1 : a0.length ≤ 17592186044416) {w2 : Value} {a1 : (List Int)} (h2 : Rd H w2 (a1.map vi)) (l2 : a1.length ≤ 17592186044416) : G TTeachKeeps I.parlkeep5_TeachKeeps [w1, w2] H (fun r _ => r = .bool true) :=
  law_of (X.parlkeep5_TeachKeeps nt_parlkeep5_TeachKeeps (Sat.nil (PH.le.refl _) (PH.le.refl _)) (rds_int h1 l1) (rds_int h2 l2) (Gr.teachKeeps_plain a0 a1)) rfl
end Go.Proofs.Ytbehlbabgomhfaa
