import Derived.Test.YtmfkjilndpchbaaGapprox
import Derived.Test.YtmfkjilndpchbaaGcmp
import Derived.Test.YtmfkjilndpchbaaGdfa
import Derived.Test.YtmfkjilndpchbaaGgram
import Derived.Test.YtmfkjilndpchbaaGlinear
import Derived.Test.YtmfkjilndpchbaaGmathbits
import Derived.Test.YtmfkjilndpchbaaGmini
import Derived.Test.YtmfkjilndpchbaaGparlkeep5
import Derived.Test.YtmfkjilndpchbaaGparlmake
import Derived.Test.YtmfkjilndpchbaaGslices
import Derived.Test.YtmfkjilndpchbaaGteach
import Derived.Test.YtmfkjilndpchbaaProg
import Derived.KernelRfl
namespace Go.Proofs.Ytmfkjilndpchbaa
open Go Go.Ab
def A8:FuncId→Option AFunc
 | 4=>some F.D3
 | 7=>some F.E5
 | 8=>some F.J7
 | 12=>some F.F5
 | 13=>some F.D2
 | 14=>some F.E4
 | 17=>some F.D7
 | 19=>some F.A9
 | 20=>some F.E7
 | 21=>some F.F6
 | 22=>some F.B4
 | 23=>some F.B8
 | 24=>some F.G0
 | 28=>some F.D8
 | 29=>some F.E1
 | 30=>some F.K2
 | 31=>some F.K0
 | 32=>some F.J3
 | 36=>some F.F3
 | 37=>some F.F8
 | 38=>some F.C4
 | 39=>some F.F0
 | 40=>some F.C7
 | 41=>some F.G1
 | 42=>some F.J0
 | 43=>some F.E0
 | 44=>some F.C5
 | 45=>some F.B9
 | 46=>some F.D0
 | 48=>some F.J8
 | 51=>some F.E6
 | 52=>some F.F4
 | 53=>some F.G9
 | 54=>some F.G7
 | 55=>some F.B5
 | 56=>some F.D5
 | 57=>some F.J6
 | 58=>some F.F1
 | 59=>some F.B3
 | 60=>some F.J9
 | 61=>some F.B1
 | 62=>some F.J2
 | 63=>some F.C3
 | 64=>some F.K1
 | 65=>some F.F9
 | 66=>some F.G8
 | 67=>some F.C1
 | 68=>some F.C2
 | 69=>some F.C0
 | 70=>some F.B7
 | 71=>some F.C8
 | 72=>some F.A7
 | 73=>some F.D4
 | 74=>some F.B2
 | 75=>some F.B0
 | 76=>some F.J1
 | 77=>some F.G4
 | 78=>some F.C6
 | 79=>some F.G6
 | 80=>some F.G2
 | 81=>some F.D1
 | 82=>some F.E3
 | 83=>some F.D9
 | _=>none
theorem A8.c4:cFunc Try.prog Try.f4=some F.D3:=by kernel_rfl
theorem A8.c7:cFunc Try.prog Try.f7=some F.E5:=by kernel_rfl
theorem A8.c8:cFunc Try.prog Try.f8=some F.J7:=by kernel_rfl
theorem A8.c12:cFunc Try.prog Try.f12=some F.F5:=by kernel_rfl
theorem A8.c13:cFunc Try.prog Try.f13=some F.D2:=by kernel_rfl
theorem A8.c14:cFunc Try.prog Try.f14=some F.E4:=by kernel_rfl
theorem A8.c17:cFunc Try.prog Try.f17=some F.D7:=by kernel_rfl
theorem A8.c19:cFunc Try.prog Try.f19=some F.A9:=by kernel_rfl
theorem A8.c20:cFunc Try.prog Try.f20=some F.E7:=by kernel_rfl
theorem A8.c21:cFunc Try.prog Try.f21=some F.F6:=by kernel_rfl
theorem A8.c22:cFunc Try.prog Try.f22=some F.B4:=by kernel_rfl
theorem A8.c23:cFunc Try.prog Try.f23=some F.B8:=by kernel_rfl
theorem A8.c24:cFunc Try.prog Try.f24=some F.G0:=by kernel_rfl
theorem A8.c28:cFunc Try.prog Try.f28=some F.D8:=by kernel_rfl
theorem A8.c29:cFunc Try.prog Try.f29=some F.E1:=by kernel_rfl
theorem A8.c30:cFunc Try.prog Try.f30=some F.K2:=by kernel_rfl
theorem A8.c31:cFunc Try.prog Try.f31=some F.K0:=by kernel_rfl
theorem A8.c32:cFunc Try.prog Try.f32=some F.J3:=by kernel_rfl
theorem A8.c36:cFunc Try.prog Try.f36=some F.F3:=by kernel_rfl
theorem A8.c37:cFunc Try.prog Try.f37=some F.F8:=by kernel_rfl
theorem A8.c38:cFunc Try.prog Try.f38=some F.C4:=by kernel_rfl
theorem A8.c39:cFunc Try.prog Try.f39=some F.F0:=by kernel_rfl
theorem A8.c40:cFunc Try.prog Try.f40=some F.C7:=by kernel_rfl
theorem A8.c41:cFunc Try.prog Try.f41=some F.G1:=by kernel_rfl
theorem A8.c42:cFunc Try.prog Try.f42=some F.J0:=by kernel_rfl
theorem A8.c43:cFunc Try.prog Try.f43=some F.E0:=by kernel_rfl
theorem A8.c44:cFunc Try.prog Try.f44=some F.C5:=by kernel_rfl
theorem A8.c45:cFunc Try.prog Try.f45=some F.B9:=by kernel_rfl
theorem A8.c46:cFunc Try.prog Try.f46=some F.D0:=by kernel_rfl
theorem A8.c48:cFunc Try.prog Try.f48=some F.J8:=by kernel_rfl
theorem A8.c51:cFunc Try.prog Try.f51=some F.E6:=by kernel_rfl
theorem A8.c52:cFunc Try.prog Try.f52=some F.F4:=by kernel_rfl
theorem A8.c53:cFunc Try.prog Try.f53=some F.G9:=by kernel_rfl
theorem A8.c54:cFunc Try.prog Try.f54=some F.G7:=by kernel_rfl
theorem A8.c55:cFunc Try.prog Try.f55=some F.B5:=by kernel_rfl
theorem A8.c56:cFunc Try.prog Try.f56=some F.D5:=by kernel_rfl
theorem A8.c57:cFunc Try.prog Try.f57=some F.J6:=by kernel_rfl
theorem A8.c58:cFunc Try.prog Try.f58=some F.F1:=by kernel_rfl
theorem A8.c59:cFunc Try.prog Try.f59=some F.B3:=by kernel_rfl
theorem A8.c60:cFunc Try.prog Try.f60=some F.J9:=by kernel_rfl
theorem A8.c61:cFunc Try.prog Try.f61=some F.B1:=by kernel_rfl
theorem A8.c62:cFunc Try.prog Try.f62=some F.J2:=by kernel_rfl
theorem A8.c63:cFunc Try.prog Try.f63=some F.C3:=by kernel_rfl
theorem A8.c64:cFunc Try.prog Try.f64=some F.K1:=by kernel_rfl
theorem A8.c65:cFunc Try.prog Try.f65=some F.F9:=by kernel_rfl
theorem A8.c66:cFunc Try.prog Try.f66=some F.G8:=by kernel_rfl
theorem A8.c67:cFunc Try.prog Try.f67=some F.C1:=by kernel_rfl
theorem A8.c68:cFunc Try.prog Try.f68=some F.C2:=by kernel_rfl
theorem A8.c69:cFunc Try.prog Try.f69=some F.C0:=by kernel_rfl
theorem A8.c70:cFunc Try.prog Try.f70=some F.B7:=by kernel_rfl
theorem A8.c71:cFunc Try.prog Try.f71=some F.C8:=by kernel_rfl
theorem A8.c72:cFunc Try.prog Try.f72=some F.A7:=by kernel_rfl
theorem A8.c73:cFunc Try.prog Try.f73=some F.D4:=by kernel_rfl
theorem A8.c74:cFunc Try.prog Try.f74=some F.B2:=by kernel_rfl
theorem A8.c75:cFunc Try.prog Try.f75=some F.B0:=by kernel_rfl
theorem A8.c76:cFunc Try.prog Try.f76=some F.J1:=by kernel_rfl
theorem A8.c77:cFunc Try.prog Try.f77=some F.G4:=by kernel_rfl
theorem A8.c78:cFunc Try.prog Try.f78=some F.C6:=by kernel_rfl
theorem A8.c79:cFunc Try.prog Try.f79=some F.G6:=by kernel_rfl
theorem A8.c80:cFunc Try.prog Try.f80=some F.G2:=by kernel_rfl
theorem A8.c81:cFunc Try.prog Try.f81=some F.D1:=by kernel_rfl
theorem A8.c82:cFunc Try.prog Try.f82=some F.E3:=by kernel_rfl
theorem A8.c83:cFunc Try.prog Try.f83=some F.D9:=by kernel_rfl
theorem A8.ok:∀f F,A8 f=some F→∃fn,Try.prog.funcs[f]? =some fn∧cFunc Try.prog fn=some F:=by
 intro f F h
 unfold A8 at h
 split at h
 ·cases h;exact⟨_,Try.func4,A8.c4⟩
 ·cases h;exact⟨_,Try.func7,A8.c7⟩
 ·cases h;exact⟨_,Try.func8,A8.c8⟩
 ·cases h;exact⟨_,Try.func12,A8.c12⟩
 ·cases h;exact⟨_,Try.func13,A8.c13⟩
 ·cases h;exact⟨_,Try.func14,A8.c14⟩
 ·cases h;exact⟨_,Try.func17,A8.c17⟩
 ·cases h;exact⟨_,Try.func19,A8.c19⟩
 ·cases h;exact⟨_,Try.func20,A8.c20⟩
 ·cases h;exact⟨_,Try.func21,A8.c21⟩
 ·cases h;exact⟨_,Try.func22,A8.c22⟩
 ·cases h;exact⟨_,Try.func23,A8.c23⟩
 ·cases h;exact⟨_,Try.func24,A8.c24⟩
 ·cases h;exact⟨_,Try.func28,A8.c28⟩
 ·cases h;exact⟨_,Try.func29,A8.c29⟩
 ·cases h;exact⟨_,Try.func30,A8.c30⟩
 ·cases h;exact⟨_,Try.func31,A8.c31⟩
 ·cases h;exact⟨_,Try.func32,A8.c32⟩
 ·cases h;exact⟨_,Try.func36,A8.c36⟩
 ·cases h;exact⟨_,Try.func37,A8.c37⟩
 ·cases h;exact⟨_,Try.func38,A8.c38⟩
 ·cases h;exact⟨_,Try.func39,A8.c39⟩
 ·cases h;exact⟨_,Try.func40,A8.c40⟩
 ·cases h;exact⟨_,Try.func41,A8.c41⟩
 ·cases h;exact⟨_,Try.func42,A8.c42⟩
 ·cases h;exact⟨_,Try.func43,A8.c43⟩
 ·cases h;exact⟨_,Try.func44,A8.c44⟩
 ·cases h;exact⟨_,Try.func45,A8.c45⟩
 ·cases h;exact⟨_,Try.func46,A8.c46⟩
 ·cases h;exact⟨_,Try.func48,A8.c48⟩
 ·cases h;exact⟨_,Try.func51,A8.c51⟩
 ·cases h;exact⟨_,Try.func52,A8.c52⟩
 ·cases h;exact⟨_,Try.func53,A8.c53⟩
 ·cases h;exact⟨_,Try.func54,A8.c54⟩
 ·cases h;exact⟨_,Try.func55,A8.c55⟩
 ·cases h;exact⟨_,Try.func56,A8.c56⟩
 ·cases h;exact⟨_,Try.func57,A8.c57⟩
 ·cases h;exact⟨_,Try.func58,A8.c58⟩
 ·cases h;exact⟨_,Try.func59,A8.c59⟩
 ·cases h;exact⟨_,Try.func60,A8.c60⟩
 ·cases h;exact⟨_,Try.func61,A8.c61⟩
 ·cases h;exact⟨_,Try.func62,A8.c62⟩
 ·cases h;exact⟨_,Try.func63,A8.c63⟩
 ·cases h;exact⟨_,Try.func64,A8.c64⟩
 ·cases h;exact⟨_,Try.func65,A8.c65⟩
 ·cases h;exact⟨_,Try.func66,A8.c66⟩
 ·cases h;exact⟨_,Try.func67,A8.c67⟩
 ·cases h;exact⟨_,Try.func68,A8.c68⟩
 ·cases h;exact⟨_,Try.func69,A8.c69⟩
 ·cases h;exact⟨_,Try.func70,A8.c70⟩
 ·cases h;exact⟨_,Try.func71,A8.c71⟩
 ·cases h;exact⟨_,Try.func72,A8.c72⟩
 ·cases h;exact⟨_,Try.func73,A8.c73⟩
 ·cases h;exact⟨_,Try.func74,A8.c74⟩
 ·cases h;exact⟨_,Try.func75,A8.c75⟩
 ·cases h;exact⟨_,Try.func76,A8.c76⟩
 ·cases h;exact⟨_,Try.func77,A8.c77⟩
 ·cases h;exact⟨_,Try.func78,A8.c78⟩
 ·cases h;exact⟨_,Try.func79,A8.c79⟩
 ·cases h;exact⟨_,Try.func80,A8.c80⟩
 ·cases h;exact⟨_,Try.func81,A8.c81⟩
 ·cases h;exact⟨_,Try.func82,A8.c82⟩
 ·cases h;exact⟨_,Try.func83,A8.c83⟩
 ·cases h
instance:Has A8 I.D3 F.D3:=⟨rfl⟩
instance:Has A8 I.E5 F.E5:=⟨rfl⟩
instance:Has A8 I.J7 F.J7:=⟨rfl⟩
instance:Has A8 I.F5 F.F5:=⟨rfl⟩
instance:Has A8 I.D2 F.D2:=⟨rfl⟩
instance:Has A8 I.E4 F.E4:=⟨rfl⟩
instance:Has A8 I.D7 F.D7:=⟨rfl⟩
instance:Has A8 I.A9 F.A9:=⟨rfl⟩
instance:Has A8 I.E7 F.E7:=⟨rfl⟩
instance:Has A8 I.F6 F.F6:=⟨rfl⟩
instance:Has A8 I.B4 F.B4:=⟨rfl⟩
instance:Has A8 I.B8 F.B8:=⟨rfl⟩
instance:Has A8 I.G0 F.G0:=⟨rfl⟩
instance:Has A8 I.D8 F.D8:=⟨rfl⟩
instance:Has A8 I.E1 F.E1:=⟨rfl⟩
instance:Has A8 I.K2 F.K2:=⟨rfl⟩
instance:Has A8 I.K0 F.K0:=⟨rfl⟩
instance:Has A8 I.J3 F.J3:=⟨rfl⟩
instance:Has A8 I.F3 F.F3:=⟨rfl⟩
instance:Has A8 I.F8 F.F8:=⟨rfl⟩
instance:Has A8 I.C4 F.C4:=⟨rfl⟩
instance:Has A8 I.F0 F.F0:=⟨rfl⟩
instance:Has A8 I.C7 F.C7:=⟨rfl⟩
instance:Has A8 I.G1 F.G1:=⟨rfl⟩
instance:Has A8 I.J0 F.J0:=⟨rfl⟩
instance:Has A8 I.E0 F.E0:=⟨rfl⟩
instance:Has A8 I.C5 F.C5:=⟨rfl⟩
instance:Has A8 I.B9 F.B9:=⟨rfl⟩
instance:Has A8 I.D0 F.D0:=⟨rfl⟩
instance:Has A8 I.J8 F.J8:=⟨rfl⟩
instance:Has A8 I.E6 F.E6:=⟨rfl⟩
instance:Has A8 I.F4 F.F4:=⟨rfl⟩
instance:Has A8 I.G9 F.G9:=⟨rfl⟩
instance:Has A8 I.G7 F.G7:=⟨rfl⟩
instance:Has A8 I.B5 F.B5:=⟨rfl⟩
instance:Has A8 I.D5 F.D5:=⟨rfl⟩
instance:Has A8 I.J6 F.J6:=⟨rfl⟩
instance:Has A8 I.F1 F.F1:=⟨rfl⟩
instance:Has A8 I.B3 F.B3:=⟨rfl⟩
instance:Has A8 I.J9 F.J9:=⟨rfl⟩
instance:Has A8 I.B1 F.B1:=⟨rfl⟩
instance:Has A8 I.J2 F.J2:=⟨rfl⟩
instance:Has A8 I.C3 F.C3:=⟨rfl⟩
instance:Has A8 I.K1 F.K1:=⟨rfl⟩
instance:Has A8 I.F9 F.F9:=⟨rfl⟩
instance:Has A8 I.G8 F.G8:=⟨rfl⟩
instance:Has A8 I.C1 F.C1:=⟨rfl⟩
instance:Has A8 I.C2 F.C2:=⟨rfl⟩
instance:Has A8 I.C0 F.C0:=⟨rfl⟩
instance:Has A8 I.B7 F.B7:=⟨rfl⟩
instance:Has A8 I.C8 F.C8:=⟨rfl⟩
instance:Has A8 I.A7 F.A7:=⟨rfl⟩
instance:Has A8 I.D4 F.D4:=⟨rfl⟩
instance:Has A8 I.B2 F.B2:=⟨rfl⟩
instance:Has A8 I.B0 F.B0:=⟨rfl⟩
instance:Has A8 I.J1 F.J1:=⟨rfl⟩
instance:Has A8 I.G4 F.G4:=⟨rfl⟩
instance:Has A8 I.C6 F.C6:=⟨rfl⟩
instance:Has A8 I.G6 F.G6:=⟨rfl⟩
instance:Has A8 I.G2 F.G2:=⟨rfl⟩
instance:Has A8 I.D1 F.D1:=⟨rfl⟩
instance:Has A8 I.E3 F.E3:=⟨rfl⟩
instance:Has A8 I.D9 F.D9:=⟨rfl⟩
end Go.Proofs.Ytmfkjilndpchbaa
