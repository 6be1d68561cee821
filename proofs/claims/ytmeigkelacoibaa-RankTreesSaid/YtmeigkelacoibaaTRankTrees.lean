import Derived.Test.YtmeigkelacoibaaGcensus
import Derived.Test.YtmeigkelacoibaaGcmp
import Derived.Test.YtmeigkelacoibaaGgram
import Derived.Test.YtmeigkelacoibaaGparlkeep5
import Derived.Test.YtmeigkelacoibaaGparlmake
import Derived.Test.YtmeigkelacoibaaGrank
import Derived.Test.YtmeigkelacoibaaGslices
import Derived.Test.YtmeigkelacoibaaGtree
import Derived.Test.YtmeigkelacoibaaProg
import Derived.KernelRfl
namespace Go.Proofs.Ytmeigkelacoibaa
open Go Go.Ab
def A5 : FuncId → Option AFunc
 | 3 => some F.A7
 | 5 => some F.B9
 | 6 => some F.F3
 | 7 => some F.G0
 | 8 => some F.F4
 | 9 => some F.G1
 | 10 => some F.F2
 | 11 => some F.F9
 | 12 => some F.E5
 | 13 => some F.F8
 | 14 => some F.E2
 | 15 => some F.D6
 | 18 => some F.A8
 | 19 => some F.D2
 | 20 => some F.E3
 | 21 => some F.E8
 | 22 => some F.C8
 | 23 => some F.C4
 | 24 => some F.D8
 | 25 => some F.D9
 | 26 => some F.E7
 | 27 => some F.C2
 | 28 => some F.B0
 | 29 => some F.D7
 | 30 => some F.B6
 | 31 => some F.C5
 | 32 => some F.C6
 | 33 => some F.C0
 | 34 => some F.D4
 | 35 => some F.F5
 | 36 => some F.E4
 | 37 => some F.F1
 | 38 => some F.F7
 | 39 => some F.D5
 | 40 => some F.B4
 | 41 => some F.A1
 | 42 => some F.B1
 | 43 => some F.E1
 | 44 => some F.A3
 | 45 => some F.F6
 | 46 => some F.B5
 | 47 => some F.C7
 | 48 => some F.B7
 | 49 => some F.A9
 | 50 => some F.B3
 | 51 => some F.B8
 | 52 => some F.F0
 | 53 => some F.D0
 | _ => none
theorem A5.c3 : cFunc Try.prog Try.f3 = some F.A7 := by kernel_rfl
theorem A5.c5 : cFunc Try.prog Try.f5 = some F.B9 := by kernel_rfl
theorem A5.c6 : cFunc Try.prog Try.f6 = some F.F3 := by kernel_rfl
theorem A5.c7 : cFunc Try.prog Try.f7 = some F.G0 := by kernel_rfl
theorem A5.c8 : cFunc Try.prog Try.f8 = some F.F4 := by kernel_rfl
theorem A5.c9 : cFunc Try.prog Try.f9 = some F.G1 := by kernel_rfl
theorem A5.c10 : cFunc Try.prog Try.f10 = some F.F2 := by kernel_rfl
theorem A5.c11 : cFunc Try.prog Try.f11 = some F.F9 := by kernel_rfl
theorem A5.c12 : cFunc Try.prog Try.f12 = some F.E5 := by kernel_rfl
theorem A5.c13 : cFunc Try.prog Try.f13 = some F.F8 := by kernel_rfl
theorem A5.c14 : cFunc Try.prog Try.f14 = some F.E2 := by kernel_rfl
theorem A5.c15 : cFunc Try.prog Try.f15 = some F.D6 := by kernel_rfl
theorem A5.c18 : cFunc Try.prog Try.f18 = some F.A8 := by kernel_rfl
theorem A5.c19 : cFunc Try.prog Try.f19 = some F.D2 := by kernel_rfl
theorem A5.c20 : cFunc Try.prog Try.f20 = some F.E3 := by kernel_rfl
theorem A5.c21 : cFunc Try.prog Try.f21 = some F.E8 := by kernel_rfl
theorem A5.c22 : cFunc Try.prog Try.f22 = some F.C8 := by kernel_rfl
theorem A5.c23 : cFunc Try.prog Try.f23 = some F.C4 := by kernel_rfl
theorem A5.c24 : cFunc Try.prog Try.f24 = some F.D8 := by kernel_rfl
theorem A5.c25 : cFunc Try.prog Try.f25 = some F.D9 := by kernel_rfl
theorem A5.c26 : cFunc Try.prog Try.f26 = some F.E7 := by kernel_rfl
theorem A5.c27 : cFunc Try.prog Try.f27 = some F.C2 := by kernel_rfl
theorem A5.c28 : cFunc Try.prog Try.f28 = some F.B0 := by kernel_rfl
theorem A5.c29 : cFunc Try.prog Try.f29 = some F.D7 := by kernel_rfl
theorem A5.c30 : cFunc Try.prog Try.f30 = some F.B6 := by kernel_rfl
theorem A5.c31 : cFunc Try.prog Try.f31 = some F.C5 := by kernel_rfl
theorem A5.c32 : cFunc Try.prog Try.f32 = some F.C6 := by kernel_rfl
theorem A5.c33 : cFunc Try.prog Try.f33 = some F.C0 := by kernel_rfl
theorem A5.c34 : cFunc Try.prog Try.f34 = some F.D4 := by kernel_rfl
theorem A5.c35 : cFunc Try.prog Try.f35 = some F.F5 := by kernel_rfl
theorem A5.c36 : cFunc Try.prog Try.f36 = some F.E4 := by kernel_rfl
theorem A5.c37 : cFunc Try.prog Try.f37 = some F.F1 := by kernel_rfl
theorem A5.c38 : cFunc Try.prog Try.f38 = some F.F7 := by kernel_rfl
theorem A5.c39 : cFunc Try.prog Try.f39 = some F.D5 := by kernel_rfl
theorem A5.c40 : cFunc Try.prog Try.f40 = some F.B4 := by kernel_rfl
theorem A5.c41 : cFunc Try.prog Try.f41 = some F.A1 := by kernel_rfl
theorem A5.c42 : cFunc Try.prog Try.f42 = some F.B1 := by kernel_rfl
theorem A5.c43 : cFunc Try.prog Try.f43 = some F.E1 := by kernel_rfl
theorem A5.c44 : cFunc Try.prog Try.f44 = some F.A3 := by kernel_rfl
theorem A5.c45 : cFunc Try.prog Try.f45 = some F.F6 := by kernel_rfl
theorem A5.c46 : cFunc Try.prog Try.f46 = some F.B5 := by kernel_rfl
theorem A5.c47 : cFunc Try.prog Try.f47 = some F.C7 := by kernel_rfl
theorem A5.c48 : cFunc Try.prog Try.f48 = some F.B7 := by kernel_rfl
theorem A5.c49 : cFunc Try.prog Try.f49 = some F.A9 := by kernel_rfl
theorem A5.c50 : cFunc Try.prog Try.f50 = some F.B3 := by kernel_rfl
theorem A5.c51 : cFunc Try.prog Try.f51 = some F.B8 := by kernel_rfl
theorem A5.c52 : cFunc Try.prog Try.f52 = some F.F0 := by kernel_rfl
theorem A5.c53 : cFunc Try.prog Try.f53 = some F.D0 := by kernel_rfl
theorem A5.ok : ∀ f F, A5 f = some F → ∃ fn, Try.prog.funcs[f]? = some fn ∧ cFunc Try.prog fn = some F := by
 intro f F h
 unfold A5 at h
 split at h
 ·cases h; exact ⟨_, Try.func3, A5.c3⟩
 ·cases h; exact ⟨_, Try.func5, A5.c5⟩
 ·cases h; exact ⟨_, Try.func6, A5.c6⟩
 ·cases h; exact ⟨_, Try.func7, A5.c7⟩
 ·cases h; exact ⟨_, Try.func8, A5.c8⟩
 ·cases h; exact ⟨_, Try.func9, A5.c9⟩
 ·cases h; exact ⟨_, Try.func10, A5.c10⟩
 ·cases h; exact ⟨_, Try.func11, A5.c11⟩
 ·cases h; exact ⟨_, Try.func12, A5.c12⟩
 ·cases h; exact ⟨_, Try.func13, A5.c13⟩
 ·cases h; exact ⟨_, Try.func14, A5.c14⟩
 ·cases h; exact ⟨_, Try.func15, A5.c15⟩
 ·cases h; exact ⟨_, Try.func18, A5.c18⟩
 ·cases h; exact ⟨_, Try.func19, A5.c19⟩
 ·cases h; exact ⟨_, Try.func20, A5.c20⟩
 ·cases h; exact ⟨_, Try.func21, A5.c21⟩
 ·cases h; exact ⟨_, Try.func22, A5.c22⟩
 ·cases h; exact ⟨_, Try.func23, A5.c23⟩
 ·cases h; exact ⟨_, Try.func24, A5.c24⟩
 ·cases h; exact ⟨_, Try.func25, A5.c25⟩
 ·cases h; exact ⟨_, Try.func26, A5.c26⟩
 ·cases h; exact ⟨_, Try.func27, A5.c27⟩
 ·cases h; exact ⟨_, Try.func28, A5.c28⟩
 ·cases h; exact ⟨_, Try.func29, A5.c29⟩
 ·cases h; exact ⟨_, Try.func30, A5.c30⟩
 ·cases h; exact ⟨_, Try.func31, A5.c31⟩
 ·cases h; exact ⟨_, Try.func32, A5.c32⟩
 ·cases h; exact ⟨_, Try.func33, A5.c33⟩
 ·cases h; exact ⟨_, Try.func34, A5.c34⟩
 ·cases h; exact ⟨_, Try.func35, A5.c35⟩
 ·cases h; exact ⟨_, Try.func36, A5.c36⟩
 ·cases h; exact ⟨_, Try.func37, A5.c37⟩
 ·cases h; exact ⟨_, Try.func38, A5.c38⟩
 ·cases h; exact ⟨_, Try.func39, A5.c39⟩
 ·cases h; exact ⟨_, Try.func40, A5.c40⟩
 ·cases h; exact ⟨_, Try.func41, A5.c41⟩
 ·cases h; exact ⟨_, Try.func42, A5.c42⟩
 ·cases h; exact ⟨_, Try.func43, A5.c43⟩
 ·cases h; exact ⟨_, Try.func44, A5.c44⟩
 ·cases h; exact ⟨_, Try.func45, A5.c45⟩
 ·cases h; exact ⟨_, Try.func46, A5.c46⟩
 ·cases h; exact ⟨_, Try.func47, A5.c47⟩
 ·cases h; exact ⟨_, Try.func48, A5.c48⟩
 ·cases h; exact ⟨_, Try.func49, A5.c49⟩
 ·cases h; exact ⟨_, Try.func50, A5.c50⟩
 ·cases h; exact ⟨_, Try.func51, A5.c51⟩
 ·cases h; exact ⟨_, Try.func52, A5.c52⟩
 ·cases h; exact ⟨_, Try.func53, A5.c53⟩
 ·cases h
instance : Has A5 I.A7 F.A7 := ⟨rfl⟩
instance : Has A5 I.B9 F.B9 := ⟨rfl⟩
instance : Has A5 I.F3 F.F3 := ⟨rfl⟩
instance : Has A5 I.G0 F.G0 := ⟨rfl⟩
instance : Has A5 I.F4 F.F4 := ⟨rfl⟩
instance : Has A5 I.G1 F.G1 := ⟨rfl⟩
instance : Has A5 I.F2 F.F2 := ⟨rfl⟩
instance : Has A5 I.F9 F.F9 := ⟨rfl⟩
instance : Has A5 I.E5 F.E5 := ⟨rfl⟩
instance : Has A5 I.F8 F.F8 := ⟨rfl⟩
instance : Has A5 I.E2 F.E2 := ⟨rfl⟩
instance : Has A5 I.D6 F.D6 := ⟨rfl⟩
instance : Has A5 I.A8 F.A8 := ⟨rfl⟩
instance : Has A5 I.D2 F.D2 := ⟨rfl⟩
instance : Has A5 I.E3 F.E3 := ⟨rfl⟩
instance : Has A5 I.E8 F.E8 := ⟨rfl⟩
instance : Has A5 I.C8 F.C8 := ⟨rfl⟩
instance : Has A5 I.C4 F.C4 := ⟨rfl⟩
instance : Has A5 I.D8 F.D8 := ⟨rfl⟩
instance : Has A5 I.D9 F.D9 := ⟨rfl⟩
instance : Has A5 I.E7 F.E7 := ⟨rfl⟩
instance : Has A5 I.C2 F.C2 := ⟨rfl⟩
instance : Has A5 I.B0 F.B0 := ⟨rfl⟩
instance : Has A5 I.D7 F.D7 := ⟨rfl⟩
instance : Has A5 I.B6 F.B6 := ⟨rfl⟩
instance : Has A5 I.C5 F.C5 := ⟨rfl⟩
instance : Has A5 I.C6 F.C6 := ⟨rfl⟩
instance : Has A5 I.C0 F.C0 := ⟨rfl⟩
instance : Has A5 I.D4 F.D4 := ⟨rfl⟩
instance : Has A5 I.F5 F.F5 := ⟨rfl⟩
instance : Has A5 I.E4 F.E4 := ⟨rfl⟩
instance : Has A5 I.F1 F.F1 := ⟨rfl⟩
instance : Has A5 I.F7 F.F7 := ⟨rfl⟩
instance : Has A5 I.D5 F.D5 := ⟨rfl⟩
instance : Has A5 I.B4 F.B4 := ⟨rfl⟩
instance : Has A5 I.A1 F.A1 := ⟨rfl⟩
instance : Has A5 I.B1 F.B1 := ⟨rfl⟩
instance : Has A5 I.E1 F.E1 := ⟨rfl⟩
instance : Has A5 I.A3 F.A3 := ⟨rfl⟩
instance : Has A5 I.F6 F.F6 := ⟨rfl⟩
instance : Has A5 I.B5 F.B5 := ⟨rfl⟩
instance : Has A5 I.C7 F.C7 := ⟨rfl⟩
instance : Has A5 I.B7 F.B7 := ⟨rfl⟩
instance : Has A5 I.A9 F.A9 := ⟨rfl⟩
instance : Has A5 I.B3 F.B3 := ⟨rfl⟩
instance : Has A5 I.B8 F.B8 := ⟨rfl⟩
instance : Has A5 I.F0 F.F0 := ⟨rfl⟩
instance : Has A5 I.D0 F.D0 := ⟨rfl⟩
end Go.Proofs.Ytmeigkelacoibaa
