/- THE COMPILED FORMS ARE what the compiler gives: by the kernel. -/
import Derived.Test.YtjkdnmjmnlphkaaGreatTN
import Derived.Test.YtjkdnmjmnlphkaaGreatFd
import Derived.Test.YtjkdnmjmnlphkaaGreatProg
import Derived.KernelRfl
namespace Go.Proofs.YtjkdnmjmnlphkaaGreat.LN
open Go Go.L1 Go.Proofs
set_option maxRecDepth 100000
theorem c3 : FnIs Tryz.prog 3 L3 := ⟨Tryz.f3, Tryz.func3, of_decide_eq_true (by kernel_rfl), by kernel_rfl⟩
theorem c7 : FnIs Tryz.prog 7 L7 := ⟨Tryz.f7, Tryz.func7, of_decide_eq_true (by kernel_rfl), by kernel_rfl⟩
theorem c8 : FnIs Tryz.prog 8 L8 := ⟨Tryz.f8, Tryz.func8, of_decide_eq_true (by kernel_rfl), by kernel_rfl⟩
theorem c9 : FnIs Tryz.prog 9 L9 := ⟨Tryz.f9, Tryz.func9, of_decide_eq_true (by kernel_rfl), by kernel_rfl⟩
theorem c10 : FnIs Tryz.prog 10 L10 := ⟨Tryz.f10, Tryz.func10, of_decide_eq_true (by kernel_rfl), by kernel_rfl⟩
theorem c11 : FnIs Tryz.prog 11 L11 := ⟨Tryz.f11, Tryz.func11, of_decide_eq_true (by kernel_rfl), by kernel_rfl⟩
theorem c12 : FnIs Tryz.prog 12 L12 := ⟨Tryz.f12, Tryz.func12, of_decide_eq_true (by kernel_rfl), by kernel_rfl⟩
theorem c14 : FnIs Tryz.prog 14 L14 := ⟨Tryz.f14, Tryz.func14, of_decide_eq_true (by kernel_rfl), by kernel_rfl⟩
theorem c15 : FnIs Tryz.prog 15 L15 := ⟨Tryz.f15, Tryz.func15, of_decide_eq_true (by kernel_rfl), by kernel_rfl⟩
theorem c27 : FnIs Tryz.prog 27 L27 := ⟨Tryz.f27, Tryz.func27, of_decide_eq_true (by kernel_rfl), by kernel_rfl⟩
theorem c30 : FnIs Tryz.prog 30 L30 := ⟨Tryz.f30, Tryz.func30, of_decide_eq_true (by kernel_rfl), by kernel_rfl⟩
theorem c32 : FnIs Tryz.prog 32 L32 := ⟨Tryz.f32, Tryz.func32, of_decide_eq_true (by kernel_rfl), by kernel_rfl⟩
theorem c33 : FnIs Tryz.prog 33 L33 := ⟨Tryz.f33, Tryz.func33, of_decide_eq_true (by kernel_rfl), by kernel_rfl⟩
theorem c34 : FnIs Tryz.prog 34 L34 := ⟨Tryz.f34, Tryz.func34, of_decide_eq_true (by kernel_rfl), by kernel_rfl⟩
theorem c35 : FnIs Tryz.prog 35 L35 := ⟨Tryz.f35, Tryz.func35, of_decide_eq_true (by kernel_rfl), by kernel_rfl⟩
theorem c36 : FnIs Tryz.prog 36 L36 := ⟨Tryz.f36, Tryz.func36, of_decide_eq_true (by kernel_rfl), by kernel_rfl⟩
theorem c37 : FnIs Tryz.prog 37 L37 := ⟨Tryz.f37, Tryz.func37, of_decide_eq_true (by kernel_rfl), by kernel_rfl⟩
theorem c38 : FnIs Tryz.prog 38 L38 := ⟨Tryz.f38, Tryz.func38, of_decide_eq_true (by kernel_rfl), by kernel_rfl⟩
theorem c39 : FnIs Tryz.prog 39 L39 := ⟨Tryz.f39, Tryz.func39, of_decide_eq_true (by kernel_rfl), by kernel_rfl⟩
theorem c40 : FnIs Tryz.prog 40 L40 := ⟨Tryz.f40, Tryz.func40, of_decide_eq_true (by kernel_rfl), by kernel_rfl⟩
theorem c41 : FnIs Tryz.prog 41 L41 := ⟨Tryz.f41, Tryz.func41, of_decide_eq_true (by kernel_rfl), by kernel_rfl⟩
theorem c42 : FnIs Tryz.prog 42 L42 := ⟨Tryz.f42, Tryz.func42, of_decide_eq_true (by kernel_rfl), by kernel_rfl⟩
theorem c43 : FnIs Tryz.prog 43 L43 := ⟨Tryz.f43, Tryz.func43, of_decide_eq_true (by kernel_rfl), by kernel_rfl⟩
theorem c46 : FnIs Tryz.prog 46 L46 := ⟨Tryz.f46, Tryz.func46, of_decide_eq_true (by kernel_rfl), by kernel_rfl⟩
theorem c47 : FnIs Tryz.prog 47 L47 := ⟨Tryz.f47, Tryz.func47, of_decide_eq_true (by kernel_rfl), by kernel_rfl⟩
theorem c48 : FnIs Tryz.prog 48 L48 := ⟨Tryz.f48, Tryz.func48, of_decide_eq_true (by kernel_rfl), by kernel_rfl⟩
theorem c49 : FnIs Tryz.prog 49 L49 := ⟨Tryz.f49, Tryz.func49, of_decide_eq_true (by kernel_rfl), by kernel_rfl⟩
theorem c50 : FnIs Tryz.prog 50 L50 := ⟨Tryz.f50, Tryz.func50, of_decide_eq_true (by kernel_rfl), by kernel_rfl⟩
theorem c60 : FnIs Tryz.prog 60 L60 := ⟨Tryz.f60, Tryz.func60, of_decide_eq_true (by kernel_rfl), by kernel_rfl⟩
theorem c61 : FnIs Tryz.prog 61 L61 := ⟨Tryz.f61, Tryz.func61, of_decide_eq_true (by kernel_rfl), by kernel_rfl⟩
theorem c67 : FnIs Tryz.prog 67 L67 := ⟨Tryz.f67, Tryz.func67, of_decide_eq_true (by kernel_rfl), by kernel_rfl⟩
theorem c68 : FnIs Tryz.prog 68 L68 := ⟨Tryz.f68, Tryz.func68, of_decide_eq_true (by kernel_rfl), by kernel_rfl⟩
theorem c69 : FnIs Tryz.prog 69 L69 := ⟨Tryz.f69, Tryz.func69, of_decide_eq_true (by kernel_rfl), by kernel_rfl⟩
theorem c70 : FnIs Tryz.prog 70 L70 := ⟨Tryz.f70, Tryz.func70, of_decide_eq_true (by kernel_rfl), by kernel_rfl⟩
theorem c71 : FnIs Tryz.prog 71 L71 := ⟨Tryz.f71, Tryz.func71, of_decide_eq_true (by kernel_rfl), by kernel_rfl⟩
theorem c72 : FnIs Tryz.prog 72 L72 := ⟨Tryz.f72, Tryz.func72, of_decide_eq_true (by kernel_rfl), by kernel_rfl⟩
end Go.Proofs.YtjkdnmjmnlphkaaGreat.LN
