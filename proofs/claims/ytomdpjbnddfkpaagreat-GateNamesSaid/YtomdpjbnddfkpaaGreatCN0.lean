/- THE COMPILED FORMS ARE what the compiler gives: by the kernel. -/
import Derived.Test.YtomdpjbnddfkpaaGreatTN
import Derived.Test.YtomdpjbnddfkpaaGreatFd
import Derived.Test.YtomdpjbnddfkpaaGreatProg
import Derived.KernelRfl
namespace Go.Proofs.YtomdpjbnddfkpaaGreat.LN
open Go Go.L1 Go.Proofs
set_option maxRecDepth 100000
theorem c3 : FnIs Tryz.prog 3 L3 := ⟨Tryz.f3, Tryz.func3, of_decide_eq_true (by kernel_rfl), by kernel_rfl⟩
theorem c6 : FnIs Tryz.prog 6 L6 := ⟨Tryz.f6, Tryz.func6, of_decide_eq_true (by kernel_rfl), by kernel_rfl⟩
theorem c7 : FnIs Tryz.prog 7 L7 := ⟨Tryz.f7, Tryz.func7, of_decide_eq_true (by kernel_rfl), by kernel_rfl⟩
theorem c8 : FnIs Tryz.prog 8 L8 := ⟨Tryz.f8, Tryz.func8, of_decide_eq_true (by kernel_rfl), by kernel_rfl⟩
theorem c9 : FnIs Tryz.prog 9 L9 := ⟨Tryz.f9, Tryz.func9, of_decide_eq_true (by kernel_rfl), by kernel_rfl⟩
theorem c10 : FnIs Tryz.prog 10 L10 := ⟨Tryz.f10, Tryz.func10, of_decide_eq_true (by kernel_rfl), by kernel_rfl⟩
theorem c11 : FnIs Tryz.prog 11 L11 := ⟨Tryz.f11, Tryz.func11, of_decide_eq_true (by kernel_rfl), by kernel_rfl⟩
theorem c14 : FnIs Tryz.prog 14 L14 := ⟨Tryz.f14, Tryz.func14, of_decide_eq_true (by kernel_rfl), by kernel_rfl⟩
theorem c19 : FnIs Tryz.prog 19 L19 := ⟨Tryz.f19, Tryz.func19, of_decide_eq_true (by kernel_rfl), by kernel_rfl⟩
theorem c20 : FnIs Tryz.prog 20 L20 := ⟨Tryz.f20, Tryz.func20, of_decide_eq_true (by kernel_rfl), by kernel_rfl⟩
theorem c21 : FnIs Tryz.prog 21 L21 := ⟨Tryz.f21, Tryz.func21, of_decide_eq_true (by kernel_rfl), by kernel_rfl⟩
theorem c22 : FnIs Tryz.prog 22 L22 := ⟨Tryz.f22, Tryz.func22, of_decide_eq_true (by kernel_rfl), by kernel_rfl⟩
theorem c23 : FnIs Tryz.prog 23 L23 := ⟨Tryz.f23, Tryz.func23, of_decide_eq_true (by kernel_rfl), by kernel_rfl⟩
theorem c24 : FnIs Tryz.prog 24 L24 := ⟨Tryz.f24, Tryz.func24, of_decide_eq_true (by kernel_rfl), by kernel_rfl⟩
theorem c25 : FnIs Tryz.prog 25 L25 := ⟨Tryz.f25, Tryz.func25, of_decide_eq_true (by kernel_rfl), by kernel_rfl⟩
theorem c26 : FnIs Tryz.prog 26 L26 := ⟨Tryz.f26, Tryz.func26, of_decide_eq_true (by kernel_rfl), by kernel_rfl⟩
theorem c27 : FnIs Tryz.prog 27 L27 := ⟨Tryz.f27, Tryz.func27, of_decide_eq_true (by kernel_rfl), by kernel_rfl⟩
theorem c28 : FnIs Tryz.prog 28 L28 := ⟨Tryz.f28, Tryz.func28, of_decide_eq_true (by kernel_rfl), by kernel_rfl⟩
theorem c29 : FnIs Tryz.prog 29 L29 := ⟨Tryz.f29, Tryz.func29, of_decide_eq_true (by kernel_rfl), by kernel_rfl⟩
theorem c30 : FnIs Tryz.prog 30 L30 := ⟨Tryz.f30, Tryz.func30, of_decide_eq_true (by kernel_rfl), by kernel_rfl⟩
theorem c31 : FnIs Tryz.prog 31 L31 := ⟨Tryz.f31, Tryz.func31, of_decide_eq_true (by kernel_rfl), by kernel_rfl⟩
theorem c32 : FnIs Tryz.prog 32 L32 := ⟨Tryz.f32, Tryz.func32, of_decide_eq_true (by kernel_rfl), by kernel_rfl⟩
theorem c33 : FnIs Tryz.prog 33 L33 := ⟨Tryz.f33, Tryz.func33, of_decide_eq_true (by kernel_rfl), by kernel_rfl⟩
theorem c34 : FnIs Tryz.prog 34 L34 := ⟨Tryz.f34, Tryz.func34, of_decide_eq_true (by kernel_rfl), by kernel_rfl⟩
theorem c35 : FnIs Tryz.prog 35 L35 := ⟨Tryz.f35, Tryz.func35, of_decide_eq_true (by kernel_rfl), by kernel_rfl⟩
theorem c36 : FnIs Tryz.prog 36 L36 := ⟨Tryz.f36, Tryz.func36, of_decide_eq_true (by kernel_rfl), by kernel_rfl⟩
theorem c40 : FnIs Tryz.prog 40 L40 := ⟨Tryz.f40, Tryz.func40, of_decide_eq_true (by kernel_rfl), by kernel_rfl⟩
theorem c41 : FnIs Tryz.prog 41 L41 := ⟨Tryz.f41, Tryz.func41, of_decide_eq_true (by kernel_rfl), by kernel_rfl⟩
theorem c46 : FnIs Tryz.prog 46 L46 := ⟨Tryz.f46, Tryz.func46, of_decide_eq_true (by kernel_rfl), by kernel_rfl⟩
theorem c48 : FnIs Tryz.prog 48 L48 := ⟨Tryz.f48, Tryz.func48, of_decide_eq_true (by kernel_rfl), by kernel_rfl⟩
theorem c50 : FnIs Tryz.prog 50 L50 := ⟨Tryz.f50, Tryz.func50, of_decide_eq_true (by kernel_rfl), by kernel_rfl⟩
theorem c51 : FnIs Tryz.prog 51 L51 := ⟨Tryz.f51, Tryz.func51, of_decide_eq_true (by kernel_rfl), by kernel_rfl⟩
theorem c52 : FnIs Tryz.prog 52 L52 := ⟨Tryz.f52, Tryz.func52, of_decide_eq_true (by kernel_rfl), by kernel_rfl⟩
theorem c53 : FnIs Tryz.prog 53 L53 := ⟨Tryz.f53, Tryz.func53, of_decide_eq_true (by kernel_rfl), by kernel_rfl⟩
theorem c54 : FnIs Tryz.prog 54 L54 := ⟨Tryz.f54, Tryz.func54, of_decide_eq_true (by kernel_rfl), by kernel_rfl⟩
theorem c55 : FnIs Tryz.prog 55 L55 := ⟨Tryz.f55, Tryz.func55, of_decide_eq_true (by kernel_rfl), by kernel_rfl⟩
theorem c56 : FnIs Tryz.prog 56 L56 := ⟨Tryz.f56, Tryz.func56, of_decide_eq_true (by kernel_rfl), by kernel_rfl⟩
theorem c57 : FnIs Tryz.prog 57 L57 := ⟨Tryz.f57, Tryz.func57, of_decide_eq_true (by kernel_rfl), by kernel_rfl⟩
theorem c58 : FnIs Tryz.prog 58 L58 := ⟨Tryz.f58, Tryz.func58, of_decide_eq_true (by kernel_rfl), by kernel_rfl⟩
theorem c59 : FnIs Tryz.prog 59 L59 := ⟨Tryz.f59, Tryz.func59, of_decide_eq_true (by kernel_rfl), by kernel_rfl⟩
theorem c60 : FnIs Tryz.prog 60 L60 := ⟨Tryz.f60, Tryz.func60, of_decide_eq_true (by kernel_rfl), by kernel_rfl⟩
theorem c61 : FnIs Tryz.prog 61 L61 := ⟨Tryz.f61, Tryz.func61, of_decide_eq_true (by kernel_rfl), by kernel_rfl⟩
theorem c62 : FnIs Tryz.prog 62 L62 := ⟨Tryz.f62, Tryz.func62, of_decide_eq_true (by kernel_rfl), by kernel_rfl⟩
theorem c63 : FnIs Tryz.prog 63 L63 := ⟨Tryz.f63, Tryz.func63, of_decide_eq_true (by kernel_rfl), by kernel_rfl⟩
theorem c65 : FnIs Tryz.prog 65 L65 := ⟨Tryz.f65, Tryz.func65, of_decide_eq_true (by kernel_rfl), by kernel_rfl⟩
theorem c66 : FnIs Tryz.prog 66 L66 := ⟨Tryz.f66, Tryz.func66, of_decide_eq_true (by kernel_rfl), by kernel_rfl⟩
theorem c67 : FnIs Tryz.prog 67 L67 := ⟨Tryz.f67, Tryz.func67, of_decide_eq_true (by kernel_rfl), by kernel_rfl⟩
theorem c68 : FnIs Tryz.prog 68 L68 := ⟨Tryz.f68, Tryz.func68, of_decide_eq_true (by kernel_rfl), by kernel_rfl⟩
theorem c69 : FnIs Tryz.prog 69 L69 := ⟨Tryz.f69, Tryz.func69, of_decide_eq_true (by kernel_rfl), by kernel_rfl⟩
theorem c70 : FnIs Tryz.prog 70 L70 := ⟨Tryz.f70, Tryz.func70, of_decide_eq_true (by kernel_rfl), by kernel_rfl⟩
theorem c71 : FnIs Tryz.prog 71 L71 := ⟨Tryz.f71, Tryz.func71, of_decide_eq_true (by kernel_rfl), by kernel_rfl⟩
theorem c72 : FnIs Tryz.prog 72 L72 := ⟨Tryz.f72, Tryz.func72, of_decide_eq_true (by kernel_rfl), by kernel_rfl⟩
theorem c73 : FnIs Tryz.prog 73 L73 := ⟨Tryz.f73, Tryz.func73, of_decide_eq_true (by kernel_rfl), by kernel_rfl⟩
theorem c74 : FnIs Tryz.prog 74 L74 := ⟨Tryz.f74, Tryz.func74, of_decide_eq_true (by kernel_rfl), by kernel_rfl⟩
theorem c75 : FnIs Tryz.prog 75 L75 := ⟨Tryz.f75, Tryz.func75, of_decide_eq_true (by kernel_rfl), by kernel_rfl⟩
theorem c76 : FnIs Tryz.prog 76 L76 := ⟨Tryz.f76, Tryz.func76, of_decide_eq_true (by kernel_rfl), by kernel_rfl⟩
theorem c77 : FnIs Tryz.prog 77 L77 := ⟨Tryz.f77, Tryz.func77, of_decide_eq_true (by kernel_rfl), by kernel_rfl⟩
theorem c78 : FnIs Tryz.prog 78 L78 := ⟨Tryz.f78, Tryz.func78, of_decide_eq_true (by kernel_rfl), by kernel_rfl⟩
theorem c79 : FnIs Tryz.prog 79 L79 := ⟨Tryz.f79, Tryz.func79, of_decide_eq_true (by kernel_rfl), by kernel_rfl⟩
theorem c80 : FnIs Tryz.prog 80 L80 := ⟨Tryz.f80, Tryz.func80, of_decide_eq_true (by kernel_rfl), by kernel_rfl⟩
theorem c81 : FnIs Tryz.prog 81 L81 := ⟨Tryz.f81, Tryz.func81, of_decide_eq_true (by kernel_rfl), by kernel_rfl⟩
end Go.Proofs.YtomdpjbnddfkpaaGreat.LN
