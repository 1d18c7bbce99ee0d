/- THE COMPILED FORMS ARE what the compiler gives: by the kernel. -/
import Derived.Test.YteoibgeimmaejaaGreatTN
import Derived.Test.YteoibgeimmaejaaGreatFd
import Derived.Test.YteoibgeimmaejaaGreatProg
import Derived.KernelRfl
namespace Go.Proofs.YteoibgeimmaejaaGreat.LN
open Go Go.L1 Go.Proofs
set_option maxRecDepth 100000
theorem c3 : FnIs Tryz.prog 3 L3 := ⟨Tryz.f3, Tryz.func3, of_decide_eq_true (by kernel_rfl), by kernel_rfl⟩
theorem c7 : FnIs Tryz.prog 7 L7 := ⟨Tryz.f7, Tryz.func7, of_decide_eq_true (by kernel_rfl), by kernel_rfl⟩
theorem c8 : FnIs Tryz.prog 8 L8 := ⟨Tryz.f8, Tryz.func8, of_decide_eq_true (by kernel_rfl), by kernel_rfl⟩
theorem c9 : FnIs Tryz.prog 9 L9 := ⟨Tryz.f9, Tryz.func9, of_decide_eq_true (by kernel_rfl), by kernel_rfl⟩
theorem c10 : FnIs Tryz.prog 10 L10 := ⟨Tryz.f10, Tryz.func10, of_decide_eq_true (by kernel_rfl), by kernel_rfl⟩
theorem c12 : FnIs Tryz.prog 12 L12 := ⟨Tryz.f12, Tryz.func12, of_decide_eq_true (by kernel_rfl), by kernel_rfl⟩
theorem c15 : FnIs Tryz.prog 15 L15 := ⟨Tryz.f15, Tryz.func15, of_decide_eq_true (by kernel_rfl), by kernel_rfl⟩
theorem c17 : FnIs Tryz.prog 17 L17 := ⟨Tryz.f17, Tryz.func17, of_decide_eq_true (by kernel_rfl), by kernel_rfl⟩
theorem c20 : FnIs Tryz.prog 20 L20 := ⟨Tryz.f20, Tryz.func20, of_decide_eq_true (by kernel_rfl), by kernel_rfl⟩
theorem c21 : FnIs Tryz.prog 21 L21 := ⟨Tryz.f21, Tryz.func21, of_decide_eq_true (by kernel_rfl), by kernel_rfl⟩
theorem c22 : FnIs Tryz.prog 22 L22 := ⟨Tryz.f22, Tryz.func22, of_decide_eq_true (by kernel_rfl), by kernel_rfl⟩
theorem c23 : FnIs Tryz.prog 23 L23 := ⟨Tryz.f23, Tryz.func23, of_decide_eq_true (by kernel_rfl), by kernel_rfl⟩
theorem c24 : FnIs Tryz.prog 24 L24 := ⟨Tryz.f24, Tryz.func24, of_decide_eq_true (by kernel_rfl), by kernel_rfl⟩
theorem c25 : FnIs Tryz.prog 25 L25 := ⟨Tryz.f25, Tryz.func25, of_decide_eq_true (by kernel_rfl), by kernel_rfl⟩
theorem c26 : FnIs Tryz.prog 26 L26 := ⟨Tryz.f26, Tryz.func26, of_decide_eq_true (by kernel_rfl), by kernel_rfl⟩
theorem c27 : FnIs Tryz.prog 27 L27 := ⟨Tryz.f27, Tryz.func27, of_decide_eq_true (by kernel_rfl), by kernel_rfl⟩
theorem c32 : FnIs Tryz.prog 32 L32 := ⟨Tryz.f32, Tryz.func32, of_decide_eq_true (by kernel_rfl), by kernel_rfl⟩
theorem c33 : FnIs Tryz.prog 33 L33 := ⟨Tryz.f33, Tryz.func33, of_decide_eq_true (by kernel_rfl), by kernel_rfl⟩
theorem c34 : FnIs Tryz.prog 34 L34 := ⟨Tryz.f34, Tryz.func34, of_decide_eq_true (by kernel_rfl), by kernel_rfl⟩
theorem c35 : FnIs Tryz.prog 35 L35 := ⟨Tryz.f35, Tryz.func35, of_decide_eq_true (by kernel_rfl), by kernel_rfl⟩
theorem c39 : FnIs Tryz.prog 39 L39 := ⟨Tryz.f39, Tryz.func39, of_decide_eq_true (by kernel_rfl), by kernel_rfl⟩
theorem c40 : FnIs Tryz.prog 40 L40 := ⟨Tryz.f40, Tryz.func40, of_decide_eq_true (by kernel_rfl), by kernel_rfl⟩
theorem c41 : FnIs Tryz.prog 41 L41 := ⟨Tryz.f41, Tryz.func41, of_decide_eq_true (by kernel_rfl), by kernel_rfl⟩
theorem c42 : FnIs Tryz.prog 42 L42 := ⟨Tryz.f42, Tryz.func42, of_decide_eq_true (by kernel_rfl), by kernel_rfl⟩
theorem c43 : FnIs Tryz.prog 43 L43 := ⟨Tryz.f43, Tryz.func43, of_decide_eq_true (by kernel_rfl), by kernel_rfl⟩
theorem c44 : FnIs Tryz.prog 44 L44 := ⟨Tryz.f44, Tryz.func44, of_decide_eq_true (by kernel_rfl), by kernel_rfl⟩
theorem c45 : FnIs Tryz.prog 45 L45 := ⟨Tryz.f45, Tryz.func45, of_decide_eq_true (by kernel_rfl), by kernel_rfl⟩
theorem c46 : FnIs Tryz.prog 46 L46 := ⟨Tryz.f46, Tryz.func46, of_decide_eq_true (by kernel_rfl), by kernel_rfl⟩
theorem c47 : FnIs Tryz.prog 47 L47 := ⟨Tryz.f47, Tryz.func47, of_decide_eq_true (by kernel_rfl), by kernel_rfl⟩
theorem c48 : FnIs Tryz.prog 48 L48 := ⟨Tryz.f48, Tryz.func48, of_decide_eq_true (by kernel_rfl), by kernel_rfl⟩
theorem c49 : FnIs Tryz.prog 49 L49 := ⟨Tryz.f49, Tryz.func49, of_decide_eq_true (by kernel_rfl), by kernel_rfl⟩
theorem c50 : FnIs Tryz.prog 50 L50 := ⟨Tryz.f50, Tryz.func50, of_decide_eq_true (by kernel_rfl), by kernel_rfl⟩
theorem c51 : FnIs Tryz.prog 51 L51 := ⟨Tryz.f51, Tryz.func51, of_decide_eq_true (by kernel_rfl), by kernel_rfl⟩
theorem c52 : FnIs Tryz.prog 52 L52 := ⟨Tryz.f52, Tryz.func52, of_decide_eq_true (by kernel_rfl), by kernel_rfl⟩
theorem c53 : FnIs Tryz.prog 53 L53 := ⟨Tryz.f53, Tryz.func53, of_decide_eq_true (by kernel_rfl), by kernel_rfl⟩
theorem c54 : FnIs Tryz.prog 54 L54 := ⟨Tryz.f54, Tryz.func54, of_decide_eq_true (by kernel_rfl), by kernel_rfl⟩
theorem c58 : FnIs Tryz.prog 58 L58 := ⟨Tryz.f58, Tryz.func58, of_decide_eq_true (by kernel_rfl), by kernel_rfl⟩
theorem c59 : FnIs Tryz.prog 59 L59 := ⟨Tryz.f59, Tryz.func59, of_decide_eq_true (by kernel_rfl), by kernel_rfl⟩
theorem c60 : FnIs Tryz.prog 60 L60 := ⟨Tryz.f60, Tryz.func60, of_decide_eq_true (by kernel_rfl), by kernel_rfl⟩
theorem c61 : FnIs Tryz.prog 61 L61 := ⟨Tryz.f61, Tryz.func61, of_decide_eq_true (by kernel_rfl), by kernel_rfl⟩
theorem c62 : FnIs Tryz.prog 62 L62 := ⟨Tryz.f62, Tryz.func62, of_decide_eq_true (by kernel_rfl), by kernel_rfl⟩
theorem c65 : FnIs Tryz.prog 65 L65 := ⟨Tryz.f65, Tryz.func65, of_decide_eq_true (by kernel_rfl), by kernel_rfl⟩
theorem c66 : FnIs Tryz.prog 66 L66 := ⟨Tryz.f66, Tryz.func66, of_decide_eq_true (by kernel_rfl), by kernel_rfl⟩
theorem c67 : FnIs Tryz.prog 67 L67 := ⟨Tryz.f67, Tryz.func67, of_decide_eq_true (by kernel_rfl), by kernel_rfl⟩
theorem c68 : FnIs Tryz.prog 68 L68 := ⟨Tryz.f68, Tryz.func68, of_decide_eq_true (by kernel_rfl), by kernel_rfl⟩
theorem c69 : FnIs Tryz.prog 69 L69 := ⟨Tryz.f69, Tryz.func69, of_decide_eq_true (by kernel_rfl), by kernel_rfl⟩
theorem c70 : FnIs Tryz.prog 70 L70 := ⟨Tryz.f70, Tryz.func70, of_decide_eq_true (by kernel_rfl), by kernel_rfl⟩
theorem c71 : FnIs Tryz.prog 71 L71 := ⟨Tryz.f71, Tryz.func71, of_decide_eq_true (by kernel_rfl), by kernel_rfl⟩
theorem c72 : FnIs Tryz.prog 72 L72 := ⟨Tryz.f72, Tryz.func72, of_decide_eq_true (by kernel_rfl), by kernel_rfl⟩
theorem c73 : FnIs Tryz.prog 73 L73 := ⟨Tryz.f73, Tryz.func73, of_decide_eq_true (by kernel_rfl), by kernel_rfl⟩
theorem c74 : FnIs Tryz.prog 74 L74 := ⟨Tryz.f74, Tryz.func74, of_decide_eq_true (by kernel_rfl), by kernel_rfl⟩
theorem c75 : FnIs Tryz.prog 75 L75 := ⟨Tryz.f75, Tryz.func75, of_decide_eq_true (by kernel_rfl), by kernel_rfl⟩
theorem c76 : FnIs Tryz.prog 76 L76 := ⟨Tryz.f76, Tryz.func76, of_decide_eq_true (by kernel_rfl), by kernel_rfl⟩
theorem c77 : FnIs Tryz.prog 77 L77 := ⟨Tryz.f77, Tryz.func77, of_decide_eq_true (by kernel_rfl), by kernel_rfl⟩
theorem c78 : FnIs Tryz.prog 78 L78 := ⟨Tryz.f78, Tryz.func78, of_decide_eq_true (by kernel_rfl), by kernel_rfl⟩
theorem c79 : FnIs Tryz.prog 79 L79 := ⟨Tryz.f79, Tryz.func79, of_decide_eq_true (by kernel_rfl), by kernel_rfl⟩
theorem c80 : FnIs Tryz.prog 80 L80 := ⟨Tryz.f80, Tryz.func80, of_decide_eq_true (by kernel_rfl), by kernel_rfl⟩
theorem c81 : FnIs Tryz.prog 81 L81 := ⟨Tryz.f81, Tryz.func81, of_decide_eq_true (by kernel_rfl), by kernel_rfl⟩
theorem c82 : FnIs Tryz.prog 82 L82 := ⟨Tryz.f82, Tryz.func82, of_decide_eq_true (by kernel_rfl), by kernel_rfl⟩
theorem c83 : FnIs Tryz.prog 83 L83 := ⟨Tryz.f83, Tryz.func83, of_decide_eq_true (by kernel_rfl), by kernel_rfl⟩
theorem c84 : FnIs Tryz.prog 84 L84 := ⟨Tryz.f84, Tryz.func84, of_decide_eq_true (by kernel_rfl), by kernel_rfl⟩
theorem c85 : FnIs Tryz.prog 85 L85 := ⟨Tryz.f85, Tryz.func85, of_decide_eq_true (by kernel_rfl), by kernel_rfl⟩
theorem c86 : FnIs Tryz.prog 86 L86 := ⟨Tryz.f86, Tryz.func86, of_decide_eq_true (by kernel_rfl), by kernel_rfl⟩
theorem c87 : FnIs Tryz.prog 87 L87 := ⟨Tryz.f87, Tryz.func87, of_decide_eq_true (by kernel_rfl), by kernel_rfl⟩
theorem c88 : FnIs Tryz.prog 88 L88 := ⟨Tryz.f88, Tryz.func88, of_decide_eq_true (by kernel_rfl), by kernel_rfl⟩
theorem c89 : FnIs Tryz.prog 89 L89 := ⟨Tryz.f89, Tryz.func89, of_decide_eq_true (by kernel_rfl), by kernel_rfl⟩
theorem c90 : FnIs Tryz.prog 90 L90 := ⟨Tryz.f90, Tryz.func90, of_decide_eq_true (by kernel_rfl), by kernel_rfl⟩
theorem c91 : FnIs Tryz.prog 91 L91 := ⟨Tryz.f91, Tryz.func91, of_decide_eq_true (by kernel_rfl), by kernel_rfl⟩
theorem c92 : FnIs Tryz.prog 92 L92 := ⟨Tryz.f92, Tryz.func92, of_decide_eq_true (by kernel_rfl), by kernel_rfl⟩
end Go.Proofs.YteoibgeimmaejaaGreat.LN
