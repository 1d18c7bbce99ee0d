/- THE COMPILED FORMS ARE what the compiler gives: by the kernel. -/
import Derived.Test.YtjkdnmjmnlphkaaGreatTN
import Derived.Test.YtjkdnmjmnlphkaaGreatFd
import Derived.Test.YtjkdnmjmnlphkaaGreatProg
import Derived.KernelRfl
namespace Go.Proofs.YtjkdnmjmnlphkaaGreat.LN
open Go Go.L1 Go.Proofs
set_option maxRecDepth 100000
theorem c73 : FnIs Tryz.prog 73 L73 := ⟨Tryz.f73, Tryz.func73, of_decide_eq_true (by kernel_rfl), by kernel_rfl⟩
theorem c74 : FnIs Tryz.prog 74 L74 := ⟨Tryz.f74, Tryz.func74, of_decide_eq_true (by kernel_rfl), by kernel_rfl⟩
theorem c75 : FnIs Tryz.prog 75 L75 := ⟨Tryz.f75, Tryz.func75, of_decide_eq_true (by kernel_rfl), by kernel_rfl⟩
theorem c76 : FnIs Tryz.prog 76 L76 := ⟨Tryz.f76, Tryz.func76, of_decide_eq_true (by kernel_rfl), by kernel_rfl⟩
theorem c77 : FnIs Tryz.prog 77 L77 := ⟨Tryz.f77, Tryz.func77, of_decide_eq_true (by kernel_rfl), by kernel_rfl⟩
theorem c78 : FnIs Tryz.prog 78 L78 := ⟨Tryz.f78, Tryz.func78, of_decide_eq_true (by kernel_rfl), by kernel_rfl⟩
theorem c79 : FnIs Tryz.prog 79 L79 := ⟨Tryz.f79, Tryz.func79, of_decide_eq_true (by kernel_rfl), by kernel_rfl⟩
theorem c80 : FnIs Tryz.prog 80 L80 := ⟨Tryz.f80, Tryz.func80, of_decide_eq_true (by kernel_rfl), by kernel_rfl⟩
theorem c81 : FnIs Tryz.prog 81 L81 := ⟨Tryz.f81, Tryz.func81, of_decide_eq_true (by kernel_rfl), by kernel_rfl⟩
theorem c85 : FnIs Tryz.prog 85 L85 := ⟨Tryz.f85, Tryz.func85, of_decide_eq_true (by kernel_rfl), by kernel_rfl⟩
theorem c86 : FnIs Tryz.prog 86 L86 := ⟨Tryz.f86, Tryz.func86, of_decide_eq_true (by kernel_rfl), by kernel_rfl⟩
theorem c87 : FnIs Tryz.prog 87 L87 := ⟨Tryz.f87, Tryz.func87, of_decide_eq_true (by kernel_rfl), by kernel_rfl⟩
theorem c88 : FnIs Tryz.prog 88 L88 := ⟨Tryz.f88, Tryz.func88, of_decide_eq_true (by kernel_rfl), by kernel_rfl⟩
theorem c89 : FnIs Tryz.prog 89 L89 := ⟨Tryz.f89, Tryz.func89, of_decide_eq_true (by kernel_rfl), by kernel_rfl⟩
theorem c90 : FnIs Tryz.prog 90 L90 := ⟨Tryz.f90, Tryz.func90, of_decide_eq_true (by kernel_rfl), by kernel_rfl⟩
theorem c91 : FnIs Tryz.prog 91 L91 := ⟨Tryz.f91, Tryz.func91, of_decide_eq_true (by kernel_rfl), by kernel_rfl⟩
theorem c92 : FnIs Tryz.prog 92 L92 := ⟨Tryz.f92, Tryz.func92, of_decide_eq_true (by kernel_rfl), by kernel_rfl⟩
theorem c108 : FnIs Tryz.prog 108 L108 := ⟨Tryz.f108, Tryz.func108, of_decide_eq_true (by kernel_rfl), by kernel_rfl⟩
theorem c109 : FnIs Tryz.prog 109 L109 := ⟨Tryz.f109, Tryz.func109, of_decide_eq_true (by kernel_rfl), by kernel_rfl⟩
theorem c110 : FnIs Tryz.prog 110 L110 := ⟨Tryz.f110, Tryz.func110, of_decide_eq_true (by kernel_rfl), by kernel_rfl⟩
theorem c111 : FnIs Tryz.prog 111 L111 := ⟨Tryz.f111, Tryz.func111, of_decide_eq_true (by kernel_rfl), by kernel_rfl⟩
theorem c112 : FnIs Tryz.prog 112 L112 := ⟨Tryz.f112, Tryz.func112, of_decide_eq_true (by kernel_rfl), by kernel_rfl⟩
theorem c113 : FnIs Tryz.prog 113 L113 := ⟨Tryz.f113, Tryz.func113, of_decide_eq_true (by kernel_rfl), by kernel_rfl⟩
theorem c114 : FnIs Tryz.prog 114 L114 := ⟨Tryz.f114, Tryz.func114, of_decide_eq_true (by kernel_rfl), by kernel_rfl⟩
theorem c115 : FnIs Tryz.prog 115 L115 := ⟨Tryz.f115, Tryz.func115, of_decide_eq_true (by kernel_rfl), by kernel_rfl⟩
theorem c116 : FnIs Tryz.prog 116 L116 := ⟨Tryz.f116, Tryz.func116, of_decide_eq_true (by kernel_rfl), by kernel_rfl⟩
theorem c117 : FnIs Tryz.prog 117 L117 := ⟨Tryz.f117, Tryz.func117, of_decide_eq_true (by kernel_rfl), by kernel_rfl⟩
theorem c118 : FnIs Tryz.prog 118 L118 := ⟨Tryz.f118, Tryz.func118, of_decide_eq_true (by kernel_rfl), by kernel_rfl⟩
theorem c119 : FnIs Tryz.prog 119 L119 := ⟨Tryz.f119, Tryz.func119, of_decide_eq_true (by kernel_rfl), by kernel_rfl⟩
theorem c120 : FnIs Tryz.prog 120 L120 := ⟨Tryz.f120, Tryz.func120, of_decide_eq_true (by kernel_rfl), by kernel_rfl⟩
theorem c121 : FnIs Tryz.prog 121 L121 := ⟨Tryz.f121, Tryz.func121, of_decide_eq_true (by kernel_rfl), by kernel_rfl⟩
theorem c122 : FnIs Tryz.prog 122 L122 := ⟨Tryz.f122, Tryz.func122, of_decide_eq_true (by kernel_rfl), by kernel_rfl⟩
theorem c123 : FnIs Tryz.prog 123 L123 := ⟨Tryz.f123, Tryz.func123, of_decide_eq_true (by kernel_rfl), by kernel_rfl⟩
theorem c124 : FnIs Tryz.prog 124 L124 := ⟨Tryz.f124, Tryz.func124, of_decide_eq_true (by kernel_rfl), by kernel_rfl⟩
theorem c125 : FnIs Tryz.prog 125 L125 := ⟨Tryz.f125, Tryz.func125, of_decide_eq_true (by kernel_rfl), by kernel_rfl⟩
theorem c126 : FnIs Tryz.prog 126 L126 := ⟨Tryz.f126, Tryz.func126, of_decide_eq_true (by kernel_rfl), by kernel_rfl⟩
end Go.Proofs.YtjkdnmjmnlphkaaGreat.LN
