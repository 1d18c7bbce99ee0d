/- THE COMPILED FORMS ARE what the compiler gives: by the kernel. -/
import Derived.Test.YtjkdnmjmnlphkaaGreatTN
import Derived.Test.YtjkdnmjmnlphkaaGreatFd
import Derived.Test.YtjkdnmjmnlphkaaGreatProg
import Derived.KernelRfl
namespace Go.Proofs.YtjkdnmjmnlphkaaGreat.LN
open Go Go.L1 Go.Proofs
set_option maxRecDepth 100000
theorem c176 : FnIs Tryz.prog 176 L176 := ⟨Tryz.f176, Tryz.func176, of_decide_eq_true (by kernel_rfl), by kernel_rfl⟩
theorem c177 : FnIs Tryz.prog 177 L177 := ⟨Tryz.f177, Tryz.func177, of_decide_eq_true (by kernel_rfl), by kernel_rfl⟩
theorem c178 : FnIs Tryz.prog 178 L178 := ⟨Tryz.f178, Tryz.func178, of_decide_eq_true (by kernel_rfl), by kernel_rfl⟩
theorem c179 : FnIs Tryz.prog 179 L179 := ⟨Tryz.f179, Tryz.func179, of_decide_eq_true (by kernel_rfl), by kernel_rfl⟩
theorem c185 : FnIs Tryz.prog 185 L185 := ⟨Tryz.f185, Tryz.func185, of_decide_eq_true (by kernel_rfl), by kernel_rfl⟩
theorem c186 : FnIs Tryz.prog 186 L186 := ⟨Tryz.f186, Tryz.func186, of_decide_eq_true (by kernel_rfl), by kernel_rfl⟩
theorem c187 : FnIs Tryz.prog 187 L187 := ⟨Tryz.f187, Tryz.func187, of_decide_eq_true (by kernel_rfl), by kernel_rfl⟩
theorem c188 : FnIs Tryz.prog 188 L188 := ⟨Tryz.f188, Tryz.func188, of_decide_eq_true (by kernel_rfl), by kernel_rfl⟩
theorem c189 : FnIs Tryz.prog 189 L189 := ⟨Tryz.f189, Tryz.func189, of_decide_eq_true (by kernel_rfl), by kernel_rfl⟩
theorem c190 : FnIs Tryz.prog 190 L190 := ⟨Tryz.f190, Tryz.func190, of_decide_eq_true (by kernel_rfl), by kernel_rfl⟩
theorem c191 : FnIs Tryz.prog 191 L191 := ⟨Tryz.f191, Tryz.func191, of_decide_eq_true (by kernel_rfl), by kernel_rfl⟩
theorem c192 : FnIs Tryz.prog 192 L192 := ⟨Tryz.f192, Tryz.func192, of_decide_eq_true (by kernel_rfl), by kernel_rfl⟩
theorem c193 : FnIs Tryz.prog 193 L193 := ⟨Tryz.f193, Tryz.func193, of_decide_eq_true (by kernel_rfl), by kernel_rfl⟩
theorem c194 : FnIs Tryz.prog 194 L194 := ⟨Tryz.f194, Tryz.func194, of_decide_eq_true (by kernel_rfl), by kernel_rfl⟩
theorem c195 : FnIs Tryz.prog 195 L195 := ⟨Tryz.f195, Tryz.func195, of_decide_eq_true (by kernel_rfl), by kernel_rfl⟩
theorem c196 : FnIs Tryz.prog 196 L196 := ⟨Tryz.f196, Tryz.func196, of_decide_eq_true (by kernel_rfl), by kernel_rfl⟩
theorem c197 : FnIs Tryz.prog 197 L197 := ⟨Tryz.f197, Tryz.func197, of_decide_eq_true (by kernel_rfl), by kernel_rfl⟩
theorem c198 : FnIs Tryz.prog 198 L198 := ⟨Tryz.f198, Tryz.func198, of_decide_eq_true (by kernel_rfl), by kernel_rfl⟩
theorem c199 : FnIs Tryz.prog 199 L199 := ⟨Tryz.f199, Tryz.func199, of_decide_eq_true (by kernel_rfl), by kernel_rfl⟩
theorem c200 : FnIs Tryz.prog 200 L200 := ⟨Tryz.f200, Tryz.func200, of_decide_eq_true (by kernel_rfl), by kernel_rfl⟩
theorem c201 : FnIs Tryz.prog 201 L201 := ⟨Tryz.f201, Tryz.func201, of_decide_eq_true (by kernel_rfl), by kernel_rfl⟩
theorem c202 : FnIs Tryz.prog 202 L202 := ⟨Tryz.f202, Tryz.func202, of_decide_eq_true (by kernel_rfl), by kernel_rfl⟩
theorem c203 : FnIs Tryz.prog 203 L203 := ⟨Tryz.f203, Tryz.func203, of_decide_eq_true (by kernel_rfl), by kernel_rfl⟩
theorem c204 : FnIs Tryz.prog 204 L204 := ⟨Tryz.f204, Tryz.func204, of_decide_eq_true (by kernel_rfl), by kernel_rfl⟩
theorem c205 : FnIs Tryz.prog 205 L205 := ⟨Tryz.f205, Tryz.func205, of_decide_eq_true (by kernel_rfl), by kernel_rfl⟩
theorem c208 : FnIs Tryz.prog 208 L208 := ⟨Tryz.f208, Tryz.func208, of_decide_eq_true (by kernel_rfl), by kernel_rfl⟩
theorem c209 : FnIs Tryz.prog 209 L209 := ⟨Tryz.f209, Tryz.func209, of_decide_eq_true (by kernel_rfl), by kernel_rfl⟩
theorem c210 : FnIs Tryz.prog 210 L210 := ⟨Tryz.f210, Tryz.func210, of_decide_eq_true (by kernel_rfl), by kernel_rfl⟩
theorem c211 : FnIs Tryz.prog 211 L211 := ⟨Tryz.f211, Tryz.func211, of_decide_eq_true (by kernel_rfl), by kernel_rfl⟩
theorem c212 : FnIs Tryz.prog 212 L212 := ⟨Tryz.f212, Tryz.func212, of_decide_eq_true (by kernel_rfl), by kernel_rfl⟩
theorem c213 : FnIs Tryz.prog 213 L213 := ⟨Tryz.f213, Tryz.func213, of_decide_eq_true (by kernel_rfl), by kernel_rfl⟩
theorem c214 : FnIs Tryz.prog 214 L214 := ⟨Tryz.f214, Tryz.func214, of_decide_eq_true (by kernel_rfl), by kernel_rfl⟩
theorem c215 : FnIs Tryz.prog 215 L215 := ⟨Tryz.f215, Tryz.func215, of_decide_eq_true (by kernel_rfl), by kernel_rfl⟩
end Go.Proofs.YtjkdnmjmnlphkaaGreat.LN
