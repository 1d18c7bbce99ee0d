/- THE COMPILED FORMS ARE what the compiler gives: by the kernel. -/
import Derived.Test.YtjkdnmjmnlphkaaGreatTN
import Derived.Test.YtjkdnmjmnlphkaaGreatFd
import Derived.Test.YtjkdnmjmnlphkaaGreatProg
import Derived.KernelRfl
namespace Go.Proofs.YtjkdnmjmnlphkaaGreat.LN
open Go Go.L1 Go.Proofs
set_option maxRecDepth 100000
theorem c127 : FnIs Tryz.prog 127 L127 := ⟨Tryz.f127, Tryz.func127, of_decide_eq_true (by kernel_rfl), by kernel_rfl⟩
theorem c128 : FnIs Tryz.prog 128 L128 := ⟨Tryz.f128, Tryz.func128, of_decide_eq_true (by kernel_rfl), by kernel_rfl⟩
theorem c129 : FnIs Tryz.prog 129 L129 := ⟨Tryz.f129, Tryz.func129, of_decide_eq_true (by kernel_rfl), by kernel_rfl⟩
theorem c130 : FnIs Tryz.prog 130 L130 := ⟨Tryz.f130, Tryz.func130, of_decide_eq_true (by kernel_rfl), by kernel_rfl⟩
theorem c131 : FnIs Tryz.prog 131 L131 := ⟨Tryz.f131, Tryz.func131, of_decide_eq_true (by kernel_rfl), by kernel_rfl⟩
theorem c132 : FnIs Tryz.prog 132 L132 := ⟨Tryz.f132, Tryz.func132, of_decide_eq_true (by kernel_rfl), by kernel_rfl⟩
theorem c133 : FnIs Tryz.prog 133 L133 := ⟨Tryz.f133, Tryz.func133, of_decide_eq_true (by kernel_rfl), by kernel_rfl⟩
theorem c134 : FnIs Tryz.prog 134 L134 := ⟨Tryz.f134, Tryz.func134, of_decide_eq_true (by kernel_rfl), by kernel_rfl⟩
theorem c135 : FnIs Tryz.prog 135 L135 := ⟨Tryz.f135, Tryz.func135, of_decide_eq_true (by kernel_rfl), by kernel_rfl⟩
theorem c136 : FnIs Tryz.prog 136 L136 := ⟨Tryz.f136, Tryz.func136, of_decide_eq_true (by kernel_rfl), by kernel_rfl⟩
theorem c137 : FnIs Tryz.prog 137 L137 := ⟨Tryz.f137, Tryz.func137, of_decide_eq_true (by kernel_rfl), by kernel_rfl⟩
theorem c138 : FnIs Tryz.prog 138 L138 := ⟨Tryz.f138, Tryz.func138, of_decide_eq_true (by kernel_rfl), by kernel_rfl⟩
theorem c152 : FnIs Tryz.prog 152 L152 := ⟨Tryz.f152, Tryz.func152, of_decide_eq_true (by kernel_rfl), by kernel_rfl⟩
theorem c153 : FnIs Tryz.prog 153 L153 := ⟨Tryz.f153, Tryz.func153, of_decide_eq_true (by kernel_rfl), by kernel_rfl⟩
theorem c154 : FnIs Tryz.prog 154 L154 := ⟨Tryz.f154, Tryz.func154, of_decide_eq_true (by kernel_rfl), by kernel_rfl⟩
theorem c155 : FnIs Tryz.prog 155 L155 := ⟨Tryz.f155, Tryz.func155, of_decide_eq_true (by kernel_rfl), by kernel_rfl⟩
theorem c156 : FnIs Tryz.prog 156 L156 := ⟨Tryz.f156, Tryz.func156, of_decide_eq_true (by kernel_rfl), by kernel_rfl⟩
theorem c157 : FnIs Tryz.prog 157 L157 := ⟨Tryz.f157, Tryz.func157, of_decide_eq_true (by kernel_rfl), by kernel_rfl⟩
theorem c158 : FnIs Tryz.prog 158 L158 := ⟨Tryz.f158, Tryz.func158, of_decide_eq_true (by kernel_rfl), by kernel_rfl⟩
theorem c159 : FnIs Tryz.prog 159 L159 := ⟨Tryz.f159, Tryz.func159, of_decide_eq_true (by kernel_rfl), by kernel_rfl⟩
theorem c160 : FnIs Tryz.prog 160 L160 := ⟨Tryz.f160, Tryz.func160, of_decide_eq_true (by kernel_rfl), by kernel_rfl⟩
theorem c161 : FnIs Tryz.prog 161 L161 := ⟨Tryz.f161, Tryz.func161, of_decide_eq_true (by kernel_rfl), by kernel_rfl⟩
theorem c162 : FnIs Tryz.prog 162 L162 := ⟨Tryz.f162, Tryz.func162, of_decide_eq_true (by kernel_rfl), by kernel_rfl⟩
theorem c163 : FnIs Tryz.prog 163 L163 := ⟨Tryz.f163, Tryz.func163, of_decide_eq_true (by kernel_rfl), by kernel_rfl⟩
theorem c164 : FnIs Tryz.prog 164 L164 := ⟨Tryz.f164, Tryz.func164, of_decide_eq_true (by kernel_rfl), by kernel_rfl⟩
theorem c165 : FnIs Tryz.prog 165 L165 := ⟨Tryz.f165, Tryz.func165, of_decide_eq_true (by kernel_rfl), by kernel_rfl⟩
theorem c166 : FnIs Tryz.prog 166 L166 := ⟨Tryz.f166, Tryz.func166, of_decide_eq_true (by kernel_rfl), by kernel_rfl⟩
theorem c167 : FnIs Tryz.prog 167 L167 := ⟨Tryz.f167, Tryz.func167, of_decide_eq_true (by kernel_rfl), by kernel_rfl⟩
theorem c168 : FnIs Tryz.prog 168 L168 := ⟨Tryz.f168, Tryz.func168, of_decide_eq_true (by kernel_rfl), by kernel_rfl⟩
theorem c169 : FnIs Tryz.prog 169 L169 := ⟨Tryz.f169, Tryz.func169, of_decide_eq_true (by kernel_rfl), by kernel_rfl⟩
theorem c170 : FnIs Tryz.prog 170 L170 := ⟨Tryz.f170, Tryz.func170, of_decide_eq_true (by kernel_rfl), by kernel_rfl⟩
theorem c171 : FnIs Tryz.prog 171 L171 := ⟨Tryz.f171, Tryz.func171, of_decide_eq_true (by kernel_rfl), by kernel_rfl⟩
theorem c172 : FnIs Tryz.prog 172 L172 := ⟨Tryz.f172, Tryz.func172, of_decide_eq_true (by kernel_rfl), by kernel_rfl⟩
theorem c173 : FnIs Tryz.prog 173 L173 := ⟨Tryz.f173, Tryz.func173, of_decide_eq_true (by kernel_rfl), by kernel_rfl⟩
theorem c174 : FnIs Tryz.prog 174 L174 := ⟨Tryz.f174, Tryz.func174, of_decide_eq_true (by kernel_rfl), by kernel_rfl⟩
theorem c175 : FnIs Tryz.prog 175 L175 := ⟨Tryz.f175, Tryz.func175, of_decide_eq_true (by kernel_rfl), by kernel_rfl⟩
end Go.Proofs.YtjkdnmjmnlphkaaGreat.LN
