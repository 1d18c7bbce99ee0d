/- THE COMPILED FORMS ARE what the compiler gives: by the kernel. -/
import Derived.Test.YteoibgeimmaejaaGreatTN
import Derived.Test.YteoibgeimmaejaaGreatFd
import Derived.Test.YteoibgeimmaejaaGreatProg
import Derived.KernelRfl
namespace Go.Proofs.YteoibgeimmaejaaGreat.LN
open Go Go.L1 Go.Proofs
set_option maxRecDepth 100000
theorem c93 : FnIs Tryz.prog 93 L93 := ⟨Tryz.f93, Tryz.func93, of_decide_eq_true (by kernel_rfl), by kernel_rfl⟩
theorem c94 : FnIs Tryz.prog 94 L94 := ⟨Tryz.f94, Tryz.func94, of_decide_eq_true (by kernel_rfl), by kernel_rfl⟩
theorem c95 : FnIs Tryz.prog 95 L95 := ⟨Tryz.f95, Tryz.func95, of_decide_eq_true (by kernel_rfl), by kernel_rfl⟩
theorem c96 : FnIs Tryz.prog 96 L96 := ⟨Tryz.f96, Tryz.func96, of_decide_eq_true (by kernel_rfl), by kernel_rfl⟩
theorem c97 : FnIs Tryz.prog 97 L97 := ⟨Tryz.f97, Tryz.func97, of_decide_eq_true (by kernel_rfl), by kernel_rfl⟩
theorem c98 : FnIs Tryz.prog 98 L98 := ⟨Tryz.f98, Tryz.func98, of_decide_eq_true (by kernel_rfl), by kernel_rfl⟩
theorem c99 : FnIs Tryz.prog 99 L99 := ⟨Tryz.f99, Tryz.func99, of_decide_eq_true (by kernel_rfl), by kernel_rfl⟩
theorem c100 : FnIs Tryz.prog 100 L100 := ⟨Tryz.f100, Tryz.func100, of_decide_eq_true (by kernel_rfl), by kernel_rfl⟩
theorem c101 : FnIs Tryz.prog 101 L101 := ⟨Tryz.f101, Tryz.func101, of_decide_eq_true (by kernel_rfl), by kernel_rfl⟩
theorem c102 : FnIs Tryz.prog 102 L102 := ⟨Tryz.f102, Tryz.func102, of_decide_eq_true (by kernel_rfl), by kernel_rfl⟩
theorem c103 : FnIs Tryz.prog 103 L103 := ⟨Tryz.f103, Tryz.func103, of_decide_eq_true (by kernel_rfl), by kernel_rfl⟩
theorem c104 : FnIs Tryz.prog 104 L104 := ⟨Tryz.f104, Tryz.func104, of_decide_eq_true (by kernel_rfl), by kernel_rfl⟩
theorem c105 : FnIs Tryz.prog 105 L105 := ⟨Tryz.f105, Tryz.func105, of_decide_eq_true (by kernel_rfl), by kernel_rfl⟩
theorem c106 : FnIs Tryz.prog 106 L106 := ⟨Tryz.f106, Tryz.func106, of_decide_eq_true (by kernel_rfl), by kernel_rfl⟩
theorem c107 : FnIs Tryz.prog 107 L107 := ⟨Tryz.f107, Tryz.func107, of_decide_eq_true (by kernel_rfl), by kernel_rfl⟩
theorem c108 : FnIs Tryz.prog 108 L108 := ⟨Tryz.f108, Tryz.func108, of_decide_eq_true (by kernel_rfl), by kernel_rfl⟩
theorem c109 : FnIs Tryz.prog 109 L109 := ⟨Tryz.f109, Tryz.func109, of_decide_eq_true (by kernel_rfl), by kernel_rfl⟩
theorem c110 : FnIs Tryz.prog 110 L110 := ⟨Tryz.f110, Tryz.func110, of_decide_eq_true (by kernel_rfl), by kernel_rfl⟩
theorem c111 : FnIs Tryz.prog 111 L111 := ⟨Tryz.f111, Tryz.func111, of_decide_eq_true (by kernel_rfl), by kernel_rfl⟩
theorem c112 : FnIs Tryz.prog 112 L112 := ⟨Tryz.f112, Tryz.func112, of_decide_eq_true (by kernel_rfl), by kernel_rfl⟩
theorem c113 : FnIs Tryz.prog 113 L113 := ⟨Tryz.f113, Tryz.func113, of_decide_eq_true (by kernel_rfl), by kernel_rfl⟩
theorem c114 : FnIs Tryz.prog 114 L114 := ⟨Tryz.f114, Tryz.func114, of_decide_eq_true (by kernel_rfl), by kernel_rfl⟩
theorem c115 : FnIs Tryz.prog 115 L115 := ⟨Tryz.f115, Tryz.func115, of_decide_eq_true (by kernel_rfl), by kernel_rfl⟩
theorem c116 : FnIs Tryz.prog 116 L116 := ⟨Tryz.f116, Tryz.func116, of_decide_eq_true (by kernel_rfl), by kernel_rfl⟩
theorem c117 : FnIs Tryz.prog 117 L117 := ⟨Tryz.f117, Tryz.func117, of_decide_eq_true (by kernel_rfl), by kernel_rfl⟩
theorem c119 : FnIs Tryz.prog 119 L119 := ⟨Tryz.f119, Tryz.func119, of_decide_eq_true (by kernel_rfl), by kernel_rfl⟩
theorem c120 : FnIs Tryz.prog 120 L120 := ⟨Tryz.f120, Tryz.func120, of_decide_eq_true (by kernel_rfl), by kernel_rfl⟩
theorem c121 : FnIs Tryz.prog 121 L121 := ⟨Tryz.f121, Tryz.func121, of_decide_eq_true (by kernel_rfl), by kernel_rfl⟩
theorem c122 : FnIs Tryz.prog 122 L122 := ⟨Tryz.f122, Tryz.func122, of_decide_eq_true (by kernel_rfl), by kernel_rfl⟩
theorem c123 : FnIs Tryz.prog 123 L123 := ⟨Tryz.f123, Tryz.func123, of_decide_eq_true (by kernel_rfl), by kernel_rfl⟩
theorem c124 : FnIs Tryz.prog 124 L124 := ⟨Tryz.f124, Tryz.func124, of_decide_eq_true (by kernel_rfl), by kernel_rfl⟩
theorem c125 : FnIs Tryz.prog 125 L125 := ⟨Tryz.f125, Tryz.func125, of_decide_eq_true (by kernel_rfl), by kernel_rfl⟩
theorem c126 : FnIs Tryz.prog 126 L126 := ⟨Tryz.f126, Tryz.func126, of_decide_eq_true (by kernel_rfl), by kernel_rfl⟩
theorem c127 : FnIs Tryz.prog 127 L127 := ⟨Tryz.f127, Tryz.func127, of_decide_eq_true (by kernel_rfl), by kernel_rfl⟩
theorem c128 : FnIs Tryz.prog 128 L128 := ⟨Tryz.f128, Tryz.func128, of_decide_eq_true (by kernel_rfl), by kernel_rfl⟩
theorem c129 : FnIs Tryz.prog 129 L129 := ⟨Tryz.f129, Tryz.func129, of_decide_eq_true (by kernel_rfl), by kernel_rfl⟩
theorem c130 : FnIs Tryz.prog 130 L130 := ⟨Tryz.f130, Tryz.func130, of_decide_eq_true (by kernel_rfl), by kernel_rfl⟩
theorem c131 : FnIs Tryz.prog 131 L131 := ⟨Tryz.f131, Tryz.func131, of_decide_eq_true (by kernel_rfl), by kernel_rfl⟩
theorem c132 : FnIs Tryz.prog 132 L132 := ⟨Tryz.f132, Tryz.func132, of_decide_eq_true (by kernel_rfl), by kernel_rfl⟩
theorem c133 : FnIs Tryz.prog 133 L133 := ⟨Tryz.f133, Tryz.func133, of_decide_eq_true (by kernel_rfl), by kernel_rfl⟩
theorem c134 : FnIs Tryz.prog 134 L134 := ⟨Tryz.f134, Tryz.func134, of_decide_eq_true (by kernel_rfl), by kernel_rfl⟩
theorem c135 : FnIs Tryz.prog 135 L135 := ⟨Tryz.f135, Tryz.func135, of_decide_eq_true (by kernel_rfl), by kernel_rfl⟩
theorem c136 : FnIs Tryz.prog 136 L136 := ⟨Tryz.f136, Tryz.func136, of_decide_eq_true (by kernel_rfl), by kernel_rfl⟩
theorem c137 : FnIs Tryz.prog 137 L137 := ⟨Tryz.f137, Tryz.func137, of_decide_eq_true (by kernel_rfl), by kernel_rfl⟩
theorem c138 : FnIs Tryz.prog 138 L138 := ⟨Tryz.f138, Tryz.func138, of_decide_eq_true (by kernel_rfl), by kernel_rfl⟩
theorem c139 : FnIs Tryz.prog 139 L139 := ⟨Tryz.f139, Tryz.func139, of_decide_eq_true (by kernel_rfl), by kernel_rfl⟩
theorem c140 : FnIs Tryz.prog 140 L140 := ⟨Tryz.f140, Tryz.func140, of_decide_eq_true (by kernel_rfl), by kernel_rfl⟩
theorem c141 : FnIs Tryz.prog 141 L141 := ⟨Tryz.f141, Tryz.func141, of_decide_eq_true (by kernel_rfl), by kernel_rfl⟩
theorem c142 : FnIs Tryz.prog 142 L142 := ⟨Tryz.f142, Tryz.func142, of_decide_eq_true (by kernel_rfl), by kernel_rfl⟩
theorem c143 : FnIs Tryz.prog 143 L143 := ⟨Tryz.f143, Tryz.func143, of_decide_eq_true (by kernel_rfl), by kernel_rfl⟩
theorem c144 : FnIs Tryz.prog 144 L144 := ⟨Tryz.f144, Tryz.func144, of_decide_eq_true (by kernel_rfl), by kernel_rfl⟩
theorem c145 : FnIs Tryz.prog 145 L145 := ⟨Tryz.f145, Tryz.func145, of_decide_eq_true (by kernel_rfl), by kernel_rfl⟩
theorem c146 : FnIs Tryz.prog 146 L146 := ⟨Tryz.f146, Tryz.func146, of_decide_eq_true (by kernel_rfl), by kernel_rfl⟩
theorem c147 : FnIs Tryz.prog 147 L147 := ⟨Tryz.f147, Tryz.func147, of_decide_eq_true (by kernel_rfl), by kernel_rfl⟩
theorem c148 : FnIs Tryz.prog 148 L148 := ⟨Tryz.f148, Tryz.func148, of_decide_eq_true (by kernel_rfl), by kernel_rfl⟩
theorem c149 : FnIs Tryz.prog 149 L149 := ⟨Tryz.f149, Tryz.func149, of_decide_eq_true (by kernel_rfl), by kernel_rfl⟩
theorem c150 : FnIs Tryz.prog 150 L150 := ⟨Tryz.f150, Tryz.func150, of_decide_eq_true (by kernel_rfl), by kernel_rfl⟩
theorem c151 : FnIs Tryz.prog 151 L151 := ⟨Tryz.f151, Tryz.func151, of_decide_eq_true (by kernel_rfl), by kernel_rfl⟩
theorem c152 : FnIs Tryz.prog 152 L152 := ⟨Tryz.f152, Tryz.func152, of_decide_eq_true (by kernel_rfl), by kernel_rfl⟩
theorem c153 : FnIs Tryz.prog 153 L153 := ⟨Tryz.f153, Tryz.func153, of_decide_eq_true (by kernel_rfl), by kernel_rfl⟩
theorem c154 : FnIs Tryz.prog 154 L154 := ⟨Tryz.f154, Tryz.func154, of_decide_eq_true (by kernel_rfl), by kernel_rfl⟩
theorem c155 : FnIs Tryz.prog 155 L155 := ⟨Tryz.f155, Tryz.func155, of_decide_eq_true (by kernel_rfl), by kernel_rfl⟩
theorem c156 : FnIs Tryz.prog 156 L156 := ⟨Tryz.f156, Tryz.func156, of_decide_eq_true (by kernel_rfl), by kernel_rfl⟩
theorem c157 : FnIs Tryz.prog 157 L157 := ⟨Tryz.f157, Tryz.func157, of_decide_eq_true (by kernel_rfl), by kernel_rfl⟩
theorem c158 : FnIs Tryz.prog 158 L158 := ⟨Tryz.f158, Tryz.func158, of_decide_eq_true (by kernel_rfl), by kernel_rfl⟩
theorem c159 : FnIs Tryz.prog 159 L159 := ⟨Tryz.f159, Tryz.func159, of_decide_eq_true (by kernel_rfl), by kernel_rfl⟩
theorem c160 : FnIs Tryz.prog 160 L160 := ⟨Tryz.f160, Tryz.func160, of_decide_eq_true (by kernel_rfl), by kernel_rfl⟩
theorem c161 : FnIs Tryz.prog 161 L161 := ⟨Tryz.f161, Tryz.func161, of_decide_eq_true (by kernel_rfl), by kernel_rfl⟩
theorem c162 : FnIs Tryz.prog 162 L162 := ⟨Tryz.f162, Tryz.func162, of_decide_eq_true (by kernel_rfl), by kernel_rfl⟩
end Go.Proofs.YteoibgeimmaejaaGreat.LN
