/- THE COMPILED FORMS ARE what the compiler gives: by the kernel. -/
import Derived.Test.YteoibgeimmaejaaGreatTN
import Derived.Test.YteoibgeimmaejaaGreatFd
import Derived.Test.YteoibgeimmaejaaGreatProg
import Derived.KernelRfl
namespace Go.Proofs.YteoibgeimmaejaaGreat.LN
open Go Go.L1 Go.Proofs
set_option maxRecDepth 100000
theorem c163 : FnIs Tryz.prog 163 L163 := ⟨Tryz.f163, Tryz.func163, of_decide_eq_true (by kernel_rfl), by kernel_rfl⟩
theorem c164 : FnIs Tryz.prog 164 L164 := ⟨Tryz.f164, Tryz.func164, of_decide_eq_true (by kernel_rfl), by kernel_rfl⟩
theorem c165 : FnIs Tryz.prog 165 L165 := ⟨Tryz.f165, Tryz.func165, of_decide_eq_true (by kernel_rfl), by kernel_rfl⟩
theorem c166 : FnIs Tryz.prog 166 L166 := ⟨Tryz.f166, Tryz.func166, of_decide_eq_true (by kernel_rfl), by kernel_rfl⟩
theorem c167 : FnIs Tryz.prog 167 L167 := ⟨Tryz.f167, Tryz.func167, of_decide_eq_true (by kernel_rfl), by kernel_rfl⟩
theorem c168 : FnIs Tryz.prog 168 L168 := ⟨Tryz.f168, Tryz.func168, of_decide_eq_true (by kernel_rfl), by kernel_rfl⟩
theorem c169 : FnIs Tryz.prog 169 L169 := ⟨Tryz.f169, Tryz.func169, of_decide_eq_true (by kernel_rfl), by kernel_rfl⟩
theorem c170 : FnIs Tryz.prog 170 L170 := ⟨Tryz.f170, Tryz.func170, of_decide_eq_true (by kernel_rfl), by kernel_rfl⟩
theorem c171 : FnIs Tryz.prog 171 L171 := ⟨Tryz.f171, Tryz.func171, of_decide_eq_true (by kernel_rfl), by kernel_rfl⟩
theorem c172 : FnIs Tryz.prog 172 L172 := ⟨Tryz.f172, Tryz.func172, of_decide_eq_true (by kernel_rfl), by kernel_rfl⟩
theorem c173 : FnIs Tryz.prog 173 L173 := ⟨Tryz.f173, Tryz.func173, of_decide_eq_true (by kernel_rfl), by kernel_rfl⟩
theorem c174 : FnIs Tryz.prog 174 L174 := ⟨Tryz.f174, Tryz.func174, of_decide_eq_true (by kernel_rfl), by kernel_rfl⟩
theorem c175 : FnIs Tryz.prog 175 L175 := ⟨Tryz.f175, Tryz.func175, of_decide_eq_true (by kernel_rfl), by kernel_rfl⟩
theorem c176 : FnIs Tryz.prog 176 L176 := ⟨Tryz.f176, Tryz.func176, of_decide_eq_true (by kernel_rfl), by kernel_rfl⟩
theorem c177 : FnIs Tryz.prog 177 L177 := ⟨Tryz.f177, Tryz.func177, of_decide_eq_true (by kernel_rfl), by kernel_rfl⟩
theorem c178 : FnIs Tryz.prog 178 L178 := ⟨Tryz.f178, Tryz.func178, of_decide_eq_true (by kernel_rfl), by kernel_rfl⟩
theorem c179 : FnIs Tryz.prog 179 L179 := ⟨Tryz.f179, Tryz.func179, of_decide_eq_true (by kernel_rfl), by kernel_rfl⟩
theorem c180 : FnIs Tryz.prog 180 L180 := ⟨Tryz.f180, Tryz.func180, of_decide_eq_true (by kernel_rfl), by kernel_rfl⟩
theorem c181 : FnIs Tryz.prog 181 L181 := ⟨Tryz.f181, Tryz.func181, of_decide_eq_true (by kernel_rfl), by kernel_rfl⟩
theorem c182 : FnIs Tryz.prog 182 L182 := ⟨Tryz.f182, Tryz.func182, of_decide_eq_true (by kernel_rfl), by kernel_rfl⟩
theorem c183 : FnIs Tryz.prog 183 L183 := ⟨Tryz.f183, Tryz.func183, of_decide_eq_true (by kernel_rfl), by kernel_rfl⟩
theorem c184 : FnIs Tryz.prog 184 L184 := ⟨Tryz.f184, Tryz.func184, of_decide_eq_true (by kernel_rfl), by kernel_rfl⟩
theorem c185 : FnIs Tryz.prog 185 L185 := ⟨Tryz.f185, Tryz.func185, of_decide_eq_true (by kernel_rfl), by kernel_rfl⟩
theorem c186 : FnIs Tryz.prog 186 L186 := ⟨Tryz.f186, Tryz.func186, of_decide_eq_true (by kernel_rfl), by kernel_rfl⟩
theorem c187 : FnIs Tryz.prog 187 L187 := ⟨Tryz.f187, Tryz.func187, of_decide_eq_true (by kernel_rfl), by kernel_rfl⟩
theorem c188 : FnIs Tryz.prog 188 L188 := ⟨Tryz.f188, Tryz.func188, of_decide_eq_true (by kernel_rfl), by kernel_rfl⟩
theorem c189 : FnIs Tryz.prog 189 L189 := ⟨Tryz.f189, Tryz.func189, of_decide_eq_true (by kernel_rfl), by kernel_rfl⟩
theorem c190 : FnIs Tryz.prog 190 L190 := ⟨Tryz.f190, Tryz.func190, of_decide_eq_true (by kernel_rfl), by kernel_rfl⟩
theorem c191 : FnIs Tryz.prog 191 L191 := ⟨Tryz.f191, Tryz.func191, of_decide_eq_true (by kernel_rfl), by kernel_rfl⟩
theorem c192 : FnIs Tryz.prog 192 L192 := ⟨Tryz.f192, Tryz.func192, of_decide_eq_true (by kernel_rfl), by kernel_rfl⟩
theorem c193 : FnIs Tryz.prog 193 L193 := ⟨Tryz.f193, Tryz.func193, of_decide_eq_true (by kernel_rfl), by kernel_rfl⟩
theorem c194 : FnIs Tryz.prog 194 L194 := ⟨Tryz.f194, Tryz.func194, of_decide_eq_true (by kernel_rfl), by kernel_rfl⟩
theorem c195 : FnIs Tryz.prog 195 L195 := ⟨Tryz.f195, Tryz.func195, of_decide_eq_true (by kernel_rfl), by kernel_rfl⟩
theorem c196 : FnIs Tryz.prog 196 L196 := ⟨Tryz.f196, Tryz.func196, of_decide_eq_true (by kernel_rfl), by kernel_rfl⟩
theorem c197 : FnIs Tryz.prog 197 L197 := ⟨Tryz.f197, Tryz.func197, of_decide_eq_true (by kernel_rfl), by kernel_rfl⟩
theorem c198 : FnIs Tryz.prog 198 L198 := ⟨Tryz.f198, Tryz.func198, of_decide_eq_true (by kernel_rfl), by kernel_rfl⟩
theorem c199 : FnIs Tryz.prog 199 L199 := ⟨Tryz.f199, Tryz.func199, of_decide_eq_true (by kernel_rfl), by kernel_rfl⟩
theorem c200 : FnIs Tryz.prog 200 L200 := ⟨Tryz.f200, Tryz.func200, of_decide_eq_true (by kernel_rfl), by kernel_rfl⟩
theorem c201 : FnIs Tryz.prog 201 L201 := ⟨Tryz.f201, Tryz.func201, of_decide_eq_true (by kernel_rfl), by kernel_rfl⟩
theorem c202 : FnIs Tryz.prog 202 L202 := ⟨Tryz.f202, Tryz.func202, of_decide_eq_true (by kernel_rfl), by kernel_rfl⟩
theorem c203 : FnIs Tryz.prog 203 L203 := ⟨Tryz.f203, Tryz.func203, of_decide_eq_true (by kernel_rfl), by kernel_rfl⟩
theorem c204 : FnIs Tryz.prog 204 L204 := ⟨Tryz.f204, Tryz.func204, of_decide_eq_true (by kernel_rfl), by kernel_rfl⟩
theorem c205 : FnIs Tryz.prog 205 L205 := ⟨Tryz.f205, Tryz.func205, of_decide_eq_true (by kernel_rfl), by kernel_rfl⟩
theorem c206 : FnIs Tryz.prog 206 L206 := ⟨Tryz.f206, Tryz.func206, of_decide_eq_true (by kernel_rfl), by kernel_rfl⟩
theorem c207 : FnIs Tryz.prog 207 L207 := ⟨Tryz.f207, Tryz.func207, of_decide_eq_true (by kernel_rfl), by kernel_rfl⟩
theorem c208 : FnIs Tryz.prog 208 L208 := ⟨Tryz.f208, Tryz.func208, of_decide_eq_true (by kernel_rfl), by kernel_rfl⟩
theorem c209 : FnIs Tryz.prog 209 L209 := ⟨Tryz.f209, Tryz.func209, of_decide_eq_true (by kernel_rfl), by kernel_rfl⟩
theorem c210 : FnIs Tryz.prog 210 L210 := ⟨Tryz.f210, Tryz.func210, of_decide_eq_true (by kernel_rfl), by kernel_rfl⟩
theorem c211 : FnIs Tryz.prog 211 L211 := ⟨Tryz.f211, Tryz.func211, of_decide_eq_true (by kernel_rfl), by kernel_rfl⟩
theorem c212 : FnIs Tryz.prog 212 L212 := ⟨Tryz.f212, Tryz.func212, of_decide_eq_true (by kernel_rfl), by kernel_rfl⟩
theorem c213 : FnIs Tryz.prog 213 L213 := ⟨Tryz.f213, Tryz.func213, of_decide_eq_true (by kernel_rfl), by kernel_rfl⟩
theorem c214 : FnIs Tryz.prog 214 L214 := ⟨Tryz.f214, Tryz.func214, of_decide_eq_true (by kernel_rfl), by kernel_rfl⟩
theorem c215 : FnIs Tryz.prog 215 L215 := ⟨Tryz.f215, Tryz.func215, of_decide_eq_true (by kernel_rfl), by kernel_rfl⟩
theorem c216 : FnIs Tryz.prog 216 L216 := ⟨Tryz.f216, Tryz.func216, of_decide_eq_true (by kernel_rfl), by kernel_rfl⟩
theorem c217 : FnIs Tryz.prog 217 L217 := ⟨Tryz.f217, Tryz.func217, of_decide_eq_true (by kernel_rfl), by kernel_rfl⟩
theorem c218 : FnIs Tryz.prog 218 L218 := ⟨Tryz.f218, Tryz.func218, of_decide_eq_true (by kernel_rfl), by kernel_rfl⟩
theorem c219 : FnIs Tryz.prog 219 L219 := ⟨Tryz.f219, Tryz.func219, of_decide_eq_true (by kernel_rfl), by kernel_rfl⟩
theorem c220 : FnIs Tryz.prog 220 L220 := ⟨Tryz.f220, Tryz.func220, of_decide_eq_true (by kernel_rfl), by kernel_rfl⟩
theorem c221 : FnIs Tryz.prog 221 L221 := ⟨Tryz.f221, Tryz.func221, of_decide_eq_true (by kernel_rfl), by kernel_rfl⟩
theorem c222 : FnIs Tryz.prog 222 L222 := ⟨Tryz.f222, Tryz.func222, of_decide_eq_true (by kernel_rfl), by kernel_rfl⟩
theorem c223 : FnIs Tryz.prog 223 L223 := ⟨Tryz.f223, Tryz.func223, of_decide_eq_true (by kernel_rfl), by kernel_rfl⟩
theorem c224 : FnIs Tryz.prog 224 L224 := ⟨Tryz.f224, Tryz.func224, of_decide_eq_true (by kernel_rfl), by kernel_rfl⟩
theorem c225 : FnIs Tryz.prog 225 L225 := ⟨Tryz.f225, Tryz.func225, of_decide_eq_true (by kernel_rfl), by kernel_rfl⟩
theorem c226 : FnIs Tryz.prog 226 L226 := ⟨Tryz.f226, Tryz.func226, of_decide_eq_true (by kernel_rfl), by kernel_rfl⟩
theorem c227 : FnIs Tryz.prog 227 L227 := ⟨Tryz.f227, Tryz.func227, of_decide_eq_true (by kernel_rfl), by kernel_rfl⟩
theorem c228 : FnIs Tryz.prog 228 L228 := ⟨Tryz.f228, Tryz.func228, of_decide_eq_true (by kernel_rfl), by kernel_rfl⟩
theorem c229 : FnIs Tryz.prog 229 L229 := ⟨Tryz.f229, Tryz.func229, of_decide_eq_true (by kernel_rfl), by kernel_rfl⟩
theorem c230 : FnIs Tryz.prog 230 L230 := ⟨Tryz.f230, Tryz.func230, of_decide_eq_true (by kernel_rfl), by kernel_rfl⟩
theorem c231 : FnIs Tryz.prog 231 L231 := ⟨Tryz.f231, Tryz.func231, of_decide_eq_true (by kernel_rfl), by kernel_rfl⟩
end Go.Proofs.YteoibgeimmaejaaGreat.LN
