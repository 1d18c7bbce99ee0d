/- THE COMPILED FORMS ARE what the compiler gives: by the kernel. -/
import Derived.Test.YtomdpjbnddfkpaaGreatTN
import Derived.Test.YtomdpjbnddfkpaaGreatFd
import Derived.Test.YtomdpjbnddfkpaaGreatProg
import Derived.KernelRfl
namespace Go.Proofs.YtomdpjbnddfkpaaGreat.LN
open Go Go.L1 Go.Proofs
set_option maxRecDepth 100000
theorem c211 : FnIs Tryz.prog 211 L211 := ⟨Tryz.f211, Tryz.func211, of_decide_eq_true (by kernel_rfl), by kernel_rfl⟩
theorem c212 : FnIs Tryz.prog 212 L212 := ⟨Tryz.f212, Tryz.func212, of_decide_eq_true (by kernel_rfl), by kernel_rfl⟩
theorem c213 : FnIs Tryz.prog 213 L213 := ⟨Tryz.f213, Tryz.func213, of_decide_eq_true (by kernel_rfl), by kernel_rfl⟩
theorem c214 : FnIs Tryz.prog 214 L214 := ⟨Tryz.f214, Tryz.func214, of_decide_eq_true (by kernel_rfl), by kernel_rfl⟩
theorem c215 : FnIs Tryz.prog 215 L215 := ⟨Tryz.f215, Tryz.func215, of_decide_eq_true (by kernel_rfl), by kernel_rfl⟩
theorem c216 : FnIs Tryz.prog 216 L216 := ⟨Tryz.f216, Tryz.func216, of_decide_eq_true (by kernel_rfl), by kernel_rfl⟩
theorem c217 : FnIs Tryz.prog 217 L217 := ⟨Tryz.f217, Tryz.func217, of_decide_eq_true (by kernel_rfl), by kernel_rfl⟩
theorem c218 : FnIs Tryz.prog 218 L218 := ⟨Tryz.f218, Tryz.func218, of_decide_eq_true (by kernel_rfl), by kernel_rfl⟩
theorem c219 : FnIs Tryz.prog 219 L219 := ⟨Tryz.f219, Tryz.func219, of_decide_eq_true (by kernel_rfl), by kernel_rfl⟩
theorem c220 : FnIs Tryz.prog 220 L220 := ⟨Tryz.f220, Tryz.func220, of_decide_eq_true (by kernel_rfl), by kernel_rfl⟩
theorem c221 : FnIs Tryz.prog 221 L221 := ⟨Tryz.f221, Tryz.func221, of_decide_eq_true (by kernel_rfl), by kernel_rfl⟩
theorem c222 : FnIs Tryz.prog 222 L222 := ⟨Tryz.f222, Tryz.func222, of_decide_eq_true (by kernel_rfl), by kernel_rfl⟩
theorem c223 : FnIs Tryz.prog 223 L223 := ⟨Tryz.f223, Tryz.func223, of_decide_eq_true (by kernel_rfl), by kernel_rfl⟩
theorem c224 : FnIs Tryz.prog 224 L224 := ⟨Tryz.f224, Tryz.func224, of_decide_eq_true (by kernel_rfl), by kernel_rfl⟩
theorem c225 : FnIs Tryz.prog 225 L225 := ⟨Tryz.f225, Tryz.func225, of_decide_eq_true (by kernel_rfl), by kernel_rfl⟩
theorem c226 : FnIs Tryz.prog 226 L226 := ⟨Tryz.f226, Tryz.func226, of_decide_eq_true (by kernel_rfl), by kernel_rfl⟩
theorem c227 : FnIs Tryz.prog 227 L227 := ⟨Tryz.f227, Tryz.func227, of_decide_eq_true (by kernel_rfl), by kernel_rfl⟩
theorem c228 : FnIs Tryz.prog 228 L228 := ⟨Tryz.f228, Tryz.func228, of_decide_eq_true (by kernel_rfl), by kernel_rfl⟩
theorem c229 : FnIs Tryz.prog 229 L229 := ⟨Tryz.f229, Tryz.func229, of_decide_eq_true (by kernel_rfl), by kernel_rfl⟩
theorem c230 : FnIs Tryz.prog 230 L230 := ⟨Tryz.f230, Tryz.func230, of_decide_eq_true (by kernel_rfl), by kernel_rfl⟩
theorem c231 : FnIs Tryz.prog 231 L231 := ⟨Tryz.f231, Tryz.func231, of_decide_eq_true (by kernel_rfl), by kernel_rfl⟩
theorem c232 : FnIs Tryz.prog 232 L232 := ⟨Tryz.f232, Tryz.func232, of_decide_eq_true (by kernel_rfl), by kernel_rfl⟩
theorem c233 : FnIs Tryz.prog 233 L233 := ⟨Tryz.f233, Tryz.func233, of_decide_eq_true (by kernel_rfl), by kernel_rfl⟩
theorem c234 : FnIs Tryz.prog 234 L234 := ⟨Tryz.f234, Tryz.func234, of_decide_eq_true (by kernel_rfl), by kernel_rfl⟩
theorem c235 : FnIs Tryz.prog 235 L235 := ⟨Tryz.f235, Tryz.func235, of_decide_eq_true (by kernel_rfl), by kernel_rfl⟩
theorem c236 : FnIs Tryz.prog 236 L236 := ⟨Tryz.f236, Tryz.func236, of_decide_eq_true (by kernel_rfl), by kernel_rfl⟩
theorem c237 : FnIs Tryz.prog 237 L237 := ⟨Tryz.f237, Tryz.func237, of_decide_eq_true (by kernel_rfl), by kernel_rfl⟩
theorem c238 : FnIs Tryz.prog 238 L238 := ⟨Tryz.f238, Tryz.func238, of_decide_eq_true (by kernel_rfl), by kernel_rfl⟩
theorem c239 : FnIs Tryz.prog 239 L239 := ⟨Tryz.f239, Tryz.func239, of_decide_eq_true (by kernel_rfl), by kernel_rfl⟩
theorem c240 : FnIs Tryz.prog 240 L240 := ⟨Tryz.f240, Tryz.func240, of_decide_eq_true (by kernel_rfl), by kernel_rfl⟩
theorem c241 : FnIs Tryz.prog 241 L241 := ⟨Tryz.f241, Tryz.func241, of_decide_eq_true (by kernel_rfl), by kernel_rfl⟩
theorem c242 : FnIs Tryz.prog 242 L242 := ⟨Tryz.f242, Tryz.func242, of_decide_eq_true (by kernel_rfl), by kernel_rfl⟩
theorem c243 : FnIs Tryz.prog 243 L243 := ⟨Tryz.f243, Tryz.func243, of_decide_eq_true (by kernel_rfl), by kernel_rfl⟩
theorem c244 : FnIs Tryz.prog 244 L244 := ⟨Tryz.f244, Tryz.func244, of_decide_eq_true (by kernel_rfl), by kernel_rfl⟩
theorem c245 : FnIs Tryz.prog 245 L245 := ⟨Tryz.f245, Tryz.func245, of_decide_eq_true (by kernel_rfl), by kernel_rfl⟩
theorem c246 : FnIs Tryz.prog 246 L246 := ⟨Tryz.f246, Tryz.func246, of_decide_eq_true (by kernel_rfl), by kernel_rfl⟩
theorem c247 : FnIs Tryz.prog 247 L247 := ⟨Tryz.f247, Tryz.func247, of_decide_eq_true (by kernel_rfl), by kernel_rfl⟩
theorem c248 : FnIs Tryz.prog 248 L248 := ⟨Tryz.f248, Tryz.func248, of_decide_eq_true (by kernel_rfl), by kernel_rfl⟩
theorem c249 : FnIs Tryz.prog 249 L249 := ⟨Tryz.f249, Tryz.func249, of_decide_eq_true (by kernel_rfl), by kernel_rfl⟩
theorem c250 : FnIs Tryz.prog 250 L250 := ⟨Tryz.f250, Tryz.func250, of_decide_eq_true (by kernel_rfl), by kernel_rfl⟩
theorem c251 : FnIs Tryz.prog 251 L251 := ⟨Tryz.f251, Tryz.func251, of_decide_eq_true (by kernel_rfl), by kernel_rfl⟩
theorem c252 : FnIs Tryz.prog 252 L252 := ⟨Tryz.f252, Tryz.func252, of_decide_eq_true (by kernel_rfl), by kernel_rfl⟩
theorem c253 : FnIs Tryz.prog 253 L253 := ⟨Tryz.f253, Tryz.func253, of_decide_eq_true (by kernel_rfl), by kernel_rfl⟩
theorem c254 : FnIs Tryz.prog 254 L254 := ⟨Tryz.f254, Tryz.func254, of_decide_eq_true (by kernel_rfl), by kernel_rfl⟩
theorem c255 : FnIs Tryz.prog 255 L255 := ⟨Tryz.f255, Tryz.func255, of_decide_eq_true (by kernel_rfl), by kernel_rfl⟩
theorem c256 : FnIs Tryz.prog 256 L256 := ⟨Tryz.f256, Tryz.func256, of_decide_eq_true (by kernel_rfl), by kernel_rfl⟩
theorem c257 : FnIs Tryz.prog 257 L257 := ⟨Tryz.f257, Tryz.func257, of_decide_eq_true (by kernel_rfl), by kernel_rfl⟩
theorem c258 : FnIs Tryz.prog 258 L258 := ⟨Tryz.f258, Tryz.func258, of_decide_eq_true (by kernel_rfl), by kernel_rfl⟩
theorem c259 : FnIs Tryz.prog 259 L259 := ⟨Tryz.f259, Tryz.func259, of_decide_eq_true (by kernel_rfl), by kernel_rfl⟩
theorem c260 : FnIs Tryz.prog 260 L260 := ⟨Tryz.f260, Tryz.func260, of_decide_eq_true (by kernel_rfl), by kernel_rfl⟩
theorem c261 : FnIs Tryz.prog 261 L261 := ⟨Tryz.f261, Tryz.func261, of_decide_eq_true (by kernel_rfl), by kernel_rfl⟩
theorem c262 : FnIs Tryz.prog 262 L262 := ⟨Tryz.f262, Tryz.func262, of_decide_eq_true (by kernel_rfl), by kernel_rfl⟩
theorem c263 : FnIs Tryz.prog 263 L263 := ⟨Tryz.f263, Tryz.func263, of_decide_eq_true (by kernel_rfl), by kernel_rfl⟩
theorem c264 : FnIs Tryz.prog 264 L264 := ⟨Tryz.f264, Tryz.func264, of_decide_eq_true (by kernel_rfl), by kernel_rfl⟩
theorem c265 : FnIs Tryz.prog 265 L265 := ⟨Tryz.f265, Tryz.func265, of_decide_eq_true (by kernel_rfl), by kernel_rfl⟩
theorem c266 : FnIs Tryz.prog 266 L266 := ⟨Tryz.f266, Tryz.func266, of_decide_eq_true (by kernel_rfl), by kernel_rfl⟩
theorem c267 : FnIs Tryz.prog 267 L267 := ⟨Tryz.f267, Tryz.func267, of_decide_eq_true (by kernel_rfl), by kernel_rfl⟩
theorem c268 : FnIs Tryz.prog 268 L268 := ⟨Tryz.f268, Tryz.func268, of_decide_eq_true (by kernel_rfl), by kernel_rfl⟩
theorem c269 : FnIs Tryz.prog 269 L269 := ⟨Tryz.f269, Tryz.func269, of_decide_eq_true (by kernel_rfl), by kernel_rfl⟩
theorem c270 : FnIs Tryz.prog 270 L270 := ⟨Tryz.f270, Tryz.func270, of_decide_eq_true (by kernel_rfl), by kernel_rfl⟩
end Go.Proofs.YtomdpjbnddfkpaaGreat.LN
