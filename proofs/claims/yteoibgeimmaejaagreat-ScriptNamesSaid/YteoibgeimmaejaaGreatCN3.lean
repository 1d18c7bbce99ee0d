/- THE COMPILED FORMS ARE what the compiler gives: by the kernel. -/
import Derived.Test.YteoibgeimmaejaaGreatTN
import Derived.Test.YteoibgeimmaejaaGreatFd
import Derived.Test.YteoibgeimmaejaaGreatProg
import Derived.KernelRfl
namespace Go.Proofs.YteoibgeimmaejaaGreat.LN
open Go Go.L1 Go.Proofs
set_option maxRecDepth 100000
theorem c232 : FnIs Tryz.prog 232 L232 := ⟨Tryz.f232, Tryz.func232, of_decide_eq_true (by kernel_rfl), by kernel_rfl⟩
theorem c233 : FnIs Tryz.prog 233 L233 := ⟨Tryz.f233, Tryz.func233, of_decide_eq_true (by kernel_rfl), by kernel_rfl⟩
theorem c234 : FnIs Tryz.prog 234 L234 := ⟨Tryz.f234, Tryz.func234, of_decide_eq_true (by kernel_rfl), by kernel_rfl⟩
theorem c235 : FnIs Tryz.prog 235 L235 := ⟨Tryz.f235, Tryz.func235, of_decide_eq_true (by kernel_rfl), by kernel_rfl⟩
theorem c236 : FnIs Tryz.prog 236 L236 := ⟨Tryz.f236, Tryz.func236, of_decide_eq_true (by kernel_rfl), by kernel_rfl⟩
theorem c237 : FnIs Tryz.prog 237 L237 := ⟨Tryz.f237, Tryz.func237, of_decide_eq_true (by kernel_rfl), by kernel_rfl⟩
theorem c238 : FnIs Tryz.prog 238 L238 := ⟨Tryz.f238, Tryz.func238, of_decide_eq_true (by kernel_rfl), by kernel_rfl⟩
theorem c239 : FnIs Tryz.prog 239 L239 := ⟨Tryz.f239, Tryz.func239, of_decide_eq_true (by kernel_rfl), by kernel_rfl⟩
theorem c240 : FnIs Tryz.prog 240 L240 := ⟨Tryz.f240, Tryz.func240, of_decide_eq_true (by kernel_rfl), by kernel_rfl⟩
theorem c241 : FnIs Tryz.prog 241 L241 := ⟨Tryz.f241, Tryz.func241, of_decide_eq_true (by kernel_rfl), by kernel_rfl⟩
theorem c242 : FnIs Tryz.prog 242 L242 := ⟨Tryz.f242, Tryz.func242, of_decide_eq_true (by kernel_rfl), by kernel_rfl⟩
theorem c243 : FnIs Tryz.prog 243 L243 := ⟨Tryz.f243, Tryz.func243, of_decide_eq_true (by kernel_rfl), by kernel_rfl⟩
theorem c244 : FnIs Tryz.prog 244 L244 := ⟨Tryz.f244, Tryz.func244, of_decide_eq_true (by kernel_rfl), by kernel_rfl⟩
theorem c245 : FnIs Tryz.prog 245 L245 := ⟨Tryz.f245, Tryz.func245, of_decide_eq_true (by kernel_rfl), by kernel_rfl⟩
theorem c246 : FnIs Tryz.prog 246 L246 := ⟨Tryz.f246, Tryz.func246, of_decide_eq_true (by kernel_rfl), by kernel_rfl⟩
theorem c247 : FnIs Tryz.prog 247 L247 := ⟨Tryz.f247, Tryz.func247, of_decide_eq_true (by kernel_rfl), by kernel_rfl⟩
theorem c248 : FnIs Tryz.prog 248 L248 := ⟨Tryz.f248, Tryz.func248, of_decide_eq_true (by kernel_rfl), by kernel_rfl⟩
theorem c249 : FnIs Tryz.prog 249 L249 := ⟨Tryz.f249, Tryz.func249, of_decide_eq_true (by kernel_rfl), by kernel_rfl⟩
theorem c250 : FnIs Tryz.prog 250 L250 := ⟨Tryz.f250, Tryz.func250, of_decide_eq_true (by kernel_rfl), by kernel_rfl⟩
theorem c251 : FnIs Tryz.prog 251 L251 := ⟨Tryz.f251, Tryz.func251, of_decide_eq_true (by kernel_rfl), by kernel_rfl⟩
theorem c252 : FnIs Tryz.prog 252 L252 := ⟨Tryz.f252, Tryz.func252, of_decide_eq_true (by kernel_rfl), by kernel_rfl⟩
theorem c253 : FnIs Tryz.prog 253 L253 := ⟨Tryz.f253, Tryz.func253, of_decide_eq_true (by kernel_rfl), by kernel_rfl⟩
theorem c254 : FnIs Tryz.prog 254 L254 := ⟨Tryz.f254, Tryz.func254, of_decide_eq_true (by kernel_rfl), by kernel_rfl⟩
theorem c255 : FnIs Tryz.prog 255 L255 := ⟨Tryz.f255, Tryz.func255, of_decide_eq_true (by kernel_rfl), by kernel_rfl⟩
theorem c256 : FnIs Tryz.prog 256 L256 := ⟨Tryz.f256, Tryz.func256, of_decide_eq_true (by kernel_rfl), by kernel_rfl⟩
theorem c257 : FnIs Tryz.prog 257 L257 := ⟨Tryz.f257, Tryz.func257, of_decide_eq_true (by kernel_rfl), by kernel_rfl⟩
theorem c258 : FnIs Tryz.prog 258 L258 := ⟨Tryz.f258, Tryz.func258, of_decide_eq_true (by kernel_rfl), by kernel_rfl⟩
theorem c259 : FnIs Tryz.prog 259 L259 := ⟨Tryz.f259, Tryz.func259, of_decide_eq_true (by kernel_rfl), by kernel_rfl⟩
theorem c260 : FnIs Tryz.prog 260 L260 := ⟨Tryz.f260, Tryz.func260, of_decide_eq_true (by kernel_rfl), by kernel_rfl⟩
theorem c261 : FnIs Tryz.prog 261 L261 := ⟨Tryz.f261, Tryz.func261, of_decide_eq_true (by kernel_rfl), by kernel_rfl⟩
theorem c262 : FnIs Tryz.prog 262 L262 := ⟨Tryz.f262, Tryz.func262, of_decide_eq_true (by kernel_rfl), by kernel_rfl⟩
theorem c263 : FnIs Tryz.prog 263 L263 := ⟨Tryz.f263, Tryz.func263, of_decide_eq_true (by kernel_rfl), by kernel_rfl⟩
theorem c264 : FnIs Tryz.prog 264 L264 := ⟨Tryz.f264, Tryz.func264, of_decide_eq_true (by kernel_rfl), by kernel_rfl⟩
theorem c265 : FnIs Tryz.prog 265 L265 := ⟨Tryz.f265, Tryz.func265, of_decide_eq_true (by kernel_rfl), by kernel_rfl⟩
theorem c266 : FnIs Tryz.prog 266 L266 := ⟨Tryz.f266, Tryz.func266, of_decide_eq_true (by kernel_rfl), by kernel_rfl⟩
theorem c267 : FnIs Tryz.prog 267 L267 := ⟨Tryz.f267, Tryz.func267, of_decide_eq_true (by kernel_rfl), by kernel_rfl⟩
theorem c268 : FnIs Tryz.prog 268 L268 := ⟨Tryz.f268, Tryz.func268, of_decide_eq_true (by kernel_rfl), by kernel_rfl⟩
theorem c269 : FnIs Tryz.prog 269 L269 := ⟨Tryz.f269, Tryz.func269, of_decide_eq_true (by kernel_rfl), by kernel_rfl⟩
theorem c270 : FnIs Tryz.prog 270 L270 := ⟨Tryz.f270, Tryz.func270, of_decide_eq_true (by kernel_rfl), by kernel_rfl⟩
theorem c271 : FnIs Tryz.prog 271 L271 := ⟨Tryz.f271, Tryz.func271, of_decide_eq_true (by kernel_rfl), by kernel_rfl⟩
theorem c272 : FnIs Tryz.prog 272 L272 := ⟨Tryz.f272, Tryz.func272, of_decide_eq_true (by kernel_rfl), by kernel_rfl⟩
theorem c273 : FnIs Tryz.prog 273 L273 := ⟨Tryz.f273, Tryz.func273, of_decide_eq_true (by kernel_rfl), by kernel_rfl⟩
theorem c274 : FnIs Tryz.prog 274 L274 := ⟨Tryz.f274, Tryz.func274, of_decide_eq_true (by kernel_rfl), by kernel_rfl⟩
theorem c275 : FnIs Tryz.prog 275 L275 := ⟨Tryz.f275, Tryz.func275, of_decide_eq_true (by kernel_rfl), by kernel_rfl⟩
theorem c276 : FnIs Tryz.prog 276 L276 := ⟨Tryz.f276, Tryz.func276, of_decide_eq_true (by kernel_rfl), by kernel_rfl⟩
theorem c277 : FnIs Tryz.prog 277 L277 := ⟨Tryz.f277, Tryz.func277, of_decide_eq_true (by kernel_rfl), by kernel_rfl⟩
theorem c278 : FnIs Tryz.prog 278 L278 := ⟨Tryz.f278, Tryz.func278, of_decide_eq_true (by kernel_rfl), by kernel_rfl⟩
theorem c279 : FnIs Tryz.prog 279 L279 := ⟨Tryz.f279, Tryz.func279, of_decide_eq_true (by kernel_rfl), by kernel_rfl⟩
theorem c280 : FnIs Tryz.prog 280 L280 := ⟨Tryz.f280, Tryz.func280, of_decide_eq_true (by kernel_rfl), by kernel_rfl⟩
theorem c281 : FnIs Tryz.prog 281 L281 := ⟨Tryz.f281, Tryz.func281, of_decide_eq_true (by kernel_rfl), by kernel_rfl⟩
theorem c282 : FnIs Tryz.prog 282 L282 := ⟨Tryz.f282, Tryz.func282, of_decide_eq_true (by kernel_rfl), by kernel_rfl⟩
theorem c283 : FnIs Tryz.prog 283 L283 := ⟨Tryz.f283, Tryz.func283, of_decide_eq_true (by kernel_rfl), by kernel_rfl⟩
theorem c284 : FnIs Tryz.prog 284 L284 := ⟨Tryz.f284, Tryz.func284, of_decide_eq_true (by kernel_rfl), by kernel_rfl⟩
theorem c285 : FnIs Tryz.prog 285 L285 := ⟨Tryz.f285, Tryz.func285, of_decide_eq_true (by kernel_rfl), by kernel_rfl⟩
theorem c286 : FnIs Tryz.prog 286 L286 := ⟨Tryz.f286, Tryz.func286, of_decide_eq_true (by kernel_rfl), by kernel_rfl⟩
theorem c287 : FnIs Tryz.prog 287 L287 := ⟨Tryz.f287, Tryz.func287, of_decide_eq_true (by kernel_rfl), by kernel_rfl⟩
theorem c288 : FnIs Tryz.prog 288 L288 := ⟨Tryz.f288, Tryz.func288, of_decide_eq_true (by kernel_rfl), by kernel_rfl⟩
theorem c289 : FnIs Tryz.prog 289 L289 := ⟨Tryz.f289, Tryz.func289, of_decide_eq_true (by kernel_rfl), by kernel_rfl⟩
theorem c290 : FnIs Tryz.prog 290 L290 := ⟨Tryz.f290, Tryz.func290, of_decide_eq_true (by kernel_rfl), by kernel_rfl⟩
theorem c291 : FnIs Tryz.prog 291 L291 := ⟨Tryz.f291, Tryz.func291, of_decide_eq_true (by kernel_rfl), by kernel_rfl⟩
theorem c292 : FnIs Tryz.prog 292 L292 := ⟨Tryz.f292, Tryz.func292, of_decide_eq_true (by kernel_rfl), by kernel_rfl⟩
theorem c293 : FnIs Tryz.prog 293 L293 := ⟨Tryz.f293, Tryz.func293, of_decide_eq_true (by kernel_rfl), by kernel_rfl⟩
theorem c294 : FnIs Tryz.prog 294 L294 := ⟨Tryz.f294, Tryz.func294, of_decide_eq_true (by kernel_rfl), by kernel_rfl⟩
theorem c295 : FnIs Tryz.prog 295 L295 := ⟨Tryz.f295, Tryz.func295, of_decide_eq_true (by kernel_rfl), by kernel_rfl⟩
theorem c296 : FnIs Tryz.prog 296 L296 := ⟨Tryz.f296, Tryz.func296, of_decide_eq_true (by kernel_rfl), by kernel_rfl⟩
theorem c297 : FnIs Tryz.prog 297 L297 := ⟨Tryz.f297, Tryz.func297, of_decide_eq_true (by kernel_rfl), by kernel_rfl⟩
theorem c298 : FnIs Tryz.prog 298 L298 := ⟨Tryz.f298, Tryz.func298, of_decide_eq_true (by kernel_rfl), by kernel_rfl⟩
end Go.Proofs.YteoibgeimmaejaaGreat.LN
