/- THE CHAPTER'S EXAMPLE, RUN: by the kernel. -/
import Derived.Test.YteoibgeimmaejaaGreatTN
import Derived.Test.YteoibgeimmaejaaGreatFd
namespace Go.Proofs.YteoibgeimmaejaaGreat.LN
open Go Go.L1
def env1 : Env := ⟨tree.get, fun f => cond (Nat.beq f 118) (some add64X) none⟩
set_option maxRecDepth 1000000 in
theorem alive_runs : isTrue (callN env1 1000 (.func 10) [] (startH 0 [])) = true := by decide +kernel
end Go.Proofs.YteoibgeimmaejaaGreat.LN
