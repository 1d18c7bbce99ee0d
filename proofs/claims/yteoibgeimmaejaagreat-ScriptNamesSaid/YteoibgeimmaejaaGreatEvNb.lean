/- THE STATEMENT'S FUNCTION, RUN; the chapter's example is known: by the kernel. -/
import Derived.Test.YteoibgeimmaejaaGreatTN
import Derived.Test.YteoibgeimmaejaaGreatFd
namespace Go.Proofs.YteoibgeimmaejaaGreat.LN
open Go Go.L1
def env2 : Env := ⟨tree.get, fun f => cond (Nat.beq f 118) (some add64X) (cond (Nat.beq f 10) (some (knownX 0 [])) none)⟩
set_option maxRecDepth 1000000 in
theorem names_runs : isTrue (callN env2 1000 (.func 3) [] (startH 0 [])) = true := by decide +kernel
end Go.Proofs.YteoibgeimmaejaaGreat.LN
