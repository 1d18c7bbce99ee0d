/- THE TREE HOLDS the program's functions. -/
import Derived.Test.YtjkdnmjmnlphkaaGreatCN0
import Derived.Test.YtjkdnmjmnlphkaaGreatCN1
import Derived.Test.YtjkdnmjmnlphkaaGreatCN2
import Derived.Test.YtjkdnmjmnlphkaaGreatCN3
namespace Go.Proofs.YtjkdnmjmnlphkaaGreat.LN
open Go Go.L1 Go.Proofs
theorem tree_ok : tree.all (FnIs Tryz.prog) := ⟨⟨⟨⟨⟨⟨⟨c3, c7⟩, ⟨c8, c9⟩⟩, ⟨⟨c10, c11⟩, ⟨c12, c14⟩⟩⟩, ⟨⟨⟨c15, c27⟩, ⟨c30, c32⟩⟩, ⟨⟨c33, c34⟩, ⟨c35, ⟨c36, c37⟩⟩⟩⟩⟩, ⟨⟨⟨⟨c38, c39⟩, ⟨c40, c41⟩⟩, ⟨⟨c42, c43⟩, ⟨c46, ⟨c47, c48⟩⟩⟩⟩, ⟨⟨⟨c49, c50⟩, ⟨c60, c61⟩⟩, ⟨⟨c67, c68⟩, ⟨c69, ⟨c70, c71⟩⟩⟩⟩⟩⟩, ⟨⟨⟨⟨⟨c72, c73⟩, ⟨c74, c75⟩⟩, ⟨⟨c76, c77⟩, ⟨c78, c79⟩⟩⟩, ⟨⟨⟨c80, c81⟩, ⟨c85, c86⟩⟩, ⟨⟨c87, c88⟩, ⟨c89, ⟨c90, c91⟩⟩⟩⟩⟩, ⟨⟨⟨⟨c92, c108⟩, ⟨c109, c110⟩⟩, ⟨⟨c111, c112⟩, ⟨c113, ⟨c114, c115⟩⟩⟩⟩, ⟨⟨⟨c116, c117⟩, ⟨c118, c119⟩⟩, ⟨⟨c120, c121⟩, ⟨c122, ⟨c123, c124⟩⟩⟩⟩⟩⟩⟩, ⟨⟨⟨⟨⟨⟨c125, c126⟩, ⟨c127, c128⟩⟩, ⟨⟨c129, c130⟩, ⟨c131, c132⟩⟩⟩, ⟨⟨⟨c133, c134⟩, ⟨c135, c136⟩⟩, ⟨⟨c137, c138⟩, ⟨c152, ⟨c153, c154⟩⟩⟩⟩⟩, ⟨⟨⟨⟨c155, c156⟩, ⟨c157, c158⟩⟩, ⟨⟨c159, c160⟩, ⟨c161, ⟨c162, c163⟩⟩⟩⟩, ⟨⟨⟨c164, c165⟩, ⟨c166, c167⟩⟩, ⟨⟨c168, c169⟩, ⟨c170, ⟨c171, c172⟩⟩⟩⟩⟩⟩, ⟨⟨⟨⟨⟨c173, c174⟩, ⟨c175, c176⟩⟩, ⟨⟨c177, c178⟩, ⟨c179, ⟨c185, c186⟩⟩⟩⟩, ⟨⟨⟨c187, c188⟩, ⟨c189, c190⟩⟩, ⟨⟨c191, c192⟩, ⟨c193, ⟨c194, c195⟩⟩⟩⟩⟩, ⟨⟨⟨⟨c196, c197⟩, ⟨c198, c199⟩⟩, ⟨⟨c200, c201⟩, ⟨c202, ⟨c203, c204⟩⟩⟩⟩, ⟨⟨⟨c205, c208⟩, ⟨c209, c210⟩⟩, ⟨⟨c211, c212⟩, ⟨c213, ⟨c214, c215⟩⟩⟩⟩⟩⟩⟩⟩
theorem mixed : Tryz.prog.follows .mixedOrders = true := by kernel_rfl
end Go.Proofs.YtjkdnmjmnlphkaaGreat.LN
