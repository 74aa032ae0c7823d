import Derived.Test.YtdkeadfhejkidaaT
import Derived.Test.YtdkeadfhejkidaaSE4
import Derived.KernelRfl
namespace Go.Proofs.Ytdkeadfhejkidaa
open Go.SE
end Go.Proofs.Ytdkeadfhejkidaa
