/- A first run, in the kernel. -/
import Derived.Test.YtdhpjdhloaoepaaGreatPw14
namespace Go.Proofs.YtdhpjdhloaoepaaGreat
set_option maxRecDepth 1000000
theorem wak_1 : wakB = true := by decide +kernel
end Go.Proofs.YtdhpjdhloaoepaaGreat
