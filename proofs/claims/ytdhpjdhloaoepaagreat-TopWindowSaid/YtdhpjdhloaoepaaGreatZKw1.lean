/- Runs of window 1, in the kernel. -/
import Derived.Test.YtdhpjdhloaoepaaGreatPw14
namespace Go.Proofs.YtdhpjdhloaoepaaGreat
set_option maxRecDepth 1000000
theorem win_1_1 : winB 1 1 = true := by decide +kernel
theorem win_1_2 : winB 1 2 = true := by decide +kernel
theorem win_1_3 : winB 1 3 = true := by decide +kernel
theorem win_1_4 : winB 1 4 = true := by decide +kernel
theorem win_1_5 : winB 1 5 = true := by decide +kernel
theorem win_1_6 : winB 1 6 = true := by decide +kernel
theorem win_1_7 : winB 1 7 = true := by decide +kernel
theorem win_1_8 : winB 1 8 = true := by decide +kernel
end Go.Proofs.YtdhpjdhloaoepaaGreat
