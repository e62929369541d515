/- Runs of window 3, in the kernel. -/
import Derived.Test.YtdhpjdhloaoepaaGreatPw14
namespace Go.Proofs.YtdhpjdhloaoepaaGreat
set_option maxRecDepth 1000000
theorem win_3_1 : winB 3 1 = true := by decide +kernel
theorem win_3_2 : winB 3 2 = true := by decide +kernel
theorem win_3_3 : winB 3 3 = true := by decide +kernel
theorem win_3_4 : winB 3 4 = true := by decide +kernel
theorem win_3_5 : winB 3 5 = true := by decide +kernel
theorem win_3_6 : winB 3 6 = true := by decide +kernel
theorem win_3_7 : winB 3 7 = true := by decide +kernel
theorem win_3_8 : winB 3 8 = true := by decide +kernel
end Go.Proofs.YtdhpjdhloaoepaaGreat
