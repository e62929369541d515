/- Runs of window 2, in the kernel. -/
import Derived.Test.YtdhpjdhloaoepaaGreatPw14
namespace Go.Proofs.YtdhpjdhloaoepaaGreat
set_option maxRecDepth 1000000
theorem win_2_1 : winB 2 1 = true := by decide +kernel
theorem win_2_2 : winB 2 2 = true := by decide +kernel
theorem win_2_3 : winB 2 3 = true := by decide +kernel
theorem win_2_4 : winB 2 4 = true := by decide +kernel
theorem win_2_5 : winB 2 5 = true := by decide +kernel
theorem win_2_6 : winB 2 6 = true := by decide +kernel
theorem win_2_7 : winB 2 7 = true := by decide +kernel
theorem win_2_8 : winB 2 8 = true := by decide +kernel
end Go.Proofs.YtdhpjdhloaoepaaGreat
