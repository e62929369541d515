/- Runs of window 4, in the kernel. -/
import Derived.Test.YtdhpjdhloaoepaaGreatPw14
namespace Go.Proofs.YtdhpjdhloaoepaaGreat
set_option maxRecDepth 1000000
theorem win_4_1 : winB 4 1 = true := by decide +kernel
theorem win_4_2 : winB 4 2 = true := by decide +kernel
theorem win_4_3 : winB 4 3 = true := by decide +kernel
theorem win_4_4 : winB 4 4 = true := by decide +kernel
theorem win_4_5 : winB 4 5 = true := by decide +kernel
theorem win_4_6 : winB 4 6 = true := by decide +kernel
theorem win_4_7 : winB 4 7 = true := by decide +kernel
theorem win_4_8 : winB 4 8 = true := by decide +kernel
end Go.Proofs.YtdhpjdhloaoepaaGreat
