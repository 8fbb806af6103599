/- The laws' heads, run by the kernel. -/
import Derived.Test.YtmeibjhimcgplaaGreatDoorHpE
set_option linter.all false
set_option maxRecDepth 1000000
namespace Hp.T
open Go Hp
theorem heads40_runs : isTrue (callN (E1 30) 30 f_law40_heads [] .e 0) = true := by decide +kernel
theorem heads40_ok : Iso E2 f_law40_heads [] (.bool true) := Iso_true heads40_runs
end Hp.T
