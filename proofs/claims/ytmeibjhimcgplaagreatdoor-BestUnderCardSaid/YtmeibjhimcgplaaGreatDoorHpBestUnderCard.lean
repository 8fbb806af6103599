/- BestUnder: the tied card of 'horariumlaw40.BestUnder' holds: whatever ask and number come in, Under answers the ask that the document says, and the arguments read as before. -/
import Derived.Test.YtmeibjhimcgplaaGreatDoorHpBestUnder
import Derived.Test.YtmeibjhimcgplaaGreatDoorHpP2
set_option linter.all false
namespace Go.Proofs.YtmeibjhimcgplaaGreatDoor
open Go Hp Hp.T
theorem bestUnder_holds : Rows.BestUnderCardSaid := bestUnder_card (bestUnder_row fun enc => bestUnder_run copy_ok enc)
end Go.Proofs.YtmeibjhimcgplaaGreatDoor
