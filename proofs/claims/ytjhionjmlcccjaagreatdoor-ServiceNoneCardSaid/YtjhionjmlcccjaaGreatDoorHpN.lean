/- Heaps, and calls that are known. -/
import Derived.Test.YtjhionjmlcccjaaGreatDoorHoN
namespace Go.Proofs.YtjhionjmlcccjaaGreatDoor.Ev
open Go Go.Proofs
end Go.Proofs.YtjhionjmlcccjaaGreatDoor.Ev
