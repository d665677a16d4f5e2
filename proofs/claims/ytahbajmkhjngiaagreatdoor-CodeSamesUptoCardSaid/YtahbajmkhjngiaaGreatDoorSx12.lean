/-
  Dates: isLeap, monthDays, yearsDays, Days, Val, Unstamp. Dates: Days.
-/
import Derived.Test.YtahbajmkhjngiaaGreatDoorSx07
import Derived.Deep.LoopGhost
set_option linter.all false
set_option maxRecDepth 100000
set_option maxHeartbeats 8000000
namespace Go.Proofs.YtahbajmkhjngiaaGreatDoor
open Go.Proofs.Tryz
open Go.RowKit
end Go.Proofs.YtahbajmkhjngiaaGreatDoor
