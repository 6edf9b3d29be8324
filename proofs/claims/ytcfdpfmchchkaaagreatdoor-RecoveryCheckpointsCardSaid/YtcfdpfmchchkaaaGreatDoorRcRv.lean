/- Chapter 22, plain -/
import Derived.Test.YtcfdpfmchchkaaaGreatDoorWRcUnd
namespace Go.Proofs.YtcfdpfmchchkaaaGreatDoor
set_option maxRecDepth 4000
set_option linter.unusedVariables false
set_option linter.unusedSimpArgs false
open Go.RowKit Go.Sort Go.Shelf
structure Rpt where
 n:Int
 r:Int
 u:Int
 l:Int
end Go.Proofs.YtcfdpfmchchkaaaGreatDoor
