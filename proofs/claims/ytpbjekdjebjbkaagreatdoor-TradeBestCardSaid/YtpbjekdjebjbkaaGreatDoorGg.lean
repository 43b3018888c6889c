import Derived.Test.YtpbjekdjebjbkaaGreatDoorFm
import Derived.Lib.AppendZeros
set_option linter.unusedSimpArgs false
set_option linter.unusedVariables false
namespace Go.Proofs.YtpbjekdjebjbkaaGreatDoor
open Go.RowKit
section
variable {P:Program} {N:Nat} {Q:Exit→Act→World→Prop} {f:Fr} {ds:List Deferred} {w w':World} {o:Oper} {ops:Array Oper} {L:List Item} {K:Act→World→Prop}
end
end Go.Proofs.YtpbjekdjebjbkaaGreatDoor
