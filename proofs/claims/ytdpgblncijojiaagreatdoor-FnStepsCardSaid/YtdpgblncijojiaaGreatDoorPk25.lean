/- Parts of the walks. Conditions: as stated with each. -/
import Derived.Test.YtdpgblncijojiaaGreatDoorPk22
namespace Go.Proofs.YtdpgblncijojiaaGreatDoor
open Go.RowKit Tryz
set_option linter.all false
variable{B D:Nat}{T:dG}{v v0 v1 v2 v3:au}{w:aa}
def bN.eh{E:Type}{s:Nat}{z:World->E->List Value->Prop}{xs:List E}(h:bN T s z w B v xs)(F:D<B):bN T s z (Go.Proofs.YtdpgblncijojiaaGreatDoor.eh w D v0 v1 v2 v3) B v xs:=h.same (fun k H _=>jW RU) (lr ey.symm)

end Go.Proofs.YtdpgblncijojiaaGreatDoor
