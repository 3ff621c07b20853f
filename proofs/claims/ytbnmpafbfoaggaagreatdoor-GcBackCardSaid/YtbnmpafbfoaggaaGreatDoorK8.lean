/- GcBack: for heaps of layer 22 made of any numbers, and for what a collection leaves of them, the plain heap of the heap of two spaces made of it is the same heap, and as many old cells are made as are not free, in the given program, on every schedule and whatever the tape; no conditions. -/
import Derived.Test.YtbnmpafbfoaggaaGreatDoorK7
import Derived.Test.YtbnmpafbfoaggaaGreatDoorK4
set_option linter.defProp false
set_option linter.unusedVariables false
set_option linter.unusedSimpArgs false
set_option maxRecDepth 100000
set_option maxHeartbeats 16000000
noncomputable section
namespace Go.Proofs.YtbnmpafbfoaggaaGreatDoor
section
open Go
def aab:Vc.JO 16:=λu a mc l h=>(Kn.adJ u a mc l h).mono λ_ _ h=>⟨_,h.1,rfl,h.2.size,h.2.block⟩
theorem gcBack_card:Rows.GcBackCardSaid:=Vc.Xp aab
end
