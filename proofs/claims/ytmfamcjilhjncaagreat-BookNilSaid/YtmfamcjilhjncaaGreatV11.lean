import Derived.Test.YtmfamcjilhjncaaGreatV9
import Derived.Test.YtmfamcjilhjncaaGreatV10
set_option linter.all false
namespace Go.Vc.Y
open Go Go.Vc Go.Proofs
set_option maxRecDepth 1000000
noncomputable section
noncomputable def insT : FuncId → Option (List AV → HM → Option (AV × HM)) := fun g => match Nat.beq g 121 with | true => some cloneT | false => none
noncomputable def ins : FuncId → Option (List AV → List Blk → Option (AV × List Blk)) := fun g => match Nat.beq g 121 with | true => some cloneO | false => none
def isTrueT : Option (AV × HM) → Bool
  | some (.bool true, _) => true
  | _ => false
theorem runT : isTrueT (tabT TY tab.look insT 100 4 [] noH) = true := by decide +kernel
end
end Go.Vc.Y
