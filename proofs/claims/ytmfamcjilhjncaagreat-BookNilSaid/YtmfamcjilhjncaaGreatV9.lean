import Derived.Test.YtmfamcjilhjncaaGreatV8
set_option linter.all false
namespace Go.Vc.Y
open Go Go.Vc Go.Proofs
set_option maxRecDepth 1000000
noncomputable section
noncomputable def ins : FuncId → Option (List AV → List Blk → Option (AV × List Blk)) := fun g => match Nat.beq g 121 with | true => some cloneO | false => none
def isTrue : Option (AV × List Blk) → Bool
  | some (.bool true, _) => true
  | _ => false
theorem run : isTrue (tabO TY tab.look ins 100 4 [] []) = true := by decide +kernel
end
end Go.Vc.Y
