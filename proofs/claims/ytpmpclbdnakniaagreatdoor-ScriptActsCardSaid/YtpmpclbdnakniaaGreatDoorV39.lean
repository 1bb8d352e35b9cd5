/- Acts, read as data. -/
import Derived.Test.YtpmpclbdnakniaaGreatDoorV13
import Derived.Test.YtpmpclbdnakniaaGreatDoorV33
set_option linter.all false
set_option linter.unusedVariables false
set_option linter.unusedSimpArgs false
namespace Go.Vc.Z
open Go Go.Vc Go.Proofs
theorem A2h:Dec Tryz.prog 67 Act.enc:=by
 intro H enc W fuel cs x hx
 obtain⟨hl,hf⟩:=Q3 Auo rfl hx
 obtain⟨a0,h0⟩:=hf 0 0 1 64 Auk rfl Aul rfl (Ee Aul rfl)
 obtain⟨a1,h1⟩:=hf 1 1 1 3 ty3 rfl ok3 rfl (Ee ok3 rfl)
 obtain⟨a2,h2⟩:=hf 2 2 12 56 Aui rfl Auj rfl Alh
 obtain⟨a3,h3⟩:=hf 3 14 1 3 ty3 rfl ok3 rfl (Ee ok3 rfl)
 obtain⟨a4,h4⟩:=hf 4 15 1 65 Aum rfl Aun rfl (Y9 Aun rfl ok3 rfl (by decide) (Ee ok3 rfl))
 obtain⟨a5,h5⟩:=hf 5 16 1 4 ty4 rfl ok4 rfl (Akr ok4 rfl)
 exact⟨⟨a0,a1,a2,a3,a4,a5⟩,h0.step (h1.step (h2.step (h3.step (h4.step (h5.step (CV.nil hl))))))⟩
end Go.Vc.Z
