/- Acts, read as data. -/
import Derived.Test.YtpmpclbdnakniaaGreatDoorV13
import Derived.Test.YtpmpclbdnakniaaGreatDoorV28
set_option linter.all false
set_option linter.unusedVariables false
set_option linter.unusedSimpArgs false
namespace Go.Vc.Z
open Go Go.Vc Go.Proofs
theorem A4s:Dec Tryz.prog 67 Act.enc:=by
 intro H enc W fuel cs x hx
 obtain⟨hl,hf⟩:=H0 Awu rfl hx
 obtain⟨a0,h0⟩:=hf 0 0 1 64 Awq rfl Awr rfl (Db Awr rfl)
 obtain⟨a1,h1⟩:=hf 1 1 1 3 ty3 rfl ok3 rfl (Db ok3 rfl)
 obtain⟨a2,h2⟩:=hf 2 2 12 56 Awo rfl Awp rfl Ana
 obtain⟨a3,h3⟩:=hf 3 14 1 3 ty3 rfl ok3 rfl (Db ok3 rfl)
 obtain⟨a4,h4⟩:=hf 4 15 1 65 Aws rfl Awt rfl (Pr Awt rfl ok3 rfl (by decide) (Db ok3 rfl))
 obtain⟨a5,h5⟩:=hf 5 16 1 4 ty4 rfl ok4 rfl (Amj ok4 rfl)
 exact⟨⟨a0,a1,a2,a3,a4,a5⟩,h0.step (h1.step (h2.step (h3.step (h4.step (h5.step (CV.nil hl))))))⟩
end Go.Vc.Z
