/- Setups, read as data. -/
import Derived.Test.YtpmpclbdnakniaaGreatDoorV10
import Derived.Test.YtpmpclbdnakniaaGreatDoorV31
set_option linter.all false
set_option linter.unusedVariables false
set_option linter.unusedSimpArgs false
namespace Go.Vc
open Go
variable {H : Type} {enc : TypeId × Value → H} {P : Program} {W : World}
namespace Z
open Go.Proofs
abbrev Axn(s:Int × Int × Int):List AV:=[.int .i64 s.1,.int .i64 s.2.1,.int .i64 s.2.2]
theorem Axo:Dec Tryz.prog 159 Axn:=by
 intro H enc W fuel cs x hx
 obtain⟨hl,hf⟩:=H0 Amd rfl hx
 obtain⟨a0,h0⟩:=hf 0 0 1 3 ty3 rfl ok3 rfl (Db ok3 rfl)
 obtain⟨a1,h1⟩:=hf 1 1 1 3 ty3 rfl ok3 rfl (Db ok3 rfl)
 obtain⟨a2,h2⟩:=hf 2 2 1 3 ty3 rfl ok3 rfl (Db ok3 rfl)
 exact⟨(a0,a1,a2),h0.step (h1.step (h2.step (CV.nil hl)))⟩
theorem A2k:Dec Tryz.prog 161 Site.enc:=by
 intro H enc W fuel cs x hx
 obtain⟨hl,hf⟩:=H0 Ame rfl hx
 obtain⟨⟨a,b,c⟩,h0⟩:=hf 0 0 3 159 Abe rfl Amd rfl Axo
 obtain⟨a1,h1⟩:=hf 1 3 1 3 ty3 rfl ok3 rfl (Db ok3 rfl)
 obtain⟨a2,h2⟩:=hf 2 4 1 3 ty3 rfl ok3 rfl (Db ok3 rfl)
 obtain⟨a3,h3⟩:=hf 3 5 1 3 ty3 rfl ok3 rfl (Db ok3 rfl)
 exact⟨⟨a,b,c,a1,a2,a3⟩,h0.step (h1.step (h2.step (h3.step (CV.nil hl))))⟩
theorem Axp:Dec Tryz.prog 78 Setup.enc:=by
 intro H enc W fuel cs x hx
 obtain⟨hl,hf⟩:=H0 Awx rfl hx
 obtain⟨a0,h0⟩:=hf 0 0 1 76 Awv rfl Aww rfl (Pr Aww rfl Ame rfl (by decide) A2k)
 obtain⟨a1,h1⟩:=hf 1 1 1 3 ty3 rfl ok3 rfl (Db ok3 rfl)
 exact⟨⟨a0,a1⟩,h0.step (h1.step (CV.nil hl))⟩
end Z
end Go.Vc
