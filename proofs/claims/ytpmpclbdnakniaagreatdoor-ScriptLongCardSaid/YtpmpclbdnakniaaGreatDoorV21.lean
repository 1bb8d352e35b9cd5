/- request.May: which requests may be, the program's. -/
import Derived.Test.YtpmpclbdnakniaaGreatDoorV20
set_option linter.all false
set_option linter.unusedVariables false
set_option linter.unusedSimpArgs false
namespace Go.Vc.Z
open Go Go.Vc Go.Proofs Go.RowKit Go.Pl Go.Lib
noncomputable section
def Zp:PC:=PC.of (fun r:Request=>[.agg r.enc]) E1 (fun r=>.bool (sB (Ah r)))
theorem Si{W:World}(hW:Tabs W):GoodP (Fw W) Tryz.prog 71 Zp:=by
 intro S w cs vs Q hs hv hT
 obtain⟨r,h1,h2,h3⟩:=hT
 have e0:∀ (l:List Coupon),l.length=0→l=[]:=fun l h=>List.length_eq_zero_iff.1 h
 have e1:∀ (l:List Tax),l.length=0→l=[]:=fun l h=>List.length_eq_zero_iff.1 h
 by_cases k1:r.kind=1
 ·by_cases c:r.coupons.length=0<;>by_cases t:r.taxes.length=0
  ·exact Aio hW S w cs vs Q hs hv ⟨r,⟨k1,e0 _ c,e1 _ t,h1⟩,h2,h3⟩
  ·exact Aim hW S w cs vs Q hs hv ⟨r,⟨k1,e0 _ c,t,h1⟩,h2,h3⟩
  ·exact Aik hW S w cs vs Q hs hv ⟨r,⟨k1,c,e1 _ t,h1⟩,h2,h3⟩
  ·exact Aii hW S w cs vs Q hs hv ⟨r,⟨k1,c,t,h1⟩,h2,h3⟩
 ·by_cases k5:r.kind=5
  ·by_cases c:r.coupons.length=0<;>by_cases t:r.taxes.length=0
   ·exact Aiw hW S w cs vs Q hs hv ⟨r,⟨k5,e0 _ c,e1 _ t,h1⟩,h2,h3⟩
   ·exact Aiu hW S w cs vs Q hs hv ⟨r,⟨k5,e0 _ c,t,h1⟩,h2,h3⟩
   ·exact Ais hW S w cs vs Q hs hv ⟨r,⟨k5,c,e1 _ t,h1⟩,h2,h3⟩
   ·exact Aiq hW S w cs vs Q hs hv ⟨r,⟨k5,c,t,h1⟩,h2,h3⟩
  ·exact Aoh hW S w cs vs Q hs hv ⟨r,⟨⟨k1,k5⟩,h1⟩,h2,h3⟩
end
end Go.Vc.Z
