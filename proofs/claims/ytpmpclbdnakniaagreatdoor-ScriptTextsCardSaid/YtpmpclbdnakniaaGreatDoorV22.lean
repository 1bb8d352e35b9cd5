/- request.May: which requests may be, the program's. -/
import Derived.Test.YtpmpclbdnakniaaGreatDoorV21
set_option linter.all false
set_option maxHeartbeats 8000000
namespace Go.Vc.Z
open Go Go.Vc Go.Proofs Go.RowKit Go.Pl Go.Lib
noncomputable section
def nI:PC:=PC.of (fun r:Request=>[.agg r.enc]) Eh (fun r=>.bool (sB (Af r)))
theorem aB{W:World}(hW:Tabs W):GoodP (Fw W) Tryz.prog 71 nI:=by
 intro S w cs vs Q hs hv hT;obtain⟨r,h1,h2,h3⟩:=hT;have e0:∀ (l:List Coupon),l.length=0→l=[]:=fun l h=>List.length_eq_zero_iff.1 h;have e1:∀ (l:List Tax),l.length=0→l=[]:=fun l h=>List.length_eq_zero_iff.1 h;by_cases k1:r.kind=1
 ·by_cases c:r.coupons.length=0<;>by_cases t:r.taxes.length=0
  ·exact Aul hW S w cs vs Q hs hv ⟨r,⟨k1,e0 _ c,e1 _ t,h1⟩,h2,h3⟩
  ·exact Auj hW S w cs vs Q hs hv ⟨r,⟨k1,e0 _ c,t,h1⟩,h2,h3⟩
  ·exact Auh hW S w cs vs Q hs hv ⟨r,⟨k1,c,e1 _ t,h1⟩,h2,h3⟩
  ·exact Auf hW S w cs vs Q hs hv ⟨r,⟨k1,c,t,h1⟩,h2,h3⟩
 ·by_cases k5:r.kind=5
  ·by_cases c:r.coupons.length=0<;>by_cases t:r.taxes.length=0
   ·exact Aut hW S w cs vs Q hs hv ⟨r,⟨k5,e0 _ c,e1 _ t,h1⟩,h2,h3⟩
   ·exact Aur hW S w cs vs Q hs hv ⟨r,⟨k5,e0 _ c,t,h1⟩,h2,h3⟩
   ·exact Aup hW S w cs vs Q hs hv ⟨r,⟨k5,c,e1 _ t,h1⟩,h2,h3⟩
   ·exact Aun hW S w cs vs Q hs hv ⟨r,⟨k5,c,t,h1⟩,h2,h3⟩
  ·exact A0x hW S w cs vs Q hs hv ⟨r,⟨⟨k1,k5⟩,h1⟩,h2,h3⟩
end
end Go.Vc.Z
