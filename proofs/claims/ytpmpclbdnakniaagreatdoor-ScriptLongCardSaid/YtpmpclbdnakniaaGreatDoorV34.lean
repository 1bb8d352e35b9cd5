/- script.RequestOf: the request of a line. -/
import Derived.Test.YtpmpclbdnakniaaGreatDoorV32
import Derived.Test.YtpmpclbdnakniaaGreatDoorV33
import Derived.Test.YtpmpclbdnakniaaGreatDoorV29
import Derived.Test.YtpmpclbdnakniaaGreatDoorV30
set_option linter.all false
set_option linter.unusedVariables false
set_option linter.unusedSimpArgs false
namespace Go.Vc.Z
open Go Go.Vc Go.Proofs Go.RowKit Go.Pl Go.Lib
noncomputable section
def Abf:PC:=PC.of (fun x:List UInt8 × Request × Int=>[.str x.1]) (fun x=>Qc x.1=x.2∧x.1.length≤1000000) (fun x=>.tup [.agg x.2.1.enc,.int .i64 x.2.2])
theorem Ajd{W:World}(hW:Tabs W):GoodP (Fw W) Tryz.prog 26 Abf:=by
 intro S w cs vs Q hs hv hT
 obtain⟨x,⟨h1,h1'⟩,h2,h3⟩:=hT
 by_cases k1:kindOf ((Aa 32 x.1).getD 0 [])=1
 ·exact Agn hW S w cs vs Q hs hv ⟨x,⟨h1,h1',k1⟩,h2,h3⟩
 ·by_cases k5:kindOf ((Aa 32 x.1).getD 0 [])=5
  ·exact Agq hW S w cs vs Q hs hv ⟨x,⟨h1,h1',k5⟩,h2,h3⟩
  ·exact Agk hW S w cs vs Q hs hv ⟨x,⟨h1,h1',k1,k5⟩,h2,h3⟩
end
end Go.Vc.Z
namespace Go.Vc.Z
open Go Go.Vc Go.Proofs Go.RowKit Go.Pl Go.Lib
@[irreducible] def nS(s:List UInt8)(m:Int):Int × Int:=if Fs (Da 45 s)=true∧s≠[45,48] then(if m<(worth (Da 45 s):Int) then(0,5) else(if s=Da 45 s then(worth (Da 45 s):Int) else -(worth (Da 45 s):Int),0)) else(0,4)
theorem Atj{s t:List UInt8}{m:Int}(hp:Da 45 s=t)(h:Fs t=true)(h2: ¬s=[45,48])(h3:(worth t:Int)≤m)(h4:s=t):nS s m=((worth t:Int),0):=by
 subst hp;unfold nS;rw[if_pos ⟨h,h2⟩,if_neg (by omega),if_pos h4]
theorem Atk{s t:List UInt8}{m:Int}(hp:Da 45 s=t)(h:Fs t=true)(h2: ¬s=[45,48])(h3:(worth t:Int)≤m)(h4: ¬s=t):nS s m=(-(worth t:Int),0):=by
 subst hp;unfold nS;rw[if_pos ⟨h,h2⟩,if_neg (by omega),if_neg h4]
noncomputable section
set_option maxRecDepth 100000
attribute [local irreducible] inK Utf8.decode Utf8.encode Lib.itoa Pl.worth Pl.allDig
attribute [local irreducible] Lib.join Br Aa
end
end Go.Vc.Z
namespace Go.Vc.Z
open Go Go.Vc Go.Proofs Go.RowKit Go.Pl Go.Lib
@[irreducible] def rpV(s:List UInt8):Int:=if s=[45,57,50,50,51,51,55,50,48,51,54,56,53,52,55,55,53,56,48,56] then -9223372036854775808 else(nS s 9223372036854775807).1
theorem Atl{s:List UInt8}(h:s=[45,57,50,50,51,51,55,50,48,51,54,56,53,52,55,55,53,56,48,56]):rpV s= -9223372036854775808:=by unfold rpV;rw[if_pos h]
theorem Atm{s:List UInt8}(h: ¬s=[45,57,50,50,51,51,55,50,48,51,54,56,53,52,55,55,53,56,48,56]):rpV s=(nS s 9223372036854775807).1:=by unfold rpV;rw[if_neg h]
noncomputable section
set_option maxRecDepth 100000
attribute [local irreducible] inK Utf8.decode Utf8.encode Lib.itoa Pl.worth Pl.allDig
attribute [local irreducible] Lib.join Br Aa
end
end Go.Vc.Z
