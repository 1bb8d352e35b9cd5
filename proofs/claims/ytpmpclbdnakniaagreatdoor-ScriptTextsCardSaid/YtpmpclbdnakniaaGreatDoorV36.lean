/- Acts: which may be written. -/
import Derived.Test.YtpmpclbdnakniaaGreatDoorV35
import Derived.Test.YtpmpclbdnakniaaGreatDoorV24
set_option linter.all false
set_option maxHeartbeats 8000000
namespace Go.Vc.Z
open Go Go.Vc Go.Proofs Go.RowKit Go.Pl Go.Lib
structure Act where
 kind:Int
 server:Int
 request:Request
 n:Int
 picks:List Int
 is:Bool
deriving Inhabited
abbrev Act.enc(a:Act):List AV:=[.int .i64 a.kind,.int .i64 a.server,.str a.request.key,.int .i64 a.request.kind,.int .i64 a.request.day,.int .u64 a.request.ticket,.int .i64 a.request.coupon,.int .i64 a.request.status,.str a.request.locator,slE 6 Coupon.enc a.request.coupons,slE 2 Tax.enc a.request.taxes,.int .i64 a.request.amount,.int .i64 a.request.frm,.int .i64 a.request.til,.int .i64 a.n,slE 1 pG a.picks,.bool a.is]
@[irreducible] noncomputable def Gr(a:Act):Bool:=decide (a.server=0)&&Df a.request An&&decide (a.n=0)&&decide (a.picks.length=0)&& !a.is
@[irreducible] noncomputable def Ag(a:Act):Bool:=
 if a.kind=1 then decide (0≤a.server∧a.server<4)&&Af a.request&&decide (a.n=0)&&decide (a.picks.length=0)&& !a.is
 else if a.kind=2 then decide (a.picks.length≤1000)&&decide (a.server=0)&&Df a.request An&&decide (a.n=0)&& !a.is
 else if a.kind=3 then decide (0≤a.server∧a.server<4)&&decide (0≤a.n∧a.n≤1000000)&&Df a.request An&&decide (a.picks.length=0)&& !a.is
 else if a.kind=4 then decide (0≤a.server∧a.server<4)&&decide (a.picks.length≤1000)&&Df a.request An&&decide (a.n=0)&& !a.is
 else if a.kind=5 then decide (a.server=0)&&Df a.request An&&decide (a.n=0)&&decide (a.picks.length=0)
 else false
theorem Asj{a:Act}(h: ¬a.server=0):Gr a=false:=by unfold Gr;rw[decide_eq_false h];rfl
theorem Asl{a:Act}(h:Df a.request An=false):Gr a=false:=by unfold Gr;rw[h];simp
theorem Asm{a:Act}(h: ¬a.n=0):Gr a=false:=by unfold Gr;rw[decide_eq_false h];simp
theorem Asn{a:Act}(h: ¬a.picks.length=0):Gr a=false:=by unfold Gr;rw[decide_eq_false h];simp
theorem Aso{a:Act}(h:a.is=true):Gr a=false:=by unfold Gr;rw[h];simp
theorem Asp{a:Act}(h1:a.server=0)(h2:Df a.request An=true)(h3:a.n=0)(h4:a.picks.length=0)(h5:a.is=false):Gr a=true:=by unfold Gr;rw[h1,h2,h3,h4,h5];rfl
noncomputable section
set_option maxRecDepth 100000
attribute [local irreducible] inK Utf8.decode Utf8.encode Lib.itoa Pl.worth Pl.allDig
attribute [local irreducible] Lib.join Bp Aa
def Ama:PC:=PC.of (fun a:Act=>[.agg a.enc]) (fun _=>True) (fun a=>.bool (sB (Gr a)))
def Oy:PT:=Cg [(142,Pu)]
theorem Vm{W:World}(hW:Tabs W):Cb (Fw W) Tryz.prog Oy:=(Ab Tryz.call142 (Oo hW) Aq)
def Oz:FuncId→Option Ctr:=Av Oy []
theorem qJ{W:World}(hW:Tabs W):Ad (Fw W) Tryz.prog Oz:=(Ar (Vm hW))
theorem qK{W:World}(hW:Tabs W):GoodP (Fw W) Tryz.prog 98 Ama:=by
 have hD:=Vm hW;have hC0:∀ a:Act,Ad (Fw W) Tryz.prog Oz:=fun a=>(qJ hW);refine As (D:=Oy) (C:=fun a=>Oz) (wr:=(fun _=>false)) rfl Ao hD hC0 Tryz.func98 (fun _ _=>none) (fun _=>rfl) ?_;intro a hf hp;clear hf
 (conv=>whnf)
 (repeat' (first|split<;>rename_i hh<;>try simp only[wS] at hh)<;>conv=>whnf)
 all_goals try(show _=_;simp only[wQ])
 ·refine⟨((a.request,An):Request × Request),True.intro,?_,?_⟩
  ·exact tL
  (conv=>whnf)
  (repeat' (first|split<;>rename_i hh<;>try simp only[wS] at hh|with_reducible refine lnI fun hln=>?_)<;>conv=>whnf)
  all_goals try(show _=_;simp only[wQ])
  ·have hq:a.picks.length=0:=Int.ofNat.inj (by assumption)
   cases hi:a.is
   ·exact(Asp (by assumption) (by assumption) (by assumption) hq hi).symm
   ·exact(Aso hi).symm
  ·exact(Asn (fun h=>absurd (congrArg Int.ofNat h) (by assumption))).symm
  ·exact(Asm (by assumption)).symm
  ·exact(Asl (by assumption)).symm
 ·exact(Asj (by assumption)).symm
def aS:PC:=PC.of (fun a:Act=>[.agg a.enc]) (fun a=>Eh a.request) (fun a=>.bool (sB (Ag a)))
def qL:PT:=Cg [(71,nI),(98,Ama)]
theorem Ahx{W:World}(hW:Tabs W):Cb (Fw W) Tryz.prog qL:=(Ab Tryz.call71 (aB hW) (Ab Tryz.call98 (qK hW) Aq))
def qM:FuncId→Option Ctr:=Av qL []
theorem Asq{W:World}(hW:Tabs W):Ad (Fw W) Tryz.prog qM:=(Ar (Ahx hW))
theorem qN{W:World}(hW:Tabs W):GoodP (Fw W) Tryz.prog 36 aS:=by
 have hD:=Ahx hW;have hC0:∀ a:Act,Ad (Fw W) Tryz.prog qM:=fun a=>(Asq hW);refine As (D:=qL) (C:=fun a=>qM) (wr:=(fun _=>false)) rfl Ao hD hC0 Tryz.func36 (fun _ _=>none) (fun _=>rfl) ?_;intro a hf hp;clear hf;have hz:Df An An=true:=Bc.2 rfl;by_cases n1:a.kind=1
 ·have kk:=n1;clear n1;have e:Ag a=(decide (0≤a.server∧a.server<4)&&Af a.request&&decide (a.n=0)&&decide (a.picks.length=0)&& !a.is):=by unfold Ag;simp only[kk];rfl
  (conv=>whnf)
  (repeat' (first|(exact absurd kk (by with_reducible assumption))|split<;>rename_i hh<;>try simp only[wS] at hh|with_reducible refine lnI fun hln=>?_)<;>conv=>whnf)
  all_goals try(show _=_;simp only[wQ])
  all_goals try (rw[e];simp_all;done)
  all_goals try (rw[e];simp_all;omega)
  refine⟨a.request,hp,?_,?_⟩
  ·exact Ac _
  (conv=>whnf)
  (repeat' (first|split<;>rename_i hh<;>try simp only[wS] at hh)<;>conv=>whnf)
  all_goals try(show _=_;simp only[wQ])
  all_goals try (rw[e];simp_all;done)
  all_goals try (
   refine⟨({ a with server:=0,request:=An }:Act),True.intro,?_,?_⟩
   ·exact tL
   (conv=>whnf)
   all_goals try(show _=_;simp only[wQ])
   all_goals (rw[e];unfold Gr;simp_all;done))
  all_goals skip
 ·skip
  by_cases n2:a.kind=2
  ·have kk:=n2;clear n2;have e:Ag a=(decide (a.picks.length≤1000)&&decide (a.server=0)&&Df a.request An&&decide (a.n=0)&& !a.is):=by unfold Ag;simp only[kk];rfl
   (conv=>whnf)
   (repeat' (first|(exact absurd (by with_reducible assumption) n1)|(exact absurd kk (by with_reducible assumption))|split<;>rename_i hh<;>try simp only[wS] at hh|with_reducible refine lnI fun hln=>?_)<;>conv=>whnf)
   all_goals try(show _=_;simp only[wQ])
   all_goals try (rw[e];simp_all;done)
   all_goals try (rw[e];simp_all;omega)
   all_goals try (
    have hpk:a.picks.length≤1000:=(by omega);refine⟨({ a with picks:=[] }:Act),True.intro,?_,?_⟩
    ·exact tL
    (conv=>whnf)
    all_goals try(show _=_;simp only[wQ])
    all_goals (rw[e];unfold Gr;simp_all;done))
   all_goals skip
  ·skip
   by_cases n3:a.kind=3
   ·have kk:=n3;clear n3;have e:Ag a=(decide (0≤a.server∧a.server<4)&&decide (0≤a.n∧a.n≤1000000)&&Df a.request An&&decide (a.picks.length=0)&& !a.is):=by unfold Ag;simp only[kk];rfl
    (conv=>whnf)
    (repeat' (first|(exact absurd (by with_reducible assumption) n1)|(exact absurd (by with_reducible assumption) n2)|(exact absurd kk (by with_reducible assumption))|split<;>rename_i hh<;>try simp only[wS] at hh|with_reducible refine lnI fun hln=>?_)<;>conv=>whnf)
    all_goals try(show _=_;simp only[wQ])
    all_goals try (rw[e];simp_all;done)
    all_goals try (rw[e];simp_all;omega)
    all_goals try (
     refine⟨({ a with server:=0,n:=0 }:Act),True.intro,?_,?_⟩
     ·exact Ac _
     (conv=>whnf)
     all_goals try(show _=_;simp only[wQ])
     all_goals (rw[e];unfold Gr;simp_all;done))
    all_goals skip
   ·skip
    by_cases n4:a.kind=4
    ·have kk:=n4;clear n4;have e:Ag a=(decide (0≤a.server∧a.server<4)&&decide (a.picks.length≤1000)&&Df a.request An&&decide (a.n=0)&& !a.is):=by unfold Ag;simp only[kk];rfl
     (conv=>whnf)
     (repeat' (first|(exact absurd (by with_reducible assumption) n1)|(exact absurd (by with_reducible assumption) n2)|(exact absurd (by with_reducible assumption) n3)|(exact absurd kk (by with_reducible assumption))|split<;>rename_i hh<;>try simp only[wS] at hh|with_reducible refine lnI fun hln=>?_)<;>conv=>whnf)
     all_goals try(show _=_;simp only[wQ])
     all_goals try (rw[e];simp_all;done)
     all_goals try (rw[e];simp_all;omega)
     all_goals try (
      have hpk:a.picks.length≤1000:=(by omega);refine⟨({ a with server:=0,picks:=[] }:Act),True.intro,?_,?_⟩
      ·exact tL
      (conv=>whnf)
      all_goals try(show _=_;simp only[wQ])
      all_goals (rw[e];unfold Gr;simp_all;done))
     all_goals skip
    ·skip
     by_cases n5:a.kind=5
     ·have kk:=n5;clear n5;have e:Ag a=(decide (a.server=0)&&Df a.request An&&decide (a.n=0)&&decide (a.picks.length=0)):=by unfold Ag;simp only[kk];rfl
      (conv=>whnf)
      (repeat' (first|(exact absurd (by with_reducible assumption) n1)|(exact absurd (by with_reducible assumption) n2)|(exact absurd (by with_reducible assumption) n3)|(exact absurd (by with_reducible assumption) n4)|(exact absurd kk (by with_reducible assumption))|split<;>rename_i hh<;>try simp only[wS] at hh|with_reducible refine lnI fun hln=>?_)<;>conv=>whnf)
      all_goals try (rw[e];simp_all;done)
      all_goals try (rw[e];simp_all;omega)
      all_goals try (
       refine⟨({ a with is:=false }:Act),True.intro,?_,?_⟩
       ·exact Ac _
       (conv=>whnf)
       all_goals try(show _=_;simp only[wQ])
       all_goals (rw[e];unfold Gr;simp_all;done))
      all_goals skip
     ·have e:Ag a=false:=by unfold Ag;rw[if_neg n1,if_neg n2,if_neg n3,if_neg n4,if_neg n5]
      (conv=>whnf)
      (repeat' (first|(exact absurd (by with_reducible assumption) n1)|(exact absurd (by with_reducible assumption) n2)|(exact absurd (by with_reducible assumption) n3)|(exact absurd (by with_reducible assumption) n4)|(exact absurd (by with_reducible assumption) n5)|split<;>rename_i hh<;>try simp only[wS] at hh|with_reducible refine lnI fun hln=>?_)<;>conv=>whnf)
      all_goals try(show _=_;simp only[wQ])
      all_goals (rw[e];done)
end
end Go.Vc.Z
