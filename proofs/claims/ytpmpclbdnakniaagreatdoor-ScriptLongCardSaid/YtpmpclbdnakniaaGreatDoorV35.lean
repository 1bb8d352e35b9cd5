/- Acts: which may be written. -/
import Derived.Test.YtpmpclbdnakniaaGreatDoorV34
import Derived.Test.YtpmpclbdnakniaaGreatDoorV23
set_option linter.all false
set_option linter.unusedVariables false
set_option linter.unusedSimpArgs false
namespace Go.Vc.Z
open Go Go.Vc Go.Proofs Go.RowKit Go.Pl Go.Lib
structure Act where
 kind:Int
 server:Int
 request:Request
 n:Int
 picks:List Int
 is:Bool
deriving Inhabited
abbrev Act.enc(a:Act):List AV:=[.int .i64 a.kind,.int .i64 a.server,.str a.request.key,.int .i64 a.request.kind,.int .i64 a.request.day,.int .u64 a.request.ticket,.int .i64 a.request.coupon,.int .i64 a.request.status,.str a.request.locator,slE 6 Coupon.enc a.request.coupons,slE 2 Tax.enc a.request.taxes,.int .i64 a.request.amount,.int .i64 a.request.frm,.int .i64 a.request.til,.int .i64 a.n,slE 1 wE a.picks,.bool a.is]
@[irreducible] noncomputable def Fo(a:Act):Bool:=decide (a.server=0)&&Dp a.request As&&decide (a.n=0)&&decide (a.picks.length=0)&& !a.is
@[irreducible] noncomputable def Am(a:Act):Bool:=
 if a.kind=1 then decide (0≤a.server∧a.server<4)&&Ah a.request&&decide (a.n=0)&&decide (a.picks.length=0)&& !a.is
 else if a.kind=2 then decide (a.picks.length≤1000)&&decide (a.server=0)&&Dp a.request As&&decide (a.n=0)&& !a.is
 else if a.kind=3 then decide (0≤a.server∧a.server<4)&&decide (0≤a.n∧a.n≤1000000)&&Dp a.request As&&decide (a.picks.length=0)&& !a.is
 else if a.kind=4 then decide (0≤a.server∧a.server<4)&&decide (a.picks.length≤1000)&&Dp a.request As&&decide (a.n=0)&& !a.is
 else if a.kind=5 then decide (a.server=0)&&Dp a.request As&&decide (a.n=0)&&decide (a.picks.length=0)
 else false
theorem Agr{a:Act}(h: ¬a.server=0):Fo a=false:=by unfold Fo;rw[decide_eq_false h];rfl
theorem Ags{a:Act}(h:Dp a.request As=false):Fo a=false:=by unfold Fo;rw[h];simp
theorem Agt{a:Act}(h: ¬a.n=0):Fo a=false:=by unfold Fo;rw[decide_eq_false h];simp
theorem Agu{a:Act}(h: ¬a.picks.length=0):Fo a=false:=by unfold Fo;rw[decide_eq_false h];simp
theorem Agv{a:Act}(h:a.is=true):Fo a=false:=by unfold Fo;rw[h];simp
theorem Agw{a:Act}(h1:a.server=0)(h2:Dp a.request As=true)(h3:a.n=0)(h4:a.picks.length=0)(h5:a.is=false):Fo a=true:=by unfold Fo;rw[h1,h2,h3,h4,h5];rfl
noncomputable section
set_option maxRecDepth 100000
attribute [local irreducible] inK Utf8.decode Utf8.encode Lib.itoa Pl.worth Pl.allDig
attribute [local irreducible] Lib.join Br Aa
def Abg:PC:=PC.of (fun a:Act=>[.agg a.enc]) (fun _=>True) (fun a=>.bool (sB (Fo a)))
def K5:PT:=D1 [(142,Wz)]
theorem Pe{W:World}(hW:Tabs W):Dj (Fw W) Tryz.prog K5:=(Ae Tryz.call142 (Kx hW) A6)
def K6:FuncId→Option Ctr:=Av K5 []
theorem bX{W:World}(hW:Tabs W):Ad (Fw W) Tryz.prog K6:=(A7 (Pe hW))
set_option maxHeartbeats 2000000 in
theorem bY{W:World}(hW:Tabs W):GoodP (Fw W) Tryz.prog 98 Abg:=by
 have hD:=Pe hW
 have hC0:∀ a:Act,Ad (Fw W) Tryz.prog K6:=fun a=>(bX hW)
 refine Ax (D:=K5) (C:=fun a=>K6) (wr:=(fun _=>false)) rfl Aq hD hC0 Tryz.func98 (fun _ _=>none) (fun _=>rfl) ?_
 intro a hf hp
 clear hf
 (conv=>whnf)
 (repeat' ((first
  |(split<;>rename_i hh<;>(try simp only[wS] at hh))
  |fail)<;>(conv=>whnf)))
 all_goals (try (show _=_;simp only[wQ]))
 ·refine⟨((a.request,As):Request × Request),True.intro,?_,?_⟩
  ·exact tL
  (conv=>whnf)
  (repeat' ((first
   |(split<;>rename_i hh<;>(try simp only[wS] at hh))
   |with_reducible refine lnI fun hln=>?_
   |fail)<;>(conv=>whnf)))
  all_goals (try (show _=_;simp only[wQ]))
  ·have hq:a.picks.length=0:=Int.ofNat.inj (by assumption)
   cases hi:a.is
   ·exact(Agw (by assumption) (by assumption) (by assumption) hq hi).symm
   ·exact(Agv hi).symm
  ·exact(Agu (fun h=>absurd (congrArg Int.ofNat h) (by assumption))).symm
  ·exact(Agt (by assumption)).symm
  ·exact(Ags (by assumption)).symm
 ·exact(Agr (by assumption)).symm
def Sz:PC:=PC.of (fun a:Act=>[.agg a.enc]) (fun a=>E1 a.request) (fun a=>.bool (sB (Am a)))
def bZ:PT:=D1 [(71,Zp),(98,Abg)]
theorem wI{W:World}(hW:Tabs W):Dj (Fw W) Tryz.prog bZ:=(Ae Tryz.call71 (Si hW) (Ae Tryz.call98 (bY hW) A6))
def cA:FuncId→Option Ctr:=Av bZ []
theorem Agx{W:World}(hW:Tabs W):Ad (Fw W) Tryz.prog cA:=(A7 (wI hW))
set_option maxHeartbeats 2000000 in
theorem cB{W:World}(hW:Tabs W):GoodP (Fw W) Tryz.prog 36 Sz:=by
 have hD:=wI hW
 have hC0:∀ a:Act,Ad (Fw W) Tryz.prog cA:=fun a=>(Agx hW)
 refine Ax (D:=bZ) (C:=fun a=>cA) (wr:=(fun _=>false)) rfl Aq hD hC0 Tryz.func36 (fun _ _=>none) (fun _=>rfl) ?_
 intro a hf hp
 clear hf
 have hz:Dp As As=true:=A0.2 rfl
 by_cases n1:a.kind=1
 ·have kk:=n1
  clear n1
  have e:Am a=(decide (0≤a.server∧a.server<4)&&Ah a.request&&decide (a.n=0)&&decide (a.picks.length=0)&& !a.is):=by unfold Am;simp only[kk];rfl
  (conv=>whnf)
  (repeat' ((first
   |(exact absurd kk (by with_reducible assumption))
   |(split<;>rename_i hh<;>(try simp only[wS] at hh))
   |with_reducible refine lnI fun hln=>?_
   |fail)<;>(conv=>whnf)))
  all_goals (try (show _=_;simp only[wQ]))
  all_goals try (rw[e];simp_all;done)
  all_goals try (rw[e];simp_all;omega)
  refine⟨a.request,hp,?_,?_⟩
  ·exact Aj _
  (conv=>whnf)
  (repeat' ((first
   |(split<;>rename_i hh<;>(try simp only[wS] at hh))
   |fail)<;>(conv=>whnf)))
  all_goals (try (show _=_;simp only[wQ]))
  all_goals try (rw[e];simp_all;done)
  all_goals try (
   refine⟨({ a with server:=0,request:=As }:Act),True.intro,?_,?_⟩
   ·exact tL
   (conv=>whnf)
   all_goals (try (show _=_;simp only[wQ]))
   all_goals (rw[e];unfold Fo;simp_all;done))
  all_goals skip
 ·skip
  by_cases n2:a.kind=2
  ·have kk:=n2
   clear n2
   have e:Am a=(decide (a.picks.length≤1000)&&decide (a.server=0)&&Dp a.request As&&decide (a.n=0)&& !a.is):=by unfold Am;simp only[kk];rfl
   (conv=>whnf)
   (repeat' ((first
    |(exact absurd (by with_reducible assumption) n1)
    |(exact absurd kk (by with_reducible assumption))
    |(split<;>rename_i hh<;>(try simp only[wS] at hh))
    |with_reducible refine lnI fun hln=>?_
    |fail)<;>(conv=>whnf)))
   all_goals (try (show _=_;simp only[wQ]))
   all_goals try (rw[e];simp_all;done)
   all_goals try (rw[e];simp_all;omega)
   all_goals try (
    have hpk:a.picks.length≤1000:=by omega
    refine⟨({ a with picks:=[] }:Act),True.intro,?_,?_⟩
    ·exact tL
    (conv=>whnf)
    all_goals (try (show _=_;simp only[wQ]))
    all_goals (rw[e];unfold Fo;simp_all;done))
   all_goals skip
  ·skip
   by_cases n3:a.kind=3
   ·have kk:=n3
    clear n3
    have e:Am a=(decide (0≤a.server∧a.server<4)&&decide (0≤a.n∧a.n≤1000000)&&Dp a.request As&&decide (a.picks.length=0)&& !a.is):=by unfold Am;simp only[kk];rfl
    (conv=>whnf)
    (repeat' ((first
     |(exact absurd (by with_reducible assumption) n1)
     |(exact absurd (by with_reducible assumption) n2)
     |(exact absurd kk (by with_reducible assumption))
     |(split<;>rename_i hh<;>(try simp only[wS] at hh))
     |with_reducible refine lnI fun hln=>?_
     |fail)<;>(conv=>whnf)))
    all_goals (try (show _=_;simp only[wQ]))
    all_goals try (rw[e];simp_all;done)
    all_goals try (rw[e];simp_all;omega)
    all_goals try (
     refine⟨({ a with server:=0,n:=0 }:Act),True.intro,?_,?_⟩
     ·exact Aj _
     (conv=>whnf)
     all_goals (try (show _=_;simp only[wQ]))
     all_goals (rw[e];unfold Fo;simp_all;done))
    all_goals skip
   ·skip
    by_cases n4:a.kind=4
    ·have kk:=n4
     clear n4
     have e:Am a=(decide (0≤a.server∧a.server<4)&&decide (a.picks.length≤1000)&&Dp a.request As&&decide (a.n=0)&& !a.is):=by unfold Am;simp only[kk];rfl
     (conv=>whnf)
     (repeat' ((first
      |(exact absurd (by with_reducible assumption) n1)
      |(exact absurd (by with_reducible assumption) n2)
      |(exact absurd (by with_reducible assumption) n3)
      |(exact absurd kk (by with_reducible assumption))
      |(split<;>rename_i hh<;>(try simp only[wS] at hh))
      |with_reducible refine lnI fun hln=>?_
      |fail)<;>(conv=>whnf)))
     all_goals (try (show _=_;simp only[wQ]))
     all_goals try (rw[e];simp_all;done)
     all_goals try (rw[e];simp_all;omega)
     all_goals try (
      have hpk:a.picks.length≤1000:=by omega
      refine⟨({ a with server:=0,picks:=[] }:Act),True.intro,?_,?_⟩
      ·exact tL
      (conv=>whnf)
      all_goals (try (show _=_;simp only[wQ]))
      all_goals (rw[e];unfold Fo;simp_all;done))
     all_goals skip
    ·skip
     by_cases n5:a.kind=5
     ·have kk:=n5
      clear n5
      have e:Am a=(decide (a.server=0)&&Dp a.request As&&decide (a.n=0)&&decide (a.picks.length=0)):=by unfold Am;simp only[kk];rfl
      (conv=>whnf)
      (repeat' ((first
       |(exact absurd (by with_reducible assumption) n1)
       |(exact absurd (by with_reducible assumption) n2)
       |(exact absurd (by with_reducible assumption) n3)
       |(exact absurd (by with_reducible assumption) n4)
       |(exact absurd kk (by with_reducible assumption))
       |(split<;>rename_i hh<;>(try simp only[wS] at hh))
       |with_reducible refine lnI fun hln=>?_
       |fail)<;>(conv=>whnf)))
      all_goals try (rw[e];simp_all;done)
      all_goals try (rw[e];simp_all;omega)
      all_goals try (
       refine⟨({ a with is:=false }:Act),True.intro,?_,?_⟩
       ·exact Aj _
       (conv=>whnf)
       all_goals (try (show _=_;simp only[wQ]))
       all_goals (rw[e];unfold Fo;simp_all;done))
      all_goals skip
     ·have e:Am a=false:=by unfold Am;rw[if_neg n1,if_neg n2,if_neg n3,if_neg n4,if_neg n5]
      (conv=>whnf)
      (repeat' ((first
       |(exact absurd (by with_reducible assumption) n1)
       |(exact absurd (by with_reducible assumption) n2)
       |(exact absurd (by with_reducible assumption) n3)
       |(exact absurd (by with_reducible assumption) n4)
       |(exact absurd (by with_reducible assumption) n5)
       |(split<;>rename_i hh<;>(try simp only[wS] at hh))
       |with_reducible refine lnI fun hln=>?_
       |fail)<;>(conv=>whnf)))
      all_goals (try (show _=_;simp only[wQ]))
      all_goals (rw[e];done)
end
end Go.Vc.Z
