/- Acts: which may be written. -/
import Derived.Test.YtpmpclbdnakniaaGreatDoorV21
import Derived.Test.YtpmpclbdnakniaaGreatDoorV27
set_option linter.all false
set_option linter.unusedVariables false
set_option linter.unusedSimpArgs false
namespace Go.Vc.Z
open Go Go.Vc Go.Proofs Go.RowKit Go.Pl Go.Lib
structure Act where
 kind:Int
 server:Int
 request:Request
 n:Int
 picks:List Int
 is:Bool
deriving Inhabited
abbrev Act.enc(a:Act):List AV:=[.int .i64 a.kind,.int .i64 a.server,.str a.request.key,.int .i64 a.request.kind,.int .i64 a.request.day,.int .u64 a.request.ticket,.int .i64 a.request.coupon,.int .i64 a.request.status,.str a.request.locator,slE 6 Coupon.enc a.request.coupons,slE 2 Tax.enc a.request.taxes,.int .i64 a.request.amount,.int .i64 a.request.frm,.int .i64 a.request.til,.int .i64 a.n,slE 1 Ack a.picks,.bool a.is]
@[irreducible] noncomputable def Gc(a:Act):Bool:=decide (a.server=0)&&Dq a.request Ay&&decide (a.n=0)&&decide (a.picks.length=0)&& !a.is
@[irreducible] noncomputable def Af(a:Act):Bool:=
 if a.kind=1 then decide (0≤a.server∧a.server<4)&&Ah a.request&&decide (a.n=0)&&decide (a.picks.length=0)&& !a.is
 else if a.kind=2 then decide (a.picks.length≤1000)&&decide (a.server=0)&&Dq a.request Ay&&decide (a.n=0)&& !a.is
 else if a.kind=3 then decide (0≤a.server∧a.server<4)&&decide (0≤a.n∧a.n≤1000000)&&Dq a.request Ay&&decide (a.picks.length=0)&& !a.is
 else if a.kind=4 then decide (0≤a.server∧a.server<4)&&decide (a.picks.length≤1000)&&Dq a.request Ay&&decide (a.n=0)&& !a.is
 else if a.kind=5 then decide (a.server=0)&&Dq a.request Ay&&decide (a.n=0)&&decide (a.picks.length=0)
 else false
theorem Aoi{a:Act}(h: ¬a.server=0):Gc a=false:=by unfold Gc;rw[decide_eq_false h];rfl
theorem Aoj{a:Act}(h:Dq a.request Ay=false):Gc a=false:=by unfold Gc;rw[h];simp
theorem Aok{a:Act}(h: ¬a.n=0):Gc a=false:=by unfold Gc;rw[decide_eq_false h];simp
theorem Aol{a:Act}(h: ¬a.picks.length=0):Gc a=false:=by unfold Gc;rw[decide_eq_false h];simp
theorem Aom{a:Act}(h:a.is=true):Gc a=false:=by unfold Gc;rw[h];simp
theorem Aon{a:Act}(h1:a.server=0)(h2:Dq a.request Ay=true)(h3:a.n=0)(h4:a.picks.length=0)(h5:a.is=false):Gc a=true:=by unfold Gc;rw[h1,h2,h3,h4,h5];rfl
noncomputable section
set_option maxRecDepth 100000
attribute [local irreducible] inK Utf8.decode Utf8.encode Lib.itoa Pl.worth Pl.allDig
attribute [local irreducible] Lib.join Bw Aa
def Ai1:PC:=PC.of (fun a:Act=>[.agg a.enc]) (fun _=>True) (fun a=>.bool (sB (Gc a)))
def Nn:PT:=C2 [(142,Oi)]
theorem Tj{W:World}(hW:Tabs W):Cl (Fw W) Tryz.prog Nn:=(Ab Tryz.call142 (Ni hW) As)
def No:FuncId→Option Ctr:=Aw Nn []
theorem kZ{W:World}(hW:Tabs W):Ad (Fw W) Tryz.prog No:=(Au (Tj hW))
set_option maxHeartbeats 2000000 in
theorem lB{W:World}(hW:Tabs W):GoodP (Fw W) Tryz.prog 98 Ai1:=by
 have hD:=Tj hW
 have hC0:∀ a:Act,Ad (Fw W) Tryz.prog No:=fun a=>(kZ hW)
 refine Ar (D:=Nn) (C:=fun a=>No) (wr:=(fun _=>false)) rfl Ap hD hC0 Tryz.func98 (fun _ _=>none) (fun _=>rfl) ?_
 intro a hf hp
 clear hf
 (conv=>whnf)
 (repeat' ((first
  |(split<;>rename_i hh<;>(try simp only[wS] at hh))
  |fail)<;>(conv=>whnf)))
 all_goals (try (show _=_;simp only[wQ]))
 ·refine⟨((a.request,Ay):Request × Request),True.intro,?_,?_⟩
  ·exact tL
  (conv=>whnf)
  (repeat' ((first
   |(split<;>rename_i hh<;>(try simp only[wS] at hh))
   |with_reducible refine lnI fun hln=>?_
   |fail)<;>(conv=>whnf)))
  all_goals (try (show _=_;simp only[wQ]))
  ·have hq:a.picks.length=0:=Int.ofNat.inj (by assumption)
   cases hi:a.is
   ·exact(Aon (by assumption) (by assumption) (by assumption) hq hi).symm
   ·exact(Aom hi).symm
  ·exact(Aol (fun h=>absurd (congrArg Int.ofNat h) (by assumption))).symm
  ·exact(Aok (by assumption)).symm
  ·exact(Aoj (by assumption)).symm
 ·exact(Aoi (by assumption)).symm
def Yg:PC:=PC.of (fun a:Act=>[.agg a.enc]) (fun a=>D5 a.request) (fun a=>.bool (sB (Af a)))
def lC:PT:=C2 [(71,jP),(98,Ai1)]
theorem Aen{W:World}(hW:Tabs W):Cl (Fw W) Tryz.prog lC:=(Ab Tryz.call71 (Yf hW) (Ab Tryz.call98 (lB hW) As))
def lE:FuncId→Option Ctr:=Aw lC []
theorem Aoo{W:World}(hW:Tabs W):Ad (Fw W) Tryz.prog lE:=(Au (Aen hW))
set_option maxHeartbeats 2000000 in
theorem lF{W:World}(hW:Tabs W):GoodP (Fw W) Tryz.prog 36 Yg:=by
 have hD:=Aen hW
 have hC0:∀ a:Act,Ad (Fw W) Tryz.prog lE:=fun a=>(Aoo hW)
 refine Ar (D:=lC) (C:=fun a=>lE) (wr:=(fun _=>false)) rfl Ap hD hC0 Tryz.func36 (fun _ _=>none) (fun _=>rfl) ?_
 intro a hf hp
 clear hf
 have hz:Dq Ay Ay=true:=Bb.2 rfl
 by_cases n1:a.kind=1
 ·have kk:=n1
  clear n1
  have e:Af a=(decide (0≤a.server∧a.server<4)&&Ah a.request&&decide (a.n=0)&&decide (a.picks.length=0)&& !a.is):=by unfold Af;simp only[kk];rfl
  (conv=>whnf)
  (repeat' ((first
   |(exact absurd kk (by with_reducible assumption))
   |(split<;>rename_i hh<;>(try simp only[wS] at hh))
   |with_reducible refine lnI fun hln=>?_
   |fail)<;>(conv=>whnf)))
  all_goals (try (show _=_;simp only[wQ]))
  all_goals try (rw[e];simp_all;done)
  all_goals try (rw[e];simp_all;omega)
  refine⟨a.request,hp,?_,?_⟩
  ·exact Ac _
  (conv=>whnf)
  (repeat' ((first
   |(split<;>rename_i hh<;>(try simp only[wS] at hh))
   |fail)<;>(conv=>whnf)))
  all_goals (try (show _=_;simp only[wQ]))
  all_goals try (rw[e];simp_all;done)
  all_goals try (
   refine⟨({ a with server:=0,request:=Ay }:Act),True.intro,?_,?_⟩
   ·exact tL
   (conv=>whnf)
   all_goals (try (show _=_;simp only[wQ]))
   all_goals (rw[e];unfold Gc;simp_all;done))
  all_goals skip
 ·skip
  by_cases n2:a.kind=2
  ·have kk:=n2
   clear n2
   have e:Af a=(decide (a.picks.length≤1000)&&decide (a.server=0)&&Dq a.request Ay&&decide (a.n=0)&& !a.is):=by unfold Af;simp only[kk];rfl
   (conv=>whnf)
   (repeat' ((first
    |(exact absurd (by with_reducible assumption) n1)
    |(exact absurd kk (by with_reducible assumption))
    |(split<;>rename_i hh<;>(try simp only[wS] at hh))
    |with_reducible refine lnI fun hln=>?_
    |fail)<;>(conv=>whnf)))
   all_goals (try (show _=_;simp only[wQ]))
   all_goals try (rw[e];simp_all;done)
   all_goals try (rw[e];simp_all;omega)
   all_goals try (
    have hpk:a.picks.length≤1000:=by omega
    refine⟨({ a with picks:=[] }:Act),True.intro,?_,?_⟩
    ·exact tL
    (conv=>whnf)
    all_goals (try (show _=_;simp only[wQ]))
    all_goals (rw[e];unfold Gc;simp_all;done))
   all_goals skip
  ·skip
   by_cases n3:a.kind=3
   ·have kk:=n3
    clear n3
    have e:Af a=(decide (0≤a.server∧a.server<4)&&decide (0≤a.n∧a.n≤1000000)&&Dq a.request Ay&&decide (a.picks.length=0)&& !a.is):=by unfold Af;simp only[kk];rfl
    (conv=>whnf)
    (repeat' ((first
     |(exact absurd (by with_reducible assumption) n1)
     |(exact absurd (by with_reducible assumption) n2)
     |(exact absurd kk (by with_reducible assumption))
     |(split<;>rename_i hh<;>(try simp only[wS] at hh))
     |with_reducible refine lnI fun hln=>?_
     |fail)<;>(conv=>whnf)))
    all_goals (try (show _=_;simp only[wQ]))
    all_goals try (rw[e];simp_all;done)
    all_goals try (rw[e];simp_all;omega)
    all_goals try (
     refine⟨({ a with server:=0,n:=0 }:Act),True.intro,?_,?_⟩
     ·exact Ac _
     (conv=>whnf)
     all_goals (try (show _=_;simp only[wQ]))
     all_goals (rw[e];unfold Gc;simp_all;done))
    all_goals skip
   ·skip
    by_cases n4:a.kind=4
    ·have kk:=n4
     clear n4
     have e:Af a=(decide (0≤a.server∧a.server<4)&&decide (a.picks.length≤1000)&&Dq a.request Ay&&decide (a.n=0)&& !a.is):=by unfold Af;simp only[kk];rfl
     (conv=>whnf)
     (repeat' ((first
      |(exact absurd (by with_reducible assumption) n1)
      |(exact absurd (by with_reducible assumption) n2)
      |(exact absurd (by with_reducible assumption) n3)
      |(exact absurd kk (by with_reducible assumption))
      |(split<;>rename_i hh<;>(try simp only[wS] at hh))
      |with_reducible refine lnI fun hln=>?_
      |fail)<;>(conv=>whnf)))
     all_goals (try (show _=_;simp only[wQ]))
     all_goals try (rw[e];simp_all;done)
     all_goals try (rw[e];simp_all;omega)
     all_goals try (
      have hpk:a.picks.length≤1000:=by omega
      refine⟨({ a with server:=0,picks:=[] }:Act),True.intro,?_,?_⟩
      ·exact tL
      (conv=>whnf)
      all_goals (try (show _=_;simp only[wQ]))
      all_goals (rw[e];unfold Gc;simp_all;done))
     all_goals skip
    ·skip
     by_cases n5:a.kind=5
     ·have kk:=n5
      clear n5
      have e:Af a=(decide (a.server=0)&&Dq a.request Ay&&decide (a.n=0)&&decide (a.picks.length=0)):=by unfold Af;simp only[kk];rfl
      (conv=>whnf)
      (repeat' ((first
       |(exact absurd (by with_reducible assumption) n1)
       |(exact absurd (by with_reducible assumption) n2)
       |(exact absurd (by with_reducible assumption) n3)
       |(exact absurd (by with_reducible assumption) n4)
       |(exact absurd kk (by with_reducible assumption))
       |(split<;>rename_i hh<;>(try simp only[wS] at hh))
       |with_reducible refine lnI fun hln=>?_
       |fail)<;>(conv=>whnf)))
      all_goals try (rw[e];simp_all;done)
      all_goals try (rw[e];simp_all;omega)
      all_goals try (
       refine⟨({ a with is:=false }:Act),True.intro,?_,?_⟩
       ·exact Ac _
       (conv=>whnf)
       all_goals (try (show _=_;simp only[wQ]))
       all_goals (rw[e];unfold Gc;simp_all;done))
      all_goals skip
     ·have e:Af a=false:=by unfold Af;rw[if_neg n1,if_neg n2,if_neg n3,if_neg n4,if_neg n5]
      (conv=>whnf)
      (repeat' ((first
       |(exact absurd (by with_reducible assumption) n1)
       |(exact absurd (by with_reducible assumption) n2)
       |(exact absurd (by with_reducible assumption) n3)
       |(exact absurd (by with_reducible assumption) n4)
       |(exact absurd (by with_reducible assumption) n5)
       |(split<;>rename_i hh<;>(try simp only[wS] at hh))
       |with_reducible refine lnI fun hln=>?_
       |fail)<;>(conv=>whnf)))
      all_goals (try (show _=_;simp only[wQ]))
      all_goals (rw[e];done)
end
end Go.Vc.Z
