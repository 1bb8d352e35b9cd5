/- Acts: which may be written. -/
import Derived.Test.YtpmpclbdnakniaaGreatDoorV32
set_option linter.all false
set_option linter.unusedVariables false
set_option linter.unusedSimpArgs false
namespace Go.Vc.Z
open Go Go.Vc Go.Proofs Go.RowKit Go.Pl Go.Lib
structure Act where
 kind:Int
 server:Int
 request:Request
 n:Int
 picks:List Int
 is:Bool
deriving Inhabited
abbrev Act.enc(a:Act):List AV:=[.int .i64 a.kind,.int .i64 a.server,.str a.request.key,.int .i64 a.request.kind,.int .i64 a.request.day,.int .u64 a.request.ticket,.int .i64 a.request.coupon,.int .i64 a.request.status,.str a.request.locator,slE 6 Coupon.enc a.request.coupons,slE 2 Tax.enc a.request.taxes,.int .i64 a.request.amount,.int .i64 a.request.frm,.int .i64 a.request.til,.int .i64 a.n,slE 1 fZ a.picks,.bool a.is]
@[irreducible] noncomputable def Gw(a:Act):Bool:=decide (a.server=0)&&Du a.request An&&decide (a.n=0)&&decide (a.picks.length=0)&& !a.is
@[irreducible] noncomputable def Ah(a:Act):Bool:=
 if a.kind=1 then decide (0≤a.server∧a.server<4)&&Af a.request&&decide (a.n=0)&&decide (a.picks.length=0)&& !a.is
 else if a.kind=2 then decide (a.picks.length≤1000)&&decide (a.server=0)&&Du a.request An&&decide (a.n=0)&& !a.is
 else if a.kind=3 then decide (0≤a.server∧a.server<4)&&decide (0≤a.n∧a.n≤1000000)&&Du a.request An&&decide (a.picks.length=0)&& !a.is
 else if a.kind=4 then decide (0≤a.server∧a.server<4)&&decide (a.picks.length≤1000)&&Du a.request An&&decide (a.n=0)&& !a.is
 else if a.kind=5 then decide (a.server=0)&&Du a.request An&&decide (a.n=0)&&decide (a.picks.length=0)
 else false
theorem Anb{a:Act}(h: ¬a.server=0):Gw a=false:=by unfold Gw;rw[decide_eq_false h];rfl
theorem Ane{a:Act}(h:Du a.request An=false):Gw a=false:=by unfold Gw;rw[h];simp
theorem Anf{a:Act}(h: ¬a.n=0):Gw a=false:=by unfold Gw;rw[decide_eq_false h];simp
theorem Ang{a:Act}(h: ¬a.picks.length=0):Gw a=false:=by unfold Gw;rw[decide_eq_false h];simp
theorem Anh{a:Act}(h:a.is=true):Gw a=false:=by unfold Gw;rw[h];simp
theorem Ani{a:Act}(h1:a.server=0)(h2:Du a.request An=true)(h3:a.n=0)(h4:a.picks.length=0)(h5:a.is=false):Gw a=true:=by unfold Gw;rw[h1,h2,h3,h4,h5];rfl
noncomputable section
set_option maxRecDepth 100000
attribute [local irreducible] inK Utf8.decode Utf8.encode Lib.itoa Pl.worth Pl.allDig
attribute [local irreducible] Lib.join Ca Aa
def Ahm:PC:=PC.of (fun a:Act=>[.agg a.enc]) (fun _=>True) (fun a=>.bool (sB (Gw a)))
def N2:PT:=C8 [(142,Mj)]
theorem Ts{W:World}(hW:Tabs W):Ct (Fw W) Tryz.prog N2:=(Ab Tryz.call142 (Nw hW) Av)
def N3:FuncId→Option Ctr:=Az N2 []
theorem lF{W:World}(hW:Tabs W):Ad (Fw W) Tryz.prog N3:=(Aw (Ts hW))
set_option maxHeartbeats 2000000 in
theorem lG{W:World}(hW:Tabs W):GoodP (Fw W) Tryz.prog 98 Ahm:=by
 have hD:=Ts hW
 have hC0:∀ a:Act,Ad (Fw W) Tryz.prog N3:=fun a=>(lF hW)
 refine As (D:=N2) (C:=fun a=>N3) (wr:=(fun _=>false)) rfl Ao hD hC0 Tryz.func98 (fun _ _=>none) (fun _=>rfl) ?_
 intro a hf hp
 clear hf
 (conv=>whnf)
 (repeat' ((first
  |(split<;>rename_i hh<;>(try simp only[wS] at hh))
  |fail)<;>(conv=>whnf)))
 all_goals (try (show _=_;simp only[wQ]))
 ·refine⟨((a.request,An):Request × Request),True.intro,?_,?_⟩
  ·exact tL
  (conv=>whnf)
  (repeat' ((first
   |(split<;>rename_i hh<;>(try simp only[wS] at hh))
   |with_reducible refine lnI fun hln=>?_
   |fail)<;>(conv=>whnf)))
  all_goals (try (show _=_;simp only[wQ]))
  ·have hq:a.picks.length=0:=Int.ofNat.inj (by assumption)
   cases hi:a.is
   ·exact(Ani (by assumption) (by assumption) (by assumption) hq hi).symm
   ·exact(Anh hi).symm
  ·exact(Ang (fun h=>absurd (congrArg Int.ofNat h) (by assumption))).symm
  ·exact(Anf (by assumption)).symm
  ·exact(Ane (by assumption)).symm
 ·exact(Anb (by assumption)).symm
def Ye:PC:=PC.of (fun a:Act=>[.agg a.enc]) (fun a=>Fy a.request) (fun a=>.bool (sB (Ah a)))
def lH:PT:=C8 [(71,iW),(98,Ahm)]
theorem Adu{W:World}(hW:Tabs W):Ct (Fw W) Tryz.prog lH:=(Ab Tryz.call71 (Yd hW) (Ab Tryz.call98 (lG hW) Av))
def lI:FuncId→Option Ctr:=Az lH []
theorem Anj{W:World}(hW:Tabs W):Ad (Fw W) Tryz.prog lI:=(Aw (Adu hW))
set_option maxHeartbeats 2000000 in
theorem lJ{W:World}(hW:Tabs W):GoodP (Fw W) Tryz.prog 36 Ye:=by
 have hD:=Adu hW
 have hC0:∀ a:Act,Ad (Fw W) Tryz.prog lI:=fun a=>(Anj hW)
 refine As (D:=lH) (C:=fun a=>lI) (wr:=(fun _=>false)) rfl Ao hD hC0 Tryz.func36 (fun _ _=>none) (fun _=>rfl) ?_
 intro a hf hp
 clear hf
 have hz:Du An An=true:=Ba.2 rfl
 by_cases n1:a.kind=1
 ·have kk:=n1
  clear n1
  have e:Ah a=(decide (0≤a.server∧a.server<4)&&Af a.request&&decide (a.n=0)&&decide (a.picks.length=0)&& !a.is):=by unfold Ah;simp only[kk];rfl
  (conv=>whnf)
  (repeat' ((first
   |(exact absurd kk (by with_reducible assumption))
   |(split<;>rename_i hh<;>(try simp only[wS] at hh))
   |with_reducible refine lnI fun hln=>?_
   |fail)<;>(conv=>whnf)))
  all_goals (try (show _=_;simp only[wQ]))
  all_goals try (rw[e];simp_all;done)
  all_goals try (rw[e];simp_all;omega)
  refine⟨a.request,hp,?_,?_⟩
  ·exact Ac _
  (conv=>whnf)
  (repeat' ((first
   |(split<;>rename_i hh<;>(try simp only[wS] at hh))
   |fail)<;>(conv=>whnf)))
  all_goals (try (show _=_;simp only[wQ]))
  all_goals try (rw[e];simp_all;done)
  all_goals try (
   refine⟨({ a with server:=0,request:=An }:Act),True.intro,?_,?_⟩
   ·exact tL
   (conv=>whnf)
   all_goals (try (show _=_;simp only[wQ]))
   all_goals (rw[e];unfold Gw;simp_all;done))
  all_goals skip
 ·skip
  by_cases n2:a.kind=2
  ·have kk:=n2
   clear n2
   have e:Ah a=(decide (a.picks.length≤1000)&&decide (a.server=0)&&Du a.request An&&decide (a.n=0)&& !a.is):=by unfold Ah;simp only[kk];rfl
   (conv=>whnf)
   (repeat' ((first
    |(exact absurd (by with_reducible assumption) n1)
    |(exact absurd kk (by with_reducible assumption))
    |(split<;>rename_i hh<;>(try simp only[wS] at hh))
    |with_reducible refine lnI fun hln=>?_
    |fail)<;>(conv=>whnf)))
   all_goals (try (show _=_;simp only[wQ]))
   all_goals try (rw[e];simp_all;done)
   all_goals try (rw[e];simp_all;omega)
   all_goals try (
    have hpk:a.picks.length≤1000:=by omega
    refine⟨({ a with picks:=[] }:Act),True.intro,?_,?_⟩
    ·exact tL
    (conv=>whnf)
    all_goals (try (show _=_;simp only[wQ]))
    all_goals (rw[e];unfold Gw;simp_all;done))
   all_goals skip
  ·skip
   by_cases n3:a.kind=3
   ·have kk:=n3
    clear n3
    have e:Ah a=(decide (0≤a.server∧a.server<4)&&decide (0≤a.n∧a.n≤1000000)&&Du a.request An&&decide (a.picks.length=0)&& !a.is):=by unfold Ah;simp only[kk];rfl
    (conv=>whnf)
    (repeat' ((first
     |(exact absurd (by with_reducible assumption) n1)
     |(exact absurd (by with_reducible assumption) n2)
     |(exact absurd kk (by with_reducible assumption))
     |(split<;>rename_i hh<;>(try simp only[wS] at hh))
     |with_reducible refine lnI fun hln=>?_
     |fail)<;>(conv=>whnf)))
    all_goals (try (show _=_;simp only[wQ]))
    all_goals try (rw[e];simp_all;done)
    all_goals try (rw[e];simp_all;omega)
    all_goals try (
     refine⟨({ a with server:=0,n:=0 }:Act),True.intro,?_,?_⟩
     ·exact Ac _
     (conv=>whnf)
     all_goals (try (show _=_;simp only[wQ]))
     all_goals (rw[e];unfold Gw;simp_all;done))
    all_goals skip
   ·skip
    by_cases n4:a.kind=4
    ·have kk:=n4
     clear n4
     have e:Ah a=(decide (0≤a.server∧a.server<4)&&decide (a.picks.length≤1000)&&Du a.request An&&decide (a.n=0)&& !a.is):=by unfold Ah;simp only[kk];rfl
     (conv=>whnf)
     (repeat' ((first
      |(exact absurd (by with_reducible assumption) n1)
      |(exact absurd (by with_reducible assumption) n2)
      |(exact absurd (by with_reducible assumption) n3)
      |(exact absurd kk (by with_reducible assumption))
      |(split<;>rename_i hh<;>(try simp only[wS] at hh))
      |with_reducible refine lnI fun hln=>?_
      |fail)<;>(conv=>whnf)))
     all_goals (try (show _=_;simp only[wQ]))
     all_goals try (rw[e];simp_all;done)
     all_goals try (rw[e];simp_all;omega)
     all_goals try (
      have hpk:a.picks.length≤1000:=by omega
      refine⟨({ a with server:=0,picks:=[] }:Act),True.intro,?_,?_⟩
      ·exact tL
      (conv=>whnf)
      all_goals (try (show _=_;simp only[wQ]))
      all_goals (rw[e];unfold Gw;simp_all;done))
     all_goals skip
    ·skip
     by_cases n5:a.kind=5
     ·have kk:=n5
      clear n5
      have e:Ah a=(decide (a.server=0)&&Du a.request An&&decide (a.n=0)&&decide (a.picks.length=0)):=by unfold Ah;simp only[kk];rfl
      (conv=>whnf)
      (repeat' ((first
       |(exact absurd (by with_reducible assumption) n1)
       |(exact absurd (by with_reducible assumption) n2)
       |(exact absurd (by with_reducible assumption) n3)
       |(exact absurd (by with_reducible assumption) n4)
       |(exact absurd kk (by with_reducible assumption))
       |(split<;>rename_i hh<;>(try simp only[wS] at hh))
       |with_reducible refine lnI fun hln=>?_
       |fail)<;>(conv=>whnf)))
      all_goals try (rw[e];simp_all;done)
      all_goals try (rw[e];simp_all;omega)
      all_goals try (
       refine⟨({ a with is:=false }:Act),True.intro,?_,?_⟩
       ·exact Ac _
       (conv=>whnf)
       all_goals (try (show _=_;simp only[wQ]))
       all_goals (rw[e];unfold Gw;simp_all;done))
      all_goals skip
     ·have e:Ah a=false:=by unfold Ah;rw[if_neg n1,if_neg n2,if_neg n3,if_neg n4,if_neg n5]
      (conv=>whnf)
      (repeat' ((first
       |(exact absurd (by with_reducible assumption) n1)
       |(exact absurd (by with_reducible assumption) n2)
       |(exact absurd (by with_reducible assumption) n3)
       |(exact absurd (by with_reducible assumption) n4)
       |(exact absurd (by with_reducible assumption) n5)
       |(split<;>rename_i hh<;>(try simp only[wS] at hh))
       |with_reducible refine lnI fun hln=>?_
       |fail)<;>(conv=>whnf)))
      all_goals (try (show _=_;simp only[wQ]))
      all_goals (rw[e];done)
end
end Go.Vc.Z
