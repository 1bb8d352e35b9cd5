/- The law ScriptReads: true. -/
import Derived.Test.YtpmpclbdnakniaaGreatDoorV37
import Derived.Test.YtpmpclbdnakniaaGreatDoorV36
set_option linter.all false
set_option linter.unusedVariables false
set_option linter.unusedSimpArgs false
namespace Go.Vc.Z
open Go Go.Vc Go.Proofs Go.RowKit Go.Pl Go.Lib
theorem Ans(s:List UInt8):lV s=(D1,4)∨∃ a,Ah a=true∧lV s=(a,0):=by
 by_cases hx:∃ a,Ah a=true∧fitA a∧Cc a=s
 ·obtain⟨a,h1,h2,h3⟩:=hx
  subst h3
  exact .inr ⟨a,h1,wC h1 h2⟩
 ·exact .inl (cZ fun a h1 h2 h3=>hx ⟨a,h1,h2,h3⟩)
noncomputable section
set_option maxRecDepth 100000
attribute [local irreducible] inK Utf8.decode Utf8.encode Lib.itoa Pl.worth Pl.allDig
attribute [local irreducible] Lib.join
def Aqb:PC:=PC.of (fun s:List UInt8=>[.str s]) (fun _=>True) (fun _=>.bool (sB true))
def Ez:PT:=C8 [(12,xW),(26,yJ),(28,Mj),(29,Afj),(30,yN),(31,Ad1),(32,yO)]
theorem Hu{W:World}(hW:Js W):Ct (Fw W) Tryz.prog Ez:=(Ab Tryz.call12 (Adt hW.1) (Ab Tryz.call26 (Ahi hW.1) (Ab Tryz.call28 (Gc hW.1) (Ab Tryz.call29 (Jb hW.1) (Ab Tryz.call30 (Tz hW) (Ab Tryz.call31 (Vf hW.1) (Ab Tryz.call32 (N8 hW.1) Av)))))))
def E0:FuncId→Option Ctr:=Az Ez []
theorem Oe{W:World}(hW:Js W):Ad (Fw W) Tryz.prog E0:=(Aw (Hu hW))
set_option maxHeartbeats 2000000 in
theorem Of{W:World}(hW:Js W):GoodP (Fw W) Tryz.prog 6 Aqb:=by
 have hD:=Hu hW
 have hC0:∀ s:List UInt8,Ad (Fw W) Tryz.prog E0:=fun s=>(Oe hW)
 refine As (D:=Ez) (C:=fun s=>E0) (wr:=(fun _=>false)) rfl Ao hD hC0 Tryz.func6 (fun _ _=>none) (fun _=>rfl) ?_
 intro s hf hp
 clear hf
 have hall:s.length≤1000→∃ (r:Request) (e:Int) (a:Act) (f:Int),(R6 s=(r,e)∧lV s=(a,f))∧(e=0∨e=4)∧(f=0∨f=4):=fun _=>by
  rcases Tw s with h|⟨r,_,h⟩<;>rcases Ans s with g|⟨a,_,g⟩<;>exact⟨_,_,_,_,⟨h,g⟩,by decide,by decide⟩
 (conv=>whnf)
 (repeat' ((first
  |((with_reducible refine aI ?_ ?_);focus (with_reducible exact⟨⟩))
  |(split<;>rename_i hh<;>(try simp only[wS] at hh))
  |with_reducible refine lnI fun hln=>?_
  |fail)<;>(conv=>whnf)))
 ·have hs:s.length≤1000:=by omega
  have hs6:s.length≤1000000:=by omega
  obtain⟨r,e,a,f,⟨hr,ha⟩,he,hf⟩:=hall hs
  have h40: ¬(4:Int)=0:=by decide
  have hsr:Du r r=true:=Ba.2 rfl
  have hsa:Yh a a=true:=Z7.2 rfl
  rcases he with rfl|rfl<;>rcases hf with rfl|rfl
  all_goals (
   refine⟨((s,r,_):List UInt8 × Request × Int),⟨hr,hs6⟩,?_,?_⟩
   ·exact Ac _
   (conv=>whnf)
   refine⟨((s,r,_):List UInt8 × Request × Int),⟨hr,hs6⟩,?_,?_⟩
   ·exact Ac _
   (conv=>whnf)
   refine⟨((s,a,_):List UInt8 × Act × Int),⟨ha,hs6⟩,?_,?_⟩
   ·exact Ac _
   (conv=>whnf)
   refine⟨((s,a,_):List UInt8 × Act × Int),⟨ha,hs6⟩,?_,?_⟩
   ·exact Ac _
   (conv=>whnf)
   refine⟨((r,r):Request × Request),True.intro,?_,?_⟩
   ·exact Ac _
   (conv=>whnf)
   (repeat' ((first
    |(exact absurd (by decide) hh)
    |(exact absurd rfl hh)
    |(exact absurd (by with_reducible assumption) h40)
    |(exact absurd (hsr.symm.trans (by with_reducible assumption)) Bool.true_eq_false.mp)
    |(split<;>rename_i hh<;>(try simp only[wS] at hh))
    |fail)<;>(conv=>whnf)))
   refine⟨((a,a):Act × Act),True.intro,?_,?_⟩
   ·exact Ac _
   (conv=>whnf)
   (repeat' ((first
    |(exact absurd (by decide) hh)
    |(exact absurd rfl hh)
    |(exact absurd (by with_reducible assumption) h40)
    |(exact absurd (hsa.symm.trans (by with_reducible assumption)) Bool.true_eq_false.mp)
    |((with_reducible refine aI ?_ ?_);focus (with_reducible exact⟨⟩))
    |(split<;>rename_i hh<;>(try simp only[wS] at hh))
    |fail)<;>(conv=>whnf)))
   all_goals (try (show _=_;simp only[wQ]))
   all_goals rfl)
end
end Go.Vc.Z
