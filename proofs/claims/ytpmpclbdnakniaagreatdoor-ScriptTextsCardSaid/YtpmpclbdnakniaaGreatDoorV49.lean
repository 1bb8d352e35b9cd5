/- The law ScriptTexts: true. -/
import Derived.Test.YtpmpclbdnakniaaGreatDoorV48
set_option linter.all false
set_option maxHeartbeats 8000000
namespace Go.Vc.Z
open Go Go.Vc Go.Proofs Go.RowKit Go.Pl Go.Lib
theorem Abe{c:UInt8}{t:List UInt8}{m:Nat}(h:t.length≤m)(i:Nat):((Aa c t).getD i []).length≤m:=by
 have:=Fo (c:=c) (s:=t) (m:=m) h i;rw[Ck] at this;exact this
noncomputable section
set_option maxRecDepth 100000
attribute [local irreducible] inK Utf8.decode Utf8.encode Lib.itoa Pl.worth Pl.allDig
attribute [local irreducible] Lib.join Bp Aa scL
def A82(A:List Act):LoopSpec:={
 α:=Nat
 keep:=[4,7,9]
 vals i:=[slE 17 Act.enc A,slE 17 Act.enc A,.int .i64 i]
 heap _:=[.dead,.dead,.dead,.dead]
 ok i:=i≤A.length
 μ i:=A.length - i }
def Atf:PC:=PC.of (fun x:List UInt8 × Setup × List Act × Int=>[.str x.1]) (fun x=>dM x.1 x.2.1 x.2.2.1 x.2.2.2∧(x.2.2.2=0∨x.2.2.2=4)) (fun _=>.bool (sB true))
def Em:PT:=Cg [(12,Akz),(32,Amc),(41,Atb),(43,Abd),(44,Amj)]
theorem Hv{W:World}(hW:Gd W):Cb (Fw W) Tryz.prog Em:=(Ab Tryz.call12 (Arc hW.1) (Ab Tryz.call32 (Yy hW.1) (Ab Tryz.call41 (bB hW) (Ab Tryz.call43 (R9 hW.1) (Ab Tryz.call44 (Tc hW) Aq)))))
def En:FuncId→Option Ctr:=Av Em []
theorem Pf{W:World}(hW:Gd W):Ad (Fw W) Tryz.prog En:=(Ar (Hv hW))
def Pg:List UInt8 × Setup × List Act × Int→Nat→Option LR:=fun x i=>cond (Nat.beq i 8) (some (.inv (A82 x.2.2.1))) (none)
theorem Ph{W:World}(hW:Gd W):GoodP (Fw W) Tryz.prog 10 Atf:=by
 have hD:=Hv hW;have hC0:∀ x:List UInt8 × Setup × List Act × Int,Ad (Fw W) Tryz.prog En:=fun x=>(Pf hW);refine As (D:=Em) (C:=fun x=>En) (wr:=(fun _=>false)) rfl Ao hD hC0 Tryz.func10 (Pg) (fun _=>rfl) ?_;rintro⟨t,s,A,er⟩ hf hp;clear hf;obtain⟨hsc,her⟩:=hp;change dM t s A er at hsc;change er=0∨er=4 at her;by_cases hl:t.length≤3000
 ·have h40: ¬(4:Int)=0:=by decide
  have hssame:=gG s;have hsame:∀ a:Act,gB a a=true:=fun a=>Aa7.2 rfl;have hl1:∀ i,((Aa 10 (Ko t)).getD i []).length≤1000000:=Abe (Nat.le_trans (dJ t) (Nat.le_trans hl (by decide)))
  have hl2:∀ i,((Aa 10 t).getD i []).length≤1000000:=Abe (Nat.le_trans hl (by decide))
  rcases her with rfl|rfl;all_goals (
   (conv=>whnf)
   (repeat' (first|refine⟨tU,?_⟩|split<;>rename_i hh<;>try simp only[wS] at hh|with_reducible refine lnI fun hln=>?_)<;>conv=>whnf)
   all_goals try (exfalso;omega)
   refine⟨(⟨s,A,_,t,Aa 10 (Ko t)⟩:ScO),⟨hsc,rfl,hl1,Nat.le_trans hl (by decide)⟩,?_,?_⟩
   ·exact Ac _;all_goals skip
   (conv=>whnf)
   refine⟨(⟨s,A,_,t,Aa 10 t⟩:ScO),⟨hsc,rfl,hl2,Nat.le_trans hl (by decide)⟩,?_,?_⟩
   ·exact Ac _;all_goals skip
   (conv=>whnf)
   (repeat' (first|(exact absurd (by decide) hh)|(exact absurd rfl hh)|(exact absurd (by with_reducible assumption) h40)|split<;>rename_i hh<;>try simp only[wS] at hh)<;>conv=>whnf)
   refine⟨((s,s):Setup × Setup),True.intro,?_,?_⟩
   ·exact Ac _;all_goals skip
   (conv=>whnf)
   (repeat' (first|(exact absurd (by decide) hh)|(exact absurd (hssame.symm.trans (by with_reducible assumption)) Bool.true_eq_false.mp)|split<;>rename_i hh<;>try simp only[wS] at hh|with_reducible refine lnI fun hln=>?_)<;>conv=>whnf)
   all_goals try (exfalso;first|omega|exact absurd True.intro (by assumption)|exact absurd rfl (by assumption))
   refine⟨?_,fun(i:Nat) hi=>?_⟩
   ·(conv=>whnf)
    refine⟨(0:Nat),[],?_,⟨⟨rfl,(nB rfl),rfl⟩,?_,?_⟩⟩
    ·exact Nat.zero_le _
    ·exact tL
    ·exact tL
   ·change i≤A.length at hi;by_cases hlt:i<A.length
    ·(conv=>whnf)
     (repeat' (first|refine⟨tU,?_⟩|split<;>rename_i hh<;>try simp only[wS] at hh|with_reducible refine lnI fun hln=>?_)<;>conv=>whnf)
     all_goals try (exfalso;omega)
     refine⟨((A.getD i default,A.getD i default):Act × Act),True.intro,?_,?_⟩
     ·exact Ac _;all_goals skip
     have hsame:=hsame (A.getD i default)
     (conv=>whnf)
     (repeat' (first|(exact absurd (hsame.symm.trans (by with_reducible assumption)) Bool.true_eq_false.mp)|refine⟨tU,?_⟩|split<;>rename_i hh<;>try simp only[wS] at hh)<;>conv=>whnf)
     (conv=>whnf)
     refine⟨(i+1:Nat),[],?_,⟨⟨rfl,(nB rfl),rfl⟩,?_,?_⟩⟩
     ·exact⟨show i+1≤A.length by omega,show A.length - (i+1)<A.length - i by omega⟩
     ·exact tL
     ·exact tL
    ·(conv=>whnf)
     (repeat' (first|refine⟨tU,?_⟩|split<;>rename_i hh<;>try simp only[wS] at hh|with_reducible refine lnI fun hln=>?_)<;>conv=>whnf)
     all_goals first|(exfalso;omega)|rfl|skip)
 ·(conv=>whnf)
  (repeat' (first|refine⟨tU,?_⟩|split<;>rename_i hh<;>try simp only[wS] at hh|with_reducible refine lnI fun hln=>?_)<;>conv=>whnf)
  all_goals first|rfl|(exfalso;omega)|skip
def Atg:PC:=PC.of (fun x:List UInt8=>[.str x]) (fun _=>True) (fun _=>.bool (sB true))
theorem Awe{W:World}(hW:Gd W):GoodP (Fw W) Tryz.prog 10 Atg:=by
 intro S w cs vs Q hs hv hT;obtain⟨x,_,h2,h3⟩:=hT;obtain⟨s,A,e,h4,h5⟩:=Awb x;exact Ph hW S w cs vs Q hs hv ⟨(x,s,A,e),⟨h4,h5⟩,h2,h3⟩
end
end Go.Vc.Z
