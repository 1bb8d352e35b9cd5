/- couponref26.RequestOf: the request of a line, the reference's. -/
import Derived.Test.YtpmpclbdnakniaaGreatDoorV29
set_option linter.all false
set_option maxHeartbeats 8000000
namespace Go.Vc.Z
open Go Go.Vc Go.Proofs Go.RowKit Go.Pl Go.Lib
theorem Aol{w:List UInt8}(h:kindOf w≠0):Cd (kindOf w)=w:=by
 unfold kindOf at h ⊢;repeat' split
 all_goals first|(rename_i e;rw[e,B8 ⟨by decide,by decide⟩];rfl)|simp_all
@[irreducible] def pF(w:List UInt8)(k:Int):Int:=if kindOf w<k then kindOf w else 0
theorem A05{w:List UInt8}{k:Int}(h1:1≤k∧k≤10)(h:Dd.getD (k - 1).toNat []=w):pF w (k+1)=k:=by
 have e:kindOf w=k:=by rw[←h,←B8 h1];exact cO h1
 unfold pF;rw[e,if_pos (by omega)]
theorem Au3{w:List UInt8}{k:Int}(h1:1≤k∧k≤10)(h: ¬Dd.getD (k - 1).toNat []=w):pF w (k+1)=pF w k:=by
 have e:kindOf w≠k:=fun e=>h (by rw[←B8 h1,←e];exact Aol (by omega))
 unfold pF;by_cases hl:kindOf w<k
 ·rw[if_pos (by omega),if_pos hl]
 ·rw[if_neg (by omega),if_neg hl]
theorem A06(w:List UInt8):pF w 11=kindOf w:=by
 have:kindOf w≤10:=by rcases J8 w with h|h|h|h|h|h|h|h|h|h|h<;>omega
 unfold pF;rw[if_pos (by omega)]
theorem Au4(w:List UInt8):pF w 1=0:=by
 have:0≤kindOf w:=by rcases J8 w with h|h|h|h|h|h|h|h|h|h|h<;>omega
 unfold pF;by_cases h:kindOf w<1
 ·rw[if_pos h];omega
 ·rw[if_neg h]
noncomputable section
set_option maxRecDepth 100000
attribute [local irreducible] inK Utf8.decode Utf8.encode Lib.itoa Pl.worth Pl.allDig
attribute [local irreducible] Lib.join Bp Aa
def LKk(s:List UInt8):LoopSpec:={
 α:=Int × Int
 keep:=[0,2,4,5,6]
 vals y:=match y with|(k,_)=>[.str s,.ptr 0 0,slS (sL (Aa 32 s)),.ptr 1 0,.int .i64 k]
 heap y:=match y with|(_,q)=>[.var [.str [],.int .i64 0,.int .i64 0,.int .u64 0,.int .i64 0,.int .i64 0,.str [],.nilsl,.nilsl,.int .i64 0,.int .i64 0,.int .i64 0] (some 56),.var [.str [],.int .i64 q,.int .i64 0,.int .u64 0,.int .i64 0,.int .i64 0,.str [],.nilsl,.nilsl,.int .i64 0,.int .i64 0,.int .i64 0] (some 56)]
 ok y:=1≤y.1∧y.1≤11∧y.2=pF ((sL (Aa 32 s)).getD 0 []) y.1
 μ y:=(11 - y.1).toNat }
def Ar4:PC:=PC.of (fun x:List UInt8 × Request × Int=>[.str x.1]) (fun x=>Ve x.1=x.2∧x.1.length≤1000000) (fun x=>.tup [.agg x.2.1.enc,.bool (sB (decide (x.2.2=0)))])
def Fp:PT:=Cg [(25,lB),(27,Yl),(75,Ae0),(80,Acj),(86,Aj1),(87,Zq),(88,Apx),(89,Al7),(90,Ac3),(91,Azp),(92,Azq)]
theorem Jf{W:World}(hW:Tabs W):Cb (Fw W) Tryz.prog Fp:=(Ab Tryz.call25 (Pw hW) (Ab Tryz.call27 (Ht hW) (Ab Tryz.call75 (Gv hW) (Ab Tryz.call80 (M4 hW) (Ab Tryz.call86 (Ka hW) (Ab Tryz.call87 (E9 hW) (Ab Tryz.call88 (Q2 hW) (Ab Tryz.call89 (Vi hW) (Ab Tryz.call90 (M6 hW) (Ab Tryz.call91 (Pe hW) (Ab Tryz.call92 (Ru hW) Aq)))))))))))
def Fq:FuncId→Option Ctr:=Av Fp []
theorem Rv{W:World}(hW:Tabs W):Ad (Fw W) Tryz.prog Fq:=(Ar (Jf hW))
def Rw:List UInt8 × Request × Int→Nat→Option LR:=fun x i=>cond (Nat.beq i 4) (some (.inv (LKk x.1))) (cond (Nat.beq i 14) (some (.unroll 7)) (none))
theorem Rx{W:World}(hW:Tabs W):GoodP (Fw W) Tryz.prog 29 Ar4:=by
 have hD:=Jf hW;have hC0:∀ x:List UInt8 × Request × Int,Ad (Fw W) Tryz.prog Fq:=fun x=>(Rv hW);refine As (D:=Fp) (C:=fun x=>Fq) (wr:=(fun _=>false)) rfl Ao hD hC0 Tryz.func29 (Rw) (fun _=>rfl) ?_;intro x hf hp;clear hf;obtain⟨hq,hs⟩:=hp;have hlen1:=Di 32 x.1;have hsL:=Ck (Aa 32 x.1);have hl1:1≤(sL (Aa 32 x.1)).length:=by rw[hsL];exact hlen1
 have hmem:∀ i,((sL (Aa 32 x.1)).getD i []).length≤1000000:=fun i=>Fo hs i;have hfail:(∀ r,Af r=true→Be r=x.1→False)→x.2=(An,4):=fun h=>by rw[←hq];exact aP h
 refine⟨((x.1,32):List UInt8 × UInt8),Nat.le_trans hs (by decide),?_,?_⟩
 ·exact Ac _
 (conv=>whnf)
 refine⟨?_,fun(y:Int × Int) hy=>?_⟩
 ·(conv=>whnf)
  refine⟨((1,0):Int × Int),[],?_,⟨⟨rfl,(nB rfl),rfl⟩,?_,?_⟩⟩
  ·exact⟨by decide,by decide,(Au4 _).symm⟩
  ·exact tL
  ·exact tL
 ·obtain⟨k,q⟩:=y;obtain⟨k1,k2,k3⟩:=hy;change 1≤k at k1;change k≤11 at k2;change q=pF ((sL (Aa 32 x.1)).getD 0 []) k at k3;by_cases hk10:k≤10
  ·have hnk: ¬10<k:=by omega
   (conv=>whnf)
   (repeat' (first|(exact absurd (by with_reducible assumption) hnk)|refine⟨tU,?_⟩|split<;>rename_i hh<;>try simp only[wS] at hh)<;>conv=>whnf)
   ·have e:=A05 ⟨k1,hk10⟩ (show Dd.getD (k - 1).toNat []=(sL (Aa 32 x.1)).getD 0 [] by assumption)
    (conv=>whnf)
    refine⟨((k+1,k):Int × Int),[],?_,⟨⟨rfl,(nB rfl),rfl⟩,?_,?_⟩⟩
    ·exact⟨⟨show 1≤k+1 by omega,show k+1≤11 by omega,e.symm⟩,show(11 - (k+1)).toNat<(11 - k).toNat by omega⟩
    ·exact tL
    ·exact tL
   ·have e:=Au3 ⟨k1,hk10⟩ (show¬Dd.getD (k - 1).toNat []=(sL (Aa 32 x.1)).getD 0 [] by assumption)
    (conv=>whnf)
    refine⟨((k+1,q):Int × Int),[],?_,⟨⟨rfl,(nB rfl),rfl⟩,?_,?_⟩⟩
    ·exact⟨⟨show 1≤k+1 by omega,show k+1≤11 by omega,k3.trans e.symm⟩,show(11 - (k+1)).toNat<(11 - k).toNat by omega⟩
    ·exact tL
    ·exact tL
  ·obtain rfl:k=11:=by omega
   rw[A06] at k3;rcases(J8 ((sL (Aa 32 x.1)).getD 0 [])) with hk|hk|hk|hk|hk|hk|hk|hk|hk|hk|hk
   ·obtain rfl:q=0:=k3.trans hk;have hk2:kindOf ((Aa 32 x.1).getD 0 [])=0:=(by rw[hsL] at hk;exact hk);have hno:x.2=(An,4):=hfail fun r hm hw=>by
      have h1:=Dj hm hw hk2;rcases Fg hm with h|h|h|h|h|h|h|h|h|h<;>omega
    (conv=>whnf)
    (repeat' (first|with_reducible exact⟨⟩|refine⟨tU,?_⟩|with_reducible refine iA ?_ ?_)<;>conv=>whnf)
    all_goals try(show _=_;simp only[wQ])
    all_goals (rw[hno]<;>rfl)
   ·obtain rfl:q=1:=k3.trans hk;have hk2:kindOf ((Aa 32 x.1).getD 0 [])=1:=(by rw[hsL] at hk;exact hk);have hrd:∀ r,Af r=true→Be r=x.1→(⟨((sL (Aa 32 x.1)).getD 1 []),1,Ay ((sL (Aa 32 x.1)).getD 2 []),0,0,0,((sL (Aa 32 x.1)).getD 3 []),Rs ((sL (Aa 32 x.1)).getD 4 []),P8 ((sL (Aa 32 x.1)).getD 5 []),0,0,0⟩:Request)=r:=fun r hm hw=>by
     have hc:=A57 hm hw hk2;rw[hsL,hc.1];simp only[List.getD_cons_zero,List.getD_cons_succ,hc.2.2.1,hc.2.2.2.1,hc.2.2.2.2.1];exact hc.2.1.symm
    have hrow:((Zu 1).length:Int)=5:=rfl
    (conv=>whnf)
    (repeat' (first|with_reducible exact⟨⟩|refine⟨tU,?_⟩|split<;>rename_i hh<;>try simp only[wS] at hh|with_reducible refine lnI fun hln=>?_|with_reducible refine iA ?_ ?_)<;>conv=>whnf)
    all_goals try(show _=_;simp only[wQ])
    all_goals try (
     have hz:x.2=(An,4):=by
      refine hfail fun r hm hw=>?_;have hc:=A57 hm hw hk2;exact absurd (by rw[hsL,hc.1];rfl) hh
     rw[hz]<;>rfl)
    refine⟨(((sL (Aa 32 x.1)).getD 4 []):List UInt8),hmem _,?_,?_⟩
    ·exact Ac _
    (conv=>whnf)
    (repeat' (first|refine⟨tU,?_⟩|with_reducible refine lnI fun hln=>?_)<;>conv=>whnf)
    refine⟨(((sL (Aa 32 x.1)).getD 5 []):List UInt8),hmem _,?_,?_⟩
    ·exact Ac _
    (conv=>whnf)
    (repeat' (first|refine⟨tU,?_⟩|with_reducible refine lnI fun hln=>?_)<;>conv=>whnf)
    refine⟨(⟨((sL (Aa 32 x.1)).getD 1 []),1,Ay ((sL (Aa 32 x.1)).getD 2 []),0,0,0,((sL (Aa 32 x.1)).getD 3 []),Rs ((sL (Aa 32 x.1)).getD 4 []),P8 ((sL (Aa 32 x.1)).getD 5 []),0,0,0⟩:Request),True.intro,?_,?_⟩
    ·exact tL
    (conv=>whnf)
    (repeat' (first|with_reducible exact⟨⟩|refine⟨tU,?_⟩|split<;>rename_i hh<;>try simp only[wS] at hh|with_reducible refine iA ?_ ?_)<;>conv=>whnf)
    all_goals try(show _=_;simp only[wQ])
    all_goals try (
     have hz:x.2=(An,4):=by
      refine hfail fun r hm hw=>?_;rw[hrd r hm hw,hm] at hh;cases hh
     rw[hz]<;>rfl)
    refine⟨(⟨((sL (Aa 32 x.1)).getD 1 []),1,Ay ((sL (Aa 32 x.1)).getD 2 []),0,0,0,((sL (Aa 32 x.1)).getD 3 []),Rs ((sL (Aa 32 x.1)).getD 4 []),P8 ((sL (Aa 32 x.1)).getD 5 []),0,0,0⟩:Request),by assumption,?_,?_⟩
    ·exact tL
    (conv=>whnf)
    (repeat' (first|with_reducible exact⟨⟩|refine⟨tU,?_⟩|split<;>rename_i hh<;>try simp only[wS] at hh|with_reducible refine iA ?_ ?_)<;>conv=>whnf)
    all_goals try(show _=_;simp only[wQ])
    all_goals try (
     have hz:x.2=(An,4):=by
      refine hfail fun r hm hw=>?_;rw[hrd r hm hw] at hh;exact hh hw
     rw[hz]<;>rfl)
    all_goals (
     have hz:=hq.symm.trans (Cw (by assumption) (by assumption) hrd)
     rw[hz];all_goals first|rfl|exact⟨rfl,fun h=>h,fun _ _=>rfl⟩)
   ·obtain rfl:q=2:=k3.trans hk;have hk2:kindOf ((Aa 32 x.1).getD 0 [])=2:=(by rw[hsL] at hk;exact hk);have hrd:∀ r,Af r=true→Be r=x.1→(⟨((sL (Aa 32 x.1)).getD 1 []),2,Ay ((sL (Aa 32 x.1)).getD 2 []),(numOf ((sL (Aa 32 x.1)).getD 3 [])).1,Ay ((sL (Aa 32 x.1)).getD 4 []),statOf ((sL (Aa 32 x.1)).getD 5 []),[],[],[],0,0,0⟩:Request)=r:=fun r hm hw=>by
     have hc:=A58 hm hw hk2;rw[hsL,hc.1];simp only[List.getD_cons_zero,List.getD_cons_succ,hc.2.2.1,hc.2.2.2.1,hc.2.2.2.2.1,hc.2.2.2.2.2.1];exact hc.2.1.symm
    have hrow:((Zu 2).length:Int)=5:=rfl
    (conv=>whnf)
    (repeat' (first|with_reducible exact⟨⟩|refine⟨tU,?_⟩|split<;>rename_i hh<;>try simp only[wS] at hh|with_reducible refine lnI fun hln=>?_|with_reducible refine iA ?_ ?_)<;>conv=>whnf)
    all_goals try(show _=_;simp only[wQ])
    all_goals try (
     have hz:x.2=(An,4):=by
      refine hfail fun r hm hw=>?_;have hc:=A58 hm hw hk2;exact absurd (by rw[hsL,hc.1];rfl) hh
     rw[hz]<;>rfl)
    refine⟨(⟨((sL (Aa 32 x.1)).getD 1 []),2,Ay ((sL (Aa 32 x.1)).getD 2 []),(numOf ((sL (Aa 32 x.1)).getD 3 [])).1,Ay ((sL (Aa 32 x.1)).getD 4 []),statOf ((sL (Aa 32 x.1)).getD 5 []),[],[],[],0,0,0⟩:Request),True.intro,?_,?_⟩
    ·exact tL
    (conv=>whnf)
    (repeat' (first|with_reducible exact⟨⟩|refine⟨tU,?_⟩|split<;>rename_i hh<;>try simp only[wS] at hh|with_reducible refine iA ?_ ?_)<;>conv=>whnf)
    all_goals try(show _=_;simp only[wQ])
    all_goals try (
     have hz:x.2=(An,4):=by
      refine hfail fun r hm hw=>?_;rw[hrd r hm hw,hm] at hh;cases hh
     rw[hz]<;>rfl)
    refine⟨(⟨((sL (Aa 32 x.1)).getD 1 []),2,Ay ((sL (Aa 32 x.1)).getD 2 []),(numOf ((sL (Aa 32 x.1)).getD 3 [])).1,Ay ((sL (Aa 32 x.1)).getD 4 []),statOf ((sL (Aa 32 x.1)).getD 5 []),[],[],[],0,0,0⟩:Request),by assumption,?_,?_⟩
    ·exact tL
    (conv=>whnf)
    (repeat' (first|with_reducible exact⟨⟩|refine⟨tU,?_⟩|split<;>rename_i hh<;>try simp only[wS] at hh|with_reducible refine iA ?_ ?_)<;>conv=>whnf)
    all_goals try(show _=_;simp only[wQ])
    all_goals try (
     have hz:x.2=(An,4):=by
      refine hfail fun r hm hw=>?_;rw[hrd r hm hw] at hh;exact hh hw
     rw[hz]<;>rfl)
    all_goals (
     have hz:=hq.symm.trans (Cw (by assumption) (by assumption) hrd)
     rw[hz];all_goals first|rfl|exact⟨rfl,fun h=>h,fun _ _=>rfl⟩)
   ·obtain rfl:q=3:=k3.trans hk;have hk2:kindOf ((Aa 32 x.1).getD 0 [])=3:=(by rw[hsL] at hk;exact hk);have hrd:∀ r,Af r=true→Be r=x.1→(⟨((sL (Aa 32 x.1)).getD 1 []),3,Ay ((sL (Aa 32 x.1)).getD 2 []),(numOf ((sL (Aa 32 x.1)).getD 3 [])).1,0,0,[],[],[],0,0,0⟩:Request)=r:=fun r hm hw=>by
     have hc:=A59 hm hw hk2;rw[hsL,hc.1];simp only[List.getD_cons_zero,List.getD_cons_succ,hc.2.2.1,hc.2.2.2.1];exact hc.2.1.symm
    have hrow:((Zu 3).length:Int)=3:=rfl
    (conv=>whnf)
    (repeat' (first|with_reducible exact⟨⟩|refine⟨tU,?_⟩|split<;>rename_i hh<;>try simp only[wS] at hh|with_reducible refine lnI fun hln=>?_|with_reducible refine iA ?_ ?_)<;>conv=>whnf)
    all_goals try(show _=_;simp only[wQ])
    all_goals try (
     have hz:x.2=(An,4):=by
      refine hfail fun r hm hw=>?_;have hc:=A59 hm hw hk2;exact absurd (by rw[hsL,hc.1];rfl) hh
     rw[hz]<;>rfl)
    refine⟨(⟨((sL (Aa 32 x.1)).getD 1 []),3,Ay ((sL (Aa 32 x.1)).getD 2 []),(numOf ((sL (Aa 32 x.1)).getD 3 [])).1,0,0,[],[],[],0,0,0⟩:Request),True.intro,?_,?_⟩
    ·exact tL
    (conv=>whnf)
    (repeat' (first|with_reducible exact⟨⟩|refine⟨tU,?_⟩|split<;>rename_i hh<;>try simp only[wS] at hh|with_reducible refine iA ?_ ?_)<;>conv=>whnf)
    all_goals try(show _=_;simp only[wQ])
    all_goals try (
     have hz:x.2=(An,4):=by
      refine hfail fun r hm hw=>?_;rw[hrd r hm hw,hm] at hh;cases hh
     rw[hz]<;>rfl)
    refine⟨(⟨((sL (Aa 32 x.1)).getD 1 []),3,Ay ((sL (Aa 32 x.1)).getD 2 []),(numOf ((sL (Aa 32 x.1)).getD 3 [])).1,0,0,[],[],[],0,0,0⟩:Request),by assumption,?_,?_⟩
    ·exact tL
    (conv=>whnf)
    (repeat' (first|with_reducible exact⟨⟩|refine⟨tU,?_⟩|split<;>rename_i hh<;>try simp only[wS] at hh|with_reducible refine iA ?_ ?_)<;>conv=>whnf)
    all_goals try(show _=_;simp only[wQ])
    all_goals try (
     have hz:x.2=(An,4):=by
      refine hfail fun r hm hw=>?_;rw[hrd r hm hw] at hh;exact hh hw
     rw[hz]<;>rfl)
    all_goals (
     have hz:=hq.symm.trans (Cw (by assumption) (by assumption) hrd)
     rw[hz];all_goals first|rfl|exact⟨rfl,fun h=>h,fun _ _=>rfl⟩)
   ·obtain rfl:q=4:=k3.trans hk;have hk2:kindOf ((Aa 32 x.1).getD 0 [])=4:=(by rw[hsL] at hk;exact hk);have hrd:∀ r,Af r=true→Be r=x.1→(⟨((sL (Aa 32 x.1)).getD 1 []),4,Ay ((sL (Aa 32 x.1)).getD 2 []),(numOf ((sL (Aa 32 x.1)).getD 3 [])).1,0,0,[],[],[],Gp ((sL (Aa 32 x.1)).getD 4 []),0,0⟩:Request)=r:=fun r hm hw=>by
     have hc:=A6a hm hw hk2;rw[hsL,hc.1];simp only[List.getD_cons_zero,List.getD_cons_succ,hc.2.2.1,hc.2.2.2.1,hc.2.2.2.2.1];exact hc.2.1.symm
    have hrow:((Zu 4).length:Int)=4:=rfl
    (conv=>whnf)
    (repeat' (first|with_reducible exact⟨⟩|refine⟨tU,?_⟩|split<;>rename_i hh<;>try simp only[wS] at hh|with_reducible refine lnI fun hln=>?_|with_reducible refine iA ?_ ?_)<;>conv=>whnf)
    all_goals try(show _=_;simp only[wQ])
    all_goals try (
     have hz:x.2=(An,4):=by
      refine hfail fun r hm hw=>?_;have hc:=A6a hm hw hk2;exact absurd (by rw[hsL,hc.1];rfl) hh
     rw[hz]<;>rfl)
    refine⟨(⟨((sL (Aa 32 x.1)).getD 1 []),4,Ay ((sL (Aa 32 x.1)).getD 2 []),(numOf ((sL (Aa 32 x.1)).getD 3 [])).1,0,0,[],[],[],Gp ((sL (Aa 32 x.1)).getD 4 []),0,0⟩:Request),True.intro,?_,?_⟩
    ·exact tL
    (conv=>whnf)
    (repeat' (first|with_reducible exact⟨⟩|refine⟨tU,?_⟩|split<;>rename_i hh<;>try simp only[wS] at hh|with_reducible refine iA ?_ ?_)<;>conv=>whnf)
    all_goals try(show _=_;simp only[wQ])
    all_goals try (
     have hz:x.2=(An,4):=by
      refine hfail fun r hm hw=>?_;rw[hrd r hm hw,hm] at hh;cases hh
     rw[hz]<;>rfl)
    refine⟨(⟨((sL (Aa 32 x.1)).getD 1 []),4,Ay ((sL (Aa 32 x.1)).getD 2 []),(numOf ((sL (Aa 32 x.1)).getD 3 [])).1,0,0,[],[],[],Gp ((sL (Aa 32 x.1)).getD 4 []),0,0⟩:Request),by assumption,?_,?_⟩
    ·exact tL
    (conv=>whnf)
    (repeat' (first|with_reducible exact⟨⟩|refine⟨tU,?_⟩|split<;>rename_i hh<;>try simp only[wS] at hh|with_reducible refine iA ?_ ?_)<;>conv=>whnf)
    all_goals try(show _=_;simp only[wQ])
    all_goals try (
     have hz:x.2=(An,4):=by
      refine hfail fun r hm hw=>?_;rw[hrd r hm hw] at hh;exact hh hw
     rw[hz]<;>rfl)
    all_goals (
     have hz:=hq.symm.trans (Cw (by assumption) (by assumption) hrd)
     rw[hz];all_goals first|rfl|exact⟨rfl,fun h=>h,fun _ _=>rfl⟩)
   ·obtain rfl:q=5:=k3.trans hk;have hk2:kindOf ((Aa 32 x.1).getD 0 [])=5:=(by rw[hsL] at hk;exact hk);have hrd:∀ r,Af r=true→Be r=x.1→(⟨((sL (Aa 32 x.1)).getD 1 []),5,Ay ((sL (Aa 32 x.1)).getD 2 []),(numOf ((sL (Aa 32 x.1)).getD 3 [])).1,0,0,[],Rs ((sL (Aa 32 x.1)).getD 5 []),P8 ((sL (Aa 32 x.1)).getD 6 []),Gp ((sL (Aa 32 x.1)).getD 4 []),0,0⟩:Request)=r:=fun r hm hw=>by
     have hc:=A6b hm hw hk2;rw[hsL,hc.1];simp only[List.getD_cons_zero,List.getD_cons_succ,hc.2.2.1,hc.2.2.2.1,hc.2.2.2.2.1,hc.2.2.2.2.2.1,hc.2.2.2.2.2.2.1];exact hc.2.1.symm
    have hrow:((Zu 5).length:Int)=6:=rfl
    (conv=>whnf)
    (repeat' (first|with_reducible exact⟨⟩|refine⟨tU,?_⟩|split<;>rename_i hh<;>try simp only[wS] at hh|with_reducible refine lnI fun hln=>?_|with_reducible refine iA ?_ ?_)<;>conv=>whnf)
    all_goals try(show _=_;simp only[wQ])
    all_goals try (
     have hz:x.2=(An,4):=by
      refine hfail fun r hm hw=>?_;have hc:=A6b hm hw hk2;exact absurd (by rw[hsL,hc.1];rfl) hh
     rw[hz]<;>rfl)
    refine⟨(((sL (Aa 32 x.1)).getD 5 []):List UInt8),hmem _,?_,?_⟩
    ·exact Ac _
    (conv=>whnf)
    (repeat' (first|refine⟨tU,?_⟩|with_reducible refine lnI fun hln=>?_)<;>conv=>whnf)
    refine⟨(((sL (Aa 32 x.1)).getD 6 []):List UInt8),hmem _,?_,?_⟩
    ·exact Ac _
    (conv=>whnf)
    (repeat' (first|refine⟨tU,?_⟩|with_reducible refine lnI fun hln=>?_)<;>conv=>whnf)
    refine⟨(⟨((sL (Aa 32 x.1)).getD 1 []),5,Ay ((sL (Aa 32 x.1)).getD 2 []),(numOf ((sL (Aa 32 x.1)).getD 3 [])).1,0,0,[],Rs ((sL (Aa 32 x.1)).getD 5 []),P8 ((sL (Aa 32 x.1)).getD 6 []),Gp ((sL (Aa 32 x.1)).getD 4 []),0,0⟩:Request),True.intro,?_,?_⟩
    ·exact tL
    (conv=>whnf)
    (repeat' (first|with_reducible exact⟨⟩|refine⟨tU,?_⟩|split<;>rename_i hh<;>try simp only[wS] at hh|with_reducible refine iA ?_ ?_)<;>conv=>whnf)
    all_goals try(show _=_;simp only[wQ])
    all_goals try (
     have hz:x.2=(An,4):=by
      refine hfail fun r hm hw=>?_;rw[hrd r hm hw,hm] at hh;cases hh
     rw[hz]<;>rfl)
    refine⟨(⟨((sL (Aa 32 x.1)).getD 1 []),5,Ay ((sL (Aa 32 x.1)).getD 2 []),(numOf ((sL (Aa 32 x.1)).getD 3 [])).1,0,0,[],Rs ((sL (Aa 32 x.1)).getD 5 []),P8 ((sL (Aa 32 x.1)).getD 6 []),Gp ((sL (Aa 32 x.1)).getD 4 []),0,0⟩:Request),by assumption,?_,?_⟩
    ·exact tL
    (conv=>whnf)
    (repeat' (first|with_reducible exact⟨⟩|refine⟨tU,?_⟩|split<;>rename_i hh<;>try simp only[wS] at hh|with_reducible refine iA ?_ ?_)<;>conv=>whnf)
    all_goals try(show _=_;simp only[wQ])
    all_goals try (
     have hz:x.2=(An,4):=by
      refine hfail fun r hm hw=>?_;rw[hrd r hm hw] at hh;exact hh hw
     rw[hz]<;>rfl)
    all_goals (
     have hz:=hq.symm.trans (Cw (by assumption) (by assumption) hrd)
     rw[hz];all_goals first|rfl|exact⟨rfl,fun h=>h,fun _ _=>rfl⟩)
   ·obtain rfl:q=6:=k3.trans hk;have hk2:kindOf ((Aa 32 x.1).getD 0 [])=6:=(by rw[hsL] at hk;exact hk);have hrd:∀ r,Af r=true→Be r=x.1→(⟨((sL (Aa 32 x.1)).getD 1 []),6,Ay ((sL (Aa 32 x.1)).getD 2 []),(numOf ((sL (Aa 32 x.1)).getD 3 [])).1,Ay ((sL (Aa 32 x.1)).getD 4 []),0,[],[],[],0,0,0⟩:Request)=r:=fun r hm hw=>by
     have hc:=A6c hm hw hk2;rw[hsL,hc.1];simp only[List.getD_cons_zero,List.getD_cons_succ,hc.2.2.1,hc.2.2.2.1,hc.2.2.2.2.1];exact hc.2.1.symm
    have hrow:((Zu 6).length:Int)=4:=rfl
    (conv=>whnf)
    (repeat' (first|with_reducible exact⟨⟩|refine⟨tU,?_⟩|split<;>rename_i hh<;>try simp only[wS] at hh|with_reducible refine lnI fun hln=>?_|with_reducible refine iA ?_ ?_)<;>conv=>whnf)
    all_goals try(show _=_;simp only[wQ])
    all_goals try (
     have hz:x.2=(An,4):=by
      refine hfail fun r hm hw=>?_;have hc:=A6c hm hw hk2;exact absurd (by rw[hsL,hc.1];rfl) hh
     rw[hz]<;>rfl)
    refine⟨(⟨((sL (Aa 32 x.1)).getD 1 []),6,Ay ((sL (Aa 32 x.1)).getD 2 []),(numOf ((sL (Aa 32 x.1)).getD 3 [])).1,Ay ((sL (Aa 32 x.1)).getD 4 []),0,[],[],[],0,0,0⟩:Request),True.intro,?_,?_⟩
    ·exact tL
    (conv=>whnf)
    (repeat' (first|with_reducible exact⟨⟩|refine⟨tU,?_⟩|split<;>rename_i hh<;>try simp only[wS] at hh|with_reducible refine iA ?_ ?_)<;>conv=>whnf)
    all_goals try(show _=_;simp only[wQ])
    all_goals try (
     have hz:x.2=(An,4):=by
      refine hfail fun r hm hw=>?_;rw[hrd r hm hw,hm] at hh;cases hh
     rw[hz]<;>rfl)
    refine⟨(⟨((sL (Aa 32 x.1)).getD 1 []),6,Ay ((sL (Aa 32 x.1)).getD 2 []),(numOf ((sL (Aa 32 x.1)).getD 3 [])).1,Ay ((sL (Aa 32 x.1)).getD 4 []),0,[],[],[],0,0,0⟩:Request),by assumption,?_,?_⟩
    ·exact tL
    (conv=>whnf)
    (repeat' (first|with_reducible exact⟨⟩|refine⟨tU,?_⟩|split<;>rename_i hh<;>try simp only[wS] at hh|with_reducible refine iA ?_ ?_)<;>conv=>whnf)
    all_goals try(show _=_;simp only[wQ])
    all_goals try (
     have hz:x.2=(An,4):=by
      refine hfail fun r hm hw=>?_;rw[hrd r hm hw] at hh;exact hh hw
     rw[hz]<;>rfl)
    all_goals (
     have hz:=hq.symm.trans (Cw (by assumption) (by assumption) hrd)
     rw[hz];all_goals first|rfl|exact⟨rfl,fun h=>h,fun _ _=>rfl⟩)
   ·obtain rfl:q=7:=k3.trans hk;have hk2:kindOf ((Aa 32 x.1).getD 0 [])=7:=(by rw[hsL] at hk;exact hk);have hrd:∀ r,Af r=true→Be r=x.1→(⟨((sL (Aa 32 x.1)).getD 1 []),7,Ay ((sL (Aa 32 x.1)).getD 2 []),(numOf ((sL (Aa 32 x.1)).getD 3 [])).1,Ay ((sL (Aa 32 x.1)).getD 4 []),0,[],[],[],0,0,0⟩:Request)=r:=fun r hm hw=>by
     have hc:=A6d hm hw hk2;rw[hsL,hc.1];simp only[List.getD_cons_zero,List.getD_cons_succ,hc.2.2.1,hc.2.2.2.1,hc.2.2.2.2.1];exact hc.2.1.symm
    have hrow:((Zu 7).length:Int)=4:=rfl
    (conv=>whnf)
    (repeat' (first|with_reducible exact⟨⟩|refine⟨tU,?_⟩|split<;>rename_i hh<;>try simp only[wS] at hh|with_reducible refine lnI fun hln=>?_|with_reducible refine iA ?_ ?_)<;>conv=>whnf)
    all_goals try(show _=_;simp only[wQ])
    all_goals try (
     have hz:x.2=(An,4):=by
      refine hfail fun r hm hw=>?_;have hc:=A6d hm hw hk2;exact absurd (by rw[hsL,hc.1];rfl) hh
     rw[hz]<;>rfl)
    refine⟨(⟨((sL (Aa 32 x.1)).getD 1 []),7,Ay ((sL (Aa 32 x.1)).getD 2 []),(numOf ((sL (Aa 32 x.1)).getD 3 [])).1,Ay ((sL (Aa 32 x.1)).getD 4 []),0,[],[],[],0,0,0⟩:Request),True.intro,?_,?_⟩
    ·exact tL
    (conv=>whnf)
    (repeat' (first|with_reducible exact⟨⟩|refine⟨tU,?_⟩|split<;>rename_i hh<;>try simp only[wS] at hh|with_reducible refine iA ?_ ?_)<;>conv=>whnf)
    all_goals try(show _=_;simp only[wQ])
    all_goals try (
     have hz:x.2=(An,4):=by
      refine hfail fun r hm hw=>?_;rw[hrd r hm hw,hm] at hh;cases hh
     rw[hz]<;>rfl)
    refine⟨(⟨((sL (Aa 32 x.1)).getD 1 []),7,Ay ((sL (Aa 32 x.1)).getD 2 []),(numOf ((sL (Aa 32 x.1)).getD 3 [])).1,Ay ((sL (Aa 32 x.1)).getD 4 []),0,[],[],[],0,0,0⟩:Request),by assumption,?_,?_⟩
    ·exact tL
    (conv=>whnf)
    (repeat' (first|with_reducible exact⟨⟩|refine⟨tU,?_⟩|split<;>rename_i hh<;>try simp only[wS] at hh|with_reducible refine iA ?_ ?_)<;>conv=>whnf)
    all_goals try(show _=_;simp only[wQ])
    all_goals try (
     have hz:x.2=(An,4):=by
      refine hfail fun r hm hw=>?_;rw[hrd r hm hw] at hh;exact hh hw
     rw[hz]<;>rfl)
    all_goals (
     have hz:=hq.symm.trans (Cw (by assumption) (by assumption) hrd)
     rw[hz];all_goals first|rfl|exact⟨rfl,fun h=>h,fun _ _=>rfl⟩)
   ·obtain rfl:q=8:=k3.trans hk;have hk2:kindOf ((Aa 32 x.1).getD 0 [])=8:=(by rw[hsL] at hk;exact hk);have hrd:∀ r,Af r=true→Be r=x.1→(⟨[],8,0,(numOf ((sL (Aa 32 x.1)).getD 1 [])).1,0,0,[],[],[],0,0,0⟩:Request)=r:=fun r hm hw=>by
     have hc:=A6e hm hw hk2;rw[hsL,hc.1];simp only[List.getD_cons_zero,List.getD_cons_succ,hc.2.2.1];exact hc.2.1.symm
    have hrow:((Zu 8).length:Int)=1:=rfl
    (conv=>whnf)
    (repeat' (first|with_reducible exact⟨⟩|refine⟨tU,?_⟩|split<;>rename_i hh<;>try simp only[wS] at hh|with_reducible refine lnI fun hln=>?_|with_reducible refine iA ?_ ?_)<;>conv=>whnf)
    all_goals try(show _=_;simp only[wQ])
    all_goals try (
     have hz:x.2=(An,4):=by
      refine hfail fun r hm hw=>?_;have hc:=A6e hm hw hk2;exact absurd (by rw[hsL,hc.1];rfl) hh
     rw[hz]<;>rfl)
    refine⟨(⟨[],8,0,(numOf ((sL (Aa 32 x.1)).getD 1 [])).1,0,0,[],[],[],0,0,0⟩:Request),True.intro,?_,?_⟩
    ·exact tL
    (conv=>whnf)
    (repeat' (first|with_reducible exact⟨⟩|refine⟨tU,?_⟩|split<;>rename_i hh<;>try simp only[wS] at hh|with_reducible refine iA ?_ ?_)<;>conv=>whnf)
    all_goals try(show _=_;simp only[wQ])
    all_goals try (
     have hz:x.2=(An,4):=by
      refine hfail fun r hm hw=>?_;rw[hrd r hm hw,hm] at hh;cases hh
     rw[hz]<;>rfl)
    refine⟨(⟨[],8,0,(numOf ((sL (Aa 32 x.1)).getD 1 [])).1,0,0,[],[],[],0,0,0⟩:Request),by assumption,?_,?_⟩
    ·exact tL
    (conv=>whnf)
    (repeat' (first|with_reducible exact⟨⟩|refine⟨tU,?_⟩|split<;>rename_i hh<;>try simp only[wS] at hh|with_reducible refine iA ?_ ?_)<;>conv=>whnf)
    all_goals try(show _=_;simp only[wQ])
    all_goals try (
     have hz:x.2=(An,4):=by
      refine hfail fun r hm hw=>?_;rw[hrd r hm hw] at hh;exact hh hw
     rw[hz]<;>rfl)
    all_goals (
     have hz:=hq.symm.trans (Cw (by assumption) (by assumption) hrd)
     rw[hz];all_goals first|rfl|exact⟨rfl,fun h=>h,fun _ _=>rfl⟩)
   ·obtain rfl:q=9:=k3.trans hk;have hk2:kindOf ((Aa 32 x.1).getD 0 [])=9:=(by rw[hsL] at hk;exact hk);have hrd:∀ r,Af r=true→Be r=x.1→(⟨[],9,0,0,0,0,((sL (Aa 32 x.1)).getD 1 []),[],[],0,0,0⟩:Request)=r:=fun r hm hw=>by
     have hc:=A6f hm hw hk2;rw[hsL,hc.1];simp only[List.getD_cons_zero,List.getD_cons_succ];exact hc.2.1.symm
    have hrow:((Zu 9).length:Int)=1:=rfl
    (conv=>whnf)
    (repeat' (first|with_reducible exact⟨⟩|refine⟨tU,?_⟩|split<;>rename_i hh<;>try simp only[wS] at hh|with_reducible refine lnI fun hln=>?_|with_reducible refine iA ?_ ?_)<;>conv=>whnf)
    all_goals try(show _=_;simp only[wQ])
    all_goals try (
     have hz:x.2=(An,4):=by
      refine hfail fun r hm hw=>?_;have hc:=A6f hm hw hk2;exact absurd (by rw[hsL,hc.1];rfl) hh
     rw[hz]<;>rfl)
    refine⟨(⟨[],9,0,0,0,0,((sL (Aa 32 x.1)).getD 1 []),[],[],0,0,0⟩:Request),True.intro,?_,?_⟩
    ·exact tL
    (conv=>whnf)
    (repeat' (first|with_reducible exact⟨⟩|refine⟨tU,?_⟩|split<;>rename_i hh<;>try simp only[wS] at hh|with_reducible refine iA ?_ ?_)<;>conv=>whnf)
    all_goals try(show _=_;simp only[wQ])
    all_goals try (
     have hz:x.2=(An,4):=by
      refine hfail fun r hm hw=>?_;rw[hrd r hm hw,hm] at hh;cases hh
     rw[hz]<;>rfl)
    refine⟨(⟨[],9,0,0,0,0,((sL (Aa 32 x.1)).getD 1 []),[],[],0,0,0⟩:Request),by assumption,?_,?_⟩
    ·exact tL
    (conv=>whnf)
    (repeat' (first|with_reducible exact⟨⟩|refine⟨tU,?_⟩|split<;>rename_i hh<;>try simp only[wS] at hh|with_reducible refine iA ?_ ?_)<;>conv=>whnf)
    all_goals try(show _=_;simp only[wQ])
    all_goals try (
     have hz:x.2=(An,4):=by
      refine hfail fun r hm hw=>?_;rw[hrd r hm hw] at hh;exact hh hw
     rw[hz]<;>rfl)
    all_goals (
     have hz:=hq.symm.trans (Cw (by assumption) (by assumption) hrd)
     rw[hz];all_goals first|rfl|exact⟨rfl,fun h=>h,fun _ _=>rfl⟩)
   ·obtain rfl:q=10:=k3.trans hk;have hk2:kindOf ((Aa 32 x.1).getD 0 [])=10:=(by rw[hsL] at hk;exact hk);have hrd:∀ r,Af r=true→Be r=x.1→(⟨[],10,0,0,0,0,[],[],[],0,Ay ((sL (Aa 32 x.1)).getD 1 []),Ay ((sL (Aa 32 x.1)).getD 2 [])⟩:Request)=r:=fun r hm hw=>by
     have hc:=Azr hm hw hk2;rw[hsL,hc.1];simp only[List.getD_cons_zero,List.getD_cons_succ,hc.2.2.1,hc.2.2.2.1];exact hc.2.1.symm
    have hrow:((Zu 10).length:Int)=1:=rfl;have hrow2:(([70,85]:List UInt8).length:Int)=2:=rfl
    (conv=>whnf)
    (repeat' (first|with_reducible exact⟨⟩|refine⟨tU,?_⟩|split<;>rename_i hh<;>try simp only[wS] at hh|with_reducible refine lnI fun hln=>?_|with_reducible refine iA ?_ ?_)<;>conv=>whnf)
    all_goals try(show _=_;simp only[wQ])
    all_goals try (
     have hz:x.2=(An,4):=by
      refine hfail fun r hm hw=>?_;have hc:=Azr hm hw hk2;exact absurd (by rw[hsL,hc.1];rfl) hh
     rw[hz]<;>rfl)
    refine⟨(⟨[],10,0,0,0,0,[],[],[],0,Ay ((sL (Aa 32 x.1)).getD 1 []),Ay ((sL (Aa 32 x.1)).getD 2 [])⟩:Request),True.intro,?_,?_⟩
    ·exact tL
    (conv=>whnf)
    (repeat' (first|with_reducible exact⟨⟩|refine⟨tU,?_⟩|split<;>rename_i hh<;>try simp only[wS] at hh|with_reducible refine iA ?_ ?_)<;>conv=>whnf)
    all_goals try(show _=_;simp only[wQ])
    all_goals try (
     have hz:x.2=(An,4):=by
      refine hfail fun r hm hw=>?_;rw[hrd r hm hw,hm] at hh;cases hh
     rw[hz]<;>rfl)
    refine⟨(⟨[],10,0,0,0,0,[],[],[],0,Ay ((sL (Aa 32 x.1)).getD 1 []),Ay ((sL (Aa 32 x.1)).getD 2 [])⟩:Request),by assumption,?_,?_⟩
    ·exact tL
    (conv=>whnf)
    (repeat' (first|with_reducible exact⟨⟩|refine⟨tU,?_⟩|split<;>rename_i hh<;>try simp only[wS] at hh|with_reducible refine iA ?_ ?_)<;>conv=>whnf)
    all_goals try(show _=_;simp only[wQ])
    all_goals try (
     have hz:x.2=(An,4):=by
      refine hfail fun r hm hw=>?_;rw[hrd r hm hw] at hh;exact hh hw
     rw[hz]<;>rfl)
    all_goals (
     have hz:=hq.symm.trans (Cw (by assumption) (by assumption) hrd)
     rw[hz];all_goals first|rfl|exact⟨rfl,fun h=>h,fun _ _=>rfl⟩)
end
end Go.Vc.Z
