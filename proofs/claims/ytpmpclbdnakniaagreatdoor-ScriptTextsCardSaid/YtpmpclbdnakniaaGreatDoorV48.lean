/- couponref26.ScriptOf: the setup and the acts of a script, the reference's. -/
import Derived.Test.YtpmpclbdnakniaaGreatDoorV46
import Derived.Test.YtpmpclbdnakniaaGreatDoorV47
import Derived.Test.YtpmpclbdnakniaaGreatDoorV40
set_option linter.all false
set_option maxHeartbeats 8000000
namespace Go.Vc.Z
open Go Go.Vc Go.Proofs Go.RowKit Go.Pl Go.Lib
theorem Aj9(w:List (List UInt8)):qZ w=⟨Ay (w.getD 1 []),Ay (w.getD 2 []),Ay (w.getD 3 []),Ay (w.getD 4 []),Ay (w.getD 5 []),Ay (w.getD 6 [])⟩:=by unfold qZ;rfl
structure Keep (P:Prop):Prop where
 out:P
theorem Ate{P G:Prop}(hk:P)(hg:Keep P→G):G:=hg ⟨hk⟩
theorem Awd{t:List UInt8}{W:List (List UInt8)}{d:Nat}(hW:Vs t W d)(h: ¬(Aa 32 (W.getD 0 [])).length=2∨¬(Aa 32 (W.getD 0 [])).getD 0 []=[110,101,116]):∀ s C,¬Fx t s C:=fun s C hs=>by
 rw[Ac7 hW hs] at h;rcases h with h|h<;>exact absurd rfl h
theorem A1c{t:List UInt8}(h:(Aa 10 t).length<3∨¬(Aa 10 t).getD ((Aa 10 t).length - 1) []=[]):∀ s C,¬Fx t s C:=fun s C hs=>by
 obtain⟨h1,h2⟩:=Aid t;rcases h with h|h
 ·have l1:=(h1 s C hs).1;have l2:=(qY hs).1.1;omega
 ·exact h (h2 s C hs)
noncomputable section
set_option maxRecDepth 100000
attribute [local irreducible] inK Utf8.decode Utf8.encode Lib.itoa Pl.worth Pl.allDig
attribute [local irreducible] Lib.join Bp Aa scL
def LRa(o:ScO):LoopSpec:={
 α:=Nat × List Site × Int
 keep:=[0,2,5,7,8]
 vals y:=match y with|(i,_,_)=>[.str o.t,.ptr 0 0,slS o.W,.ptr 1 0,.int .i64 i]
 heap y:=match y with|(_,S,K)=>[.var [.nilsl,.int .i64 0] (some 78),.var [Ata S,.int .i64 K] (some 78),As9 S]
 ok y:=match y with|(i,S,K)=>(1≤i∧i+1≤o.W.length)∧S.length≤i∧Nk o.t i S [] K
 μ y:=match y with|(i,_)=>o.W.length - i }
def LRb(o:ScO):LoopSpec:={
 α:=Nat × List Site × List Act × Int
 keep:=[0,2,5,7,8,10]
 vals y:=match y with|(i,_,B,_)=>[.str o.t,.ptr 0 0,slS o.W,.ptr 1 0,.int .i64 i,Az6 B]
 heap y:=match y with|(_,S,B,K)=>[.var [.nilsl,.int .i64 0] (some 78),.var [Ata S,.int .i64 K] (some 78),As9 S,Az5 B]
 ok y:=match y with|(i,S,B,K)=>(1≤i∧i+1≤o.W.length)∧S.length+B.length≤i∧(∀ j,j<B.length→Ag (B.getD j default)=true∧fitA (B.getD j default))∧Nk o.t i S B K∧∀ s C,Fx o.t s C→s.sites.length<i
 μ y:=match y with|(i,_)=>o.W.length - i }
def Amj:PC:=PC.of (fun o:ScO=>[.str o.t]) (fun o=>dM o.t o.x o.A o.e∧Aa 10 o.t=o.W∧(∀ i,(o.W.getD i []).length≤1000000)∧o.t.length≤1000000) (fun o=>.tup [.agg o.x.enc,slE 17 Act.enc o.A,.bool (sB (decide (o.e=0)))])
def F8:PT:=Cg [(31,Ah4),(40,Wm),(42,Atd),(86,Ac5),(87,Zq)]
theorem Kh{W:World}(hW:Gd W):Cb (Fw W) Tryz.prog F8:=(Ab Tryz.call31 (Xd hW.1) (Ab Tryz.call40 (Ajt hW.1) (Ab Tryz.call42 (Vw hW.1) (Ab Tryz.call86 (Aa8 hW.1) (Ab Tryz.call87 (E9 hW.1) Aq)))))
def F9:FuncId→Option Ctr:=Av F8 []
theorem Ta{W:World}(hW:Gd W):Ad (Fw W) Tryz.prog F9:=(Ar (Kh hW))
def Tb:ScO→Nat→Option LR:=fun o i=>cond (Nat.beq i 9) (some (.inv (LRa o))) (cond (Nat.beq i 15) (some (.inv (LRb o))) (none))
theorem Tc{W:World}(hW:Gd W):GoodP (Fw W) Tryz.prog 44 Amj:=by
 have hD:=Kh hW;have hC0:∀ o:ScO,Ad (Fw W) Tryz.prog F9:=fun o=>(Ta hW);refine As (D:=F8) (C:=fun o=>F9) (wr:=(fun _=>false)) rfl Ao hD hC0 Tryz.func44 (Tb) (fun _=>rfl) ?_;rintro⟨x,A,er,t,W⟩ hf hp;clear hf;obtain⟨hsc,hW0,hlen,htl0⟩:=hp;change dM t x A er at hsc;change Aa 10 t=W at hW0;change ∀ i,(W.getD i []).length≤1000000 at hlen;change t.length≤1000000 at htl0;have hWs:Vs t W 1:=by rw[←hW0];exact(Aid t).1
 have htop:=A1c (t:=t);rw[hW0] at htop;have hWl:W.length≤1000001:=by rw[←hW0];have:=Gw 10 t;omega
 have hcut:sL (Aa 10 t)=W:=by rw[Ck];exact hW0
 (conv=>whnf)
 refine⟨((t,10,W):List UInt8 × UInt8 × List (List UInt8)),⟨Nat.le_trans htl0 (by decide),hcut⟩,?_,?_⟩
 ·exact Ac _
 by_cases h3:W.length<3
 ·obtain⟨rfl,rfl,rfl⟩:=Lr hsc (htop (.inl h3))
  (conv=>whnf)
  (repeat' (first|with_reducible exact⟨⟩|refine⟨tU,?_⟩|split<;>rename_i hh<;>try simp only[wS] at hh|with_reducible refine lnI fun hln=>?_|with_reducible refine iA ?_ ?_)<;>conv=>whnf)
  all_goals try(show _=_;simp only[wQ])
  all_goals first|rfl|(exfalso;omega)|skip
 by_cases hlast:W.getD (W.length - 1) []=[]
 ·have hlast2:W.getD ((W.length:Int) - 1).toNat []=[]:=by rw[show((W.length:Int) - 1).toNat=W.length - 1 by omega];exact hlast
  have hw0:=hlen 0;generalize hw:W.getD 0 []=w at hw0
  have hw2:W.getD (Int.toNat 0) []=w:=hw;have hcl:=Di 32 w;generalize hC:Aa 32 w=C at hcl
  have hCW:Aa 32 (W.getD 0 [])=C:=by rw[hw];exact hC
  by_cases hnet:C.length=2∧C.getD 0 []=[110,101,116]
  ·obtain⟨hn1,hn2⟩:=hnet;have hst:=A6s (K:=Ay (C.getD 1 [])) hWs (.inr (by rw[hCW]))
   (conv=>whnf)
   (repeat' (first|with_reducible exact⟨⟩|refine⟨tU,?_⟩|split<;>rename_i hh<;>try simp only[wS] at hh|with_reducible refine lnI fun hln=>?_|with_reducible refine iA ?_ ?_)<;>conv=>whnf)
   all_goals try(show _=_;simp only[wQ])
   all_goals try (exfalso;first|omega|exact absurd hlast2 (by assumption))
   refine⟨((w,32,C):List UInt8 × UInt8 × List (List UInt8)),⟨Nat.le_trans hw0 (by decide),(Ck _).trans hC⟩,?_,?_⟩
   ·(conv=>whnf)
    (repeat' (first|with_reducible exact⟨⟩|refine⟨tA,?_⟩|with_reducible refine iA ?_ ?_)<;>conv=>whnf)
    all_goals try simp only[wQ]
    all_goals (try first|omega|rfl)
    all_goals exact hw2
   (conv=>whnf)
   (repeat' (first|with_reducible exact⟨⟩|refine⟨tU,?_⟩|split<;>rename_i hh<;>try simp only[wS] at hh|with_reducible refine lnI fun hln=>?_|with_reducible refine iA ?_ ?_)<;>conv=>whnf)
   all_goals try(show _=_;simp only[wQ])
   all_goals try (exfalso;first|omega|exact absurd hn2 (by assumption))
   apply Ate
   rotate_left
   ·intro key;refine⟨?_,fun(y:Nat × List Site × Int) hy=>?_⟩
    ·(conv=>whnf)
     refine⟨((1,[],Ay (C.getD 1 [])):Nat × List Site × Int),[],?_,⟨⟨rfl,(nB rfl),rfl⟩,?_,?_⟩⟩
     ·exact⟨⟨Nat.le_refl _,by show 1+1≤W.length;omega⟩,Nat.zero_le _,hst⟩
     ·exact tL
     ·exact tL
    ·obtain⟨i,S,K⟩:=y;obtain⟨⟨q0,q1⟩,q2,q4⟩:=hy;change 1≤i at q0;change i+1≤W.length at q1;change S.length≤i at q2;change Nk t i S [] K at q4;have hul:=hlen i;have hui:W.getD (Int.toNat (i:Int)) []=W.getD i []:=(by rw[Int.toNat_natCast]);generalize hu:W.getD i []=u at hul hui
     generalize hD:Aa 32 u=D
     have hDW:Aa 32 (W.getD i [])=D:=(by rw[hu];exact hD);have hdl:1≤D.length:=(by rw[←hD];exact Di 32 u);by_cases hgo:i+1<W.length∧(D.length=7∧D.getD 0 []=[115,105,116,101])
     ·obtain⟨hi,h7,hsw⟩:=hgo;have hst:=A6v hWs (by omega) q0 (by rw[hDW];exact hsw) q4
      rw[hDW,Aj9] at hst;rcases hS:S with _|⟨c,S1⟩;all_goals (
       (conv=>whnf)
       (repeat' (first|refine⟨tU,?_⟩|split<;>rename_i hh<;>try simp only[wS] at hh|with_reducible refine lnI fun hln=>?_)<;>conv=>whnf)
       all_goals try (exfalso;omega)
       refine⟨((u,32,D):List UInt8 × UInt8 × List (List UInt8)),⟨Nat.le_trans hul (by decide),(Ck _).trans hD⟩,?_,?_⟩
       ·(conv=>whnf)
        (repeat' (first|with_reducible exact⟨⟩|refine⟨tA,?_⟩|with_reducible refine iA ?_ ?_)<;>conv=>whnf)
        all_goals try simp only[wQ]
        all_goals (try first|omega|rfl)
        all_goals exact hui
       (conv=>whnf)
       (repeat' (first|refine⟨tU,?_⟩|split<;>rename_i hh<;>try simp only[wS] at hh|with_reducible refine lnI fun hln=>?_)<;>conv=>whnf)
       all_goals try (exfalso;first|omega|exact absurd hsw (by assumption))
       try (
        refine⟨⟨Nat.le_refl _,by simp only[Dc,Xk];rw[hS,List.length_cons] at q2;omega,fun e he=>by obtain rfl:e=0:=(by omega);rfl⟩,?_⟩
        (conv=>whnf)
        (repeat' ((first
         |refine⟨tU,?_⟩
         |fail)<;>(conv=>whnf))))
       (conv=>whnf)
       refine⟨((i+1,S++[⟨Ay (D.getD 1 []),Ay (D.getD 2 []),Ay (D.getD 3 []),Ay (D.getD 4 []),Ay (D.getD 5 []),Ay (D.getD 6 [])⟩],K):Nat × List Site × Int),[32],?_,?_⟩
       ·exact⟨⟨⟨show 1≤i+1 by omega,show i+1+1≤W.length by omega⟩,by rw[List.length_append];exact Nat.succ_le_succ q2,hst⟩,show W.length - (i+1)<W.length - i by omega⟩
       ·subst hS;refine⟨⟨rfl,(nB rfl),rfl⟩,?_,?_⟩
        ·exact tL
        ·(conv=>whnf)
         (repeat' (first|with_reducible exact⟨⟩|((with_reducible refine Or.inr ?_);rfl)|refine⟨tA,?_⟩|with_reducible refine iA ?_ ?_|with_reducible refine iL ?_ ?_|with_reducible refine iB ?_ ?_)<;>conv=>whnf)
         all_goals try simp only[wQ]
         all_goals first|(intro e he;have he:e<1:=he;obtain rfl:e=0:=(by omega);exact⟨rfl,rfl⟩)|exact⟨by simp,.inl True.intro⟩|exact⟨by simp,fun e he=>⟨Ey (enc:=Site.enc) (l:=_::_) rfl (fun _ _=>rfl) rfl (by simpa using he),rfl⟩⟩)
     ·have hbt:∀ s C,Fx t s C→s.sites.length<i:=A6w hWs (by rw[hDW];by_cases h:i+1<W.length;exact .inr fun h2=>hgo ⟨h,h2⟩;exact .inl (by omega)) q0
      rcases hS:S with _|⟨c,S1⟩;all_goals (
       by_cases hi:i+1<W.length
       rotate_left
       focus
        (conv=>whnf)
        (repeat' (first|refine⟨tU,?_⟩|split<;>rename_i hh<;>try simp only[wS] at hh|with_reducible refine lnI fun hln=>?_)<;>conv=>whnf)
        all_goals try (exfalso;omega)
       rotate_left
       focus
        (conv=>whnf)
        (repeat' (first|refine⟨tU,?_⟩|split<;>rename_i hh<;>try simp only[wS] at hh|with_reducible refine lnI fun hln=>?_)<;>conv=>whnf)
        all_goals try (exfalso;omega)
        refine⟨((u,32,D):List UInt8 × UInt8 × List (List UInt8)),⟨Nat.le_trans hul (by decide),(Ck _).trans hD⟩,?_,?_⟩
        ·(conv=>whnf)
         (repeat' (first|with_reducible exact⟨⟩|refine⟨tA,?_⟩|with_reducible refine iA ?_ ?_)<;>conv=>whnf)
         all_goals try simp only[wQ]
         all_goals (try first|omega|rfl)
         all_goals exact hui
        (conv=>whnf)
        (repeat' (first|refine⟨tU,?_⟩|split<;>rename_i hh<;>try simp only[wS] at hh|with_reducible refine lnI fun hln=>?_)<;>conv=>whnf)
        all_goals try (exfalso;exact hgo ⟨hi,by omega,by assumption⟩))
      all_goals (
       refine⟨?_,?_⟩;focus
        (conv=>whnf)
        refine⟨((i,S,[],K):Nat × List Site × List Act × Int),[],?_,?_⟩
        ·exact⟨⟨q0,q1⟩,q2,fun j hj=>absurd hj (Nat.not_lt_zero _),q4,hbt⟩
        ·subst hS;refine⟨⟨rfl,(nB rfl),rfl⟩,?_,?_⟩
         ·exact tL
         ·(conv=>whnf)
          (repeat' (first|with_reducible exact⟨⟩|((with_reducible refine Or.inr ?_);rfl)|refine⟨tA,?_⟩|with_reducible refine iA ?_ ?_|with_reducible refine iL ?_ ?_|with_reducible refine iB ?_ ?_)<;>conv=>whnf)
          all_goals try simp only[wQ]
          all_goals exact fun e he=>⟨True.intro,rfl⟩
       first|exact key.out|(simp only[List.length_cons,List.length_nil,Nat.zero_add,Nat.reduceAdd];exact key.out))
   ·intro (y:Nat × List Site × List Act × Int) hy;obtain⟨i,S,B,K⟩:=y;obtain⟨⟨q0,q1⟩,q2,q3,q4,hn⟩:=hy;change 1≤i at q0;change i+1≤W.length at q1;change S.length+B.length≤i at q2;change ∀ j,j<B.length→Ag (B.getD j default)=true∧fitA (B.getD j default) at q3;change Nk t i S B K at q4;change ∀ s C,Fx t s C→s.sites.length<i at hn;have hul:=hlen i;have hui:W.getD (Int.toNat (i:Int)) []=W.getD i []:=(by rw[Int.toNat_natCast]);generalize hu:W.getD i []=u at hul hui
    by_cases hi:i+1<W.length
    ·rcases As8 u with hz|⟨a,hma,hz⟩
     ·obtain⟨rfl,rfl,rfl⟩:=Lr hsc (Az4 (x:=(C9,4)) hWs (by omega) hn (by rw[hu];exact hz) (by decide))
      rcases hS:S with _|⟨c,S1⟩<;>rcases hB:B with _|⟨b,B1⟩
      all_goals (
       have hbl:=congrArg List.length hB;simp only[List.length_cons,List.length_nil] at hbl
       (conv=>whnf)
       (repeat' (first|(exact absurd True.intro hh)|refine⟨tU,?_⟩|split<;>rename_i hh<;>try simp only[wS] at hh|with_reducible refine lnI fun hln=>?_)<;>conv=>whnf)
       all_goals try (exfalso;omega)
       refine⟨((u,(C9,4)):List UInt8 × Act × Int),⟨hz,hul⟩,?_,?_⟩
       ·(conv=>whnf)
        (repeat' (first|with_reducible exact⟨⟩|with_reducible refine iA ?_ ?_)<;>conv=>whnf)
        all_goals try simp only[wQ]
        all_goals (try first|omega)
        all_goals exact hui
       (conv=>whnf)
       (repeat' (first|with_reducible exact⟨⟩|refine⟨tU,?_⟩|split<;>rename_i hh<;>try simp only[wS] at hh|with_reducible refine iA ?_ ?_)<;>conv=>whnf)
       all_goals try(show _=_;simp only[wQ])
       all_goals first|rfl|(exfalso;omega)|exact absurd True.intro (by assumption))
     ·have hst:=Az3 hWs (by omega) q4 hn (by rw[hu];exact hz)
      rcases hS:S with _|⟨c,S1⟩<;>rcases hB:B with _|⟨b,B1⟩
      all_goals (
       have hbl:=congrArg List.length hB;simp only[List.length_cons,List.length_nil] at hbl
       (conv=>whnf)
       (repeat' (first|(exact absurd True.intro hh)|refine⟨tU,?_⟩|split<;>rename_i hh<;>try simp only[wS] at hh|with_reducible refine lnI fun hln=>?_)<;>conv=>whnf)
       all_goals try (exfalso;omega)
       refine⟨((u,(a,0)):List UInt8 × Act × Int),⟨hz,hul⟩,?_,?_⟩
       ·(conv=>whnf)
        (repeat' (first|with_reducible exact⟨⟩|with_reducible refine iA ?_ ?_)<;>conv=>whnf)
        all_goals try simp only[wQ]
        all_goals (try first|omega)
        all_goals exact hui
       (conv=>whnf)
       (repeat' (first|(exact absurd True.intro hh)|refine⟨tU,?_⟩|split<;>rename_i hh<;>try simp only[wS] at hh)<;>conv=>whnf)
       all_goals try (exact absurd True.intro (by assumption))
       try (
        refine⟨⟨Nat.le_refl _,by simp only[Dc,Aec];rw[hB,List.length_cons] at q2;omega,fun e he=>by obtain rfl:e=0:=(by omega);rfl⟩,?_⟩
        (conv=>whnf))
       (conv=>whnf)
       refine⟨((i+1,S,B++[a],K):Nat × List Site × List Act × Int),[6],?_,?_⟩
       ·exact⟨⟨⟨show 1≤i+1 by omega,show i+1+1≤W.length by omega⟩,by rw[List.length_append];exact Nat.succ_le_succ q2,Aih (P:=fun a=>Ag a=true∧fitA a) q3 hma,hst,fun s C h=>Nat.lt_succ_of_lt (hn s C h)⟩,show W.length - (i+1)<W.length - i by omega⟩
       ·subst hS;subst hB;refine⟨⟨rfl,(nB rfl),rfl⟩,?_,?_⟩
        ·exact tL
        ·(conv=>whnf)
         (repeat' (first|with_reducible exact⟨⟩|((with_reducible refine Or.inr ?_);rfl)|refine⟨tA,?_⟩|with_reducible refine iA ?_ ?_|with_reducible refine iL ?_ ?_|with_reducible refine iB ?_ ?_)<;>conv=>whnf)
         all_goals try simp only[wQ]
         all_goals first|exact fun e he=>⟨True.intro,rfl⟩|(intro e he;have he:e<1:=he;obtain rfl:e=0:=(by omega);exact⟨rfl,rfl⟩)|exact⟨by simp,.inl True.intro⟩|exact⟨by simp,fun e he=>⟨Ey (enc:=Act.enc) (l:=_::_) rfl (fun _ _=>rfl) rfl (by simpa using he),rfl⟩⟩)
    ·have hend:=As7 hWs (by omega) q4
     by_cases k1:Tx ⟨S,K⟩=true
     ·by_cases k2:B.length≤10000
      ·by_cases k3:scW ⟨S,K⟩ B=t
       ·have hme:Fx t ⟨S,K⟩ B:=(by unfold Fx;exact⟨k1,k2,q3,k3.symm⟩);obtain⟨rfl,rfl,e2⟩:=Aif hsc hme hend;obtain rfl:=e2.symm;rcases hS:S with _|⟨c,S1⟩<;>rcases hB:B with _|⟨b,B1⟩
        all_goals (
         have hbl:=congrArg List.length hB;simp only[List.length_cons,List.length_nil] at hbl
         (conv=>whnf)
         (repeat' (first|(exact absurd True.intro hh)|refine⟨tU,?_⟩|split<;>rename_i hh<;>try simp only[wS] at hh|with_reducible refine lnI fun hln=>?_)<;>conv=>whnf)
         all_goals try (exfalso;omega)
         try (
          refine⟨⟨by omega,fun e he=>rfl⟩,?_⟩
          (conv=>whnf))
         refine⟨(⟨S,K⟩:Setup),True.intro,?_,?_⟩
         ·(conv=>whnf)
          (repeat' (first|with_reducible exact⟨⟩|refine⟨tA,?_⟩|with_reducible refine iA ?_ ?_)<;>conv=>whnf)
          all_goals try simp only[wQ]
          all_goals (subst hS;first|rfl|exact⟨rfl,fun h=>h,fun e he=>by simp only[Nat.zero_add]⟩)
         (conv=>whnf)
         (repeat' (first|with_reducible exact⟨⟩|(exact absurd (k1.symm.trans hh) Bool.true_eq_false.mp)|refine⟨tU,?_⟩|split<;>rename_i hh<;>try simp only[wS] at hh|with_reducible refine lnI fun hln=>?_)<;>conv=>whnf)
         all_goals try (exfalso;omega)
         try (
          refine⟨⟨by omega,fun e he=>rfl⟩,?_⟩
          (conv=>whnf))
         try (
          refine⟨⟨by omega,fun e he=>rfl⟩,?_⟩
          (conv=>whnf))
         refine⟨((⟨S,K⟩,B):Setup × List Act),⟨k1,k2,fun j hj=>(q3 j hj).1⟩,?_,?_⟩
         ·(conv=>whnf)
          (repeat' (first|with_reducible exact⟨⟩|refine⟨tA,?_⟩|with_reducible refine iA ?_ ?_)<;>conv=>whnf)
          all_goals try simp only[wQ]
          all_goals (try first|omega)
          all_goals (subst hS;subst hB;first|rfl|exact⟨rfl,fun h=>h,fun e he=>by simp only[Nat.zero_add]⟩)
         (conv=>whnf)
         (repeat' (first|with_reducible exact⟨⟩|(exact absurd k3 hh)|refine⟨tU,?_⟩|split<;>rename_i hh<;>try simp only[wS] at hh|with_reducible refine iA ?_ ?_)<;>conv=>whnf)
         all_goals try(show _=_;simp only[wQ])
         try (
          refine⟨⟨by omega,fun e he=>rfl⟩,?_⟩
          (conv=>whnf)
          (repeat' (first|with_reducible exact⟨⟩|refine⟨tU,?_⟩|with_reducible refine iA ?_ ?_)<;>conv=>whnf)
          all_goals try(show _=_;simp only[wQ]))
         try (
          refine⟨⟨by omega,fun e he=>rfl⟩,?_⟩
          (conv=>whnf)
          (repeat' (first|with_reducible exact⟨⟩|refine⟨tU,?_⟩|with_reducible refine iA ?_ ?_)<;>conv=>whnf)
          all_goals try(show _=_;simp only[wQ]))
         all_goals (subst hS;subst hB;first|rfl|exact⟨rfl,fun h=>h,fun e he=>by simp only[Nat.zero_add]⟩|skip))
       ·obtain⟨rfl,rfl,rfl⟩:=Lr hsc fun s C h=>by obtain⟨rfl,rfl⟩:=hend s C h;unfold Fx at h;exact k3 h.2.2.2.symm
        rcases hS:S with _|⟨c,S1⟩<;>rcases hB:B with _|⟨b,B1⟩
        all_goals (
         have hbl:=congrArg List.length hB;simp only[List.length_cons,List.length_nil] at hbl
         (conv=>whnf)
         (repeat' (first|(exact absurd True.intro hh)|refine⟨tU,?_⟩|split<;>rename_i hh<;>try simp only[wS] at hh|with_reducible refine lnI fun hln=>?_)<;>conv=>whnf)
         all_goals try (exfalso;omega)
         try (
          refine⟨⟨by omega,fun e he=>rfl⟩,?_⟩
          (conv=>whnf))
         refine⟨(⟨S,K⟩:Setup),True.intro,?_,?_⟩
         ·(conv=>whnf)
          (repeat' (first|with_reducible exact⟨⟩|refine⟨tA,?_⟩|with_reducible refine iA ?_ ?_)<;>conv=>whnf)
          all_goals try simp only[wQ]
          all_goals (subst hS;first|rfl|exact⟨rfl,fun h=>h,fun e he=>by simp only[Nat.zero_add]⟩)
         (conv=>whnf)
         (repeat' (first|with_reducible exact⟨⟩|(exact absurd (k1.symm.trans hh) Bool.true_eq_false.mp)|refine⟨tU,?_⟩|split<;>rename_i hh<;>try simp only[wS] at hh|with_reducible refine lnI fun hln=>?_)<;>conv=>whnf)
         all_goals try (exfalso;omega)
         try (
          refine⟨⟨by omega,fun e he=>rfl⟩,?_⟩
          (conv=>whnf))
         try (
          refine⟨⟨by omega,fun e he=>rfl⟩,?_⟩
          (conv=>whnf))
         refine⟨((⟨S,K⟩,B):Setup × List Act),⟨k1,k2,fun j hj=>(q3 j hj).1⟩,?_,?_⟩
         ·(conv=>whnf)
          (repeat' (first|with_reducible exact⟨⟩|refine⟨tA,?_⟩|with_reducible refine iA ?_ ?_)<;>conv=>whnf)
          all_goals try simp only[wQ]
          all_goals (try first|omega)
          all_goals (subst hS;subst hB;first|rfl|exact⟨rfl,fun h=>h,fun e he=>by simp only[Nat.zero_add]⟩)
         (conv=>whnf)
         (repeat' (first|with_reducible exact⟨⟩|refine⟨tU,?_⟩|split<;>rename_i hh<;>try simp only[wS] at hh|with_reducible refine iA ?_ ?_)<;>conv=>whnf)
         all_goals try(show _=_;simp only[wQ])
         all_goals first|rfl|exact absurd (by assumption) k3|skip)
      ·obtain⟨rfl,rfl,rfl⟩:=Lr hsc fun s C h=>by obtain⟨rfl,rfl⟩:=hend s C h;unfold Fx at h;exact k2 h.2.1
       rcases hS:S with _|⟨c,S1⟩<;>rcases hB:B with _|⟨b,B1⟩
       all_goals try (exfalso;rw[hB] at k2;exact k2 (Nat.zero_le 10000))
       all_goals (
        have hbl:=congrArg List.length hB;simp only[List.length_cons,List.length_nil] at hbl
        (conv=>whnf)
        (repeat' (first|(exact absurd True.intro hh)|refine⟨tU,?_⟩|split<;>rename_i hh<;>try simp only[wS] at hh|with_reducible refine lnI fun hln=>?_)<;>conv=>whnf)
        all_goals try (exfalso;omega)
        try (
         refine⟨⟨by omega,fun e he=>rfl⟩,?_⟩
         (conv=>whnf))
        refine⟨(⟨S,K⟩:Setup),True.intro,?_,?_⟩
        ·(conv=>whnf)
         (repeat' (first|with_reducible exact⟨⟩|refine⟨tA,?_⟩|with_reducible refine iA ?_ ?_)<;>conv=>whnf)
         all_goals try simp only[wQ]
         all_goals (subst hS;first|rfl|exact⟨rfl,fun h=>h,fun e he=>by simp only[Nat.zero_add]⟩)
        (conv=>whnf)
        (repeat' (first|with_reducible exact⟨⟩|(exact absurd (k1.symm.trans hh) Bool.true_eq_false.mp)|refine⟨tU,?_⟩|split<;>rename_i hh<;>try simp only[wS] at hh|with_reducible refine lnI fun hln=>?_|with_reducible refine iA ?_ ?_)<;>conv=>whnf)
        all_goals try(show _=_;simp only[wQ])
        all_goals first|rfl|(exfalso;omega)|skip)
     ·obtain⟨rfl,rfl,rfl⟩:=Lr hsc fun s C h=>by obtain⟨rfl,rfl⟩:=hend s C h;unfold Fx at h;exact k1 h.1
      rcases hS:S with _|⟨c,S1⟩<;>rcases hB:B with _|⟨b,B1⟩
      all_goals (
       have hbl:=congrArg List.length hB;simp only[List.length_cons,List.length_nil] at hbl
       (conv=>whnf)
       (repeat' (first|(exact absurd True.intro hh)|refine⟨tU,?_⟩|split<;>rename_i hh<;>try simp only[wS] at hh|with_reducible refine lnI fun hln=>?_)<;>conv=>whnf)
       all_goals try (exfalso;omega)
       try (
        refine⟨⟨by omega,fun e he=>rfl⟩,?_⟩
        (conv=>whnf))
       refine⟨(⟨S,K⟩:Setup),True.intro,?_,?_⟩
       ·(conv=>whnf)
        (repeat' (first|with_reducible exact⟨⟩|refine⟨tA,?_⟩|with_reducible refine iA ?_ ?_)<;>conv=>whnf)
        all_goals try simp only[wQ]
        all_goals (subst hS;first|rfl|exact⟨rfl,fun h=>h,fun e he=>by simp only[Nat.zero_add]⟩)
       (conv=>whnf)
       (repeat' (first|with_reducible exact⟨⟩|refine⟨tU,?_⟩|split<;>rename_i hh<;>try simp only[wS] at hh|with_reducible refine lnI fun hln=>?_|with_reducible refine iA ?_ ?_)<;>conv=>whnf)
       all_goals try(show _=_;simp only[wQ])
       all_goals first|rfl|exact absurd (by assumption) k1|skip)
  ·obtain⟨rfl,rfl,rfl⟩:=Lr hsc (Awd hWs (by rw[hCW];by_cases h:C.length=2;exact .inr fun h2=>hnet ⟨h,h2⟩;exact .inl h))
   (conv=>whnf)
   (repeat' (first|with_reducible exact⟨⟩|refine⟨tU,?_⟩|split<;>rename_i hh<;>try simp only[wS] at hh|with_reducible refine lnI fun hln=>?_|with_reducible refine iA ?_ ?_)<;>conv=>whnf)
   all_goals try(show _=_;simp only[wQ])
   all_goals try (exfalso;first|omega|exact absurd hlast2 (by assumption))
   refine⟨((w,32,C):List UInt8 × UInt8 × List (List UInt8)),⟨Nat.le_trans hw0 (by decide),(Ck _).trans hC⟩,?_,?_⟩
   ·(conv=>whnf)
    (repeat' (first|with_reducible exact⟨⟩|refine⟨tA,?_⟩|with_reducible refine iA ?_ ?_)<;>conv=>whnf)
    all_goals try simp only[wQ]
    all_goals (try first|omega|rfl)
    all_goals exact hw2
   (conv=>whnf)
   (repeat' (first|with_reducible exact⟨⟩|refine⟨tU,?_⟩|split<;>rename_i hh<;>try simp only[wS] at hh|with_reducible refine lnI fun hln=>?_|with_reducible refine iA ?_ ?_)<;>conv=>whnf)
   all_goals try(show _=_;simp only[wQ])
   all_goals first|rfl|(exfalso;exact hnet ⟨by omega,by assumption⟩)|skip
 ·obtain⟨rfl,rfl,rfl⟩:=Lr hsc (htop (.inr hlast));have hlast2: ¬W.getD ((W.length:Int) - 1).toNat []=[]:=by rw[show((W.length:Int) - 1).toNat=W.length - 1 by omega];exact hlast
  (conv=>whnf)
  (repeat' (first|with_reducible exact⟨⟩|refine⟨tU,?_⟩|split<;>rename_i hh<;>try simp only[wS] at hh|with_reducible refine lnI fun hln=>?_|with_reducible refine iA ?_ ?_)<;>conv=>whnf)
  all_goals try(show _=_;simp only[wQ])
  all_goals first|rfl|(exfalso;omega)|exact absurd (by assumption) hlast2|skip
end
end Go.Vc.Z
