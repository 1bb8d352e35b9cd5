/- couponref26.ActOf: the act of a line, the reference's. -/
import Derived.Test.YtpmpclbdnakniaaGreatDoorV38
import Derived.Test.YtpmpclbdnakniaaGreatDoorV39
import Derived.Test.YtpmpclbdnakniaaGreatDoorV30
import Derived.Test.YtpmpclbdnakniaaGreatDoorV35
set_option linter.all false
set_option maxHeartbeats 8000000
namespace Go.Vc.Z
open Go Go.Vc Go.Proofs Go.RowKit Go.Pl Go.Lib
theorem A1a{s w0 w1 w2:List UInt8}{ws:List (List UInt8)}(h:Aa 32 s=w0::w1::w2::ws):w0.length+w1.length+2≤s.length∧doR s=s.drop (w0.length+w1.length+2):=by
 have hj:=Anp 32 s;rw[h] at hj;refine⟨?_,by unfold doR;rw[h];rfl⟩
 rw[←hj];simp[Lib.join]
 omega
noncomputable section
set_option maxRecDepth 100000
attribute [local irreducible] inK Utf8.decode Utf8.encode Lib.itoa Pl.worth Pl.allDig
attribute [local irreducible] Lib.join Bp Aa
def Ac5:PC:=PC.of (fun x:List UInt8 × UInt8 × List (List UInt8)=>[.str x.1,.int .u8 (x.2.1.toNat:Int)]) (fun x=>x.1.length≤100000000∧sL (Aa x.2.1 x.1)=x.2.2) (fun x=>slS x.2.2)
theorem Aa8{W:World}(hW:Tabs W):GoodP (Fw W) Tryz.prog 86 Ac5:=by
 intro S w cs vs Q hs hv hT;obtain⟨x,⟨h1,h2⟩,h3,h4⟩:=hT;refine Ka hW S w cs vs Q hs hv ⟨(x.1,x.2.1),h1,h3,?_⟩;show Q (slS (sL (Aa x.2.1 x.1)));rw[h2];exact h4
def Ah4:PC:=PC.of (fun x:List UInt8 × Act × Int=>[.str x.1]) (fun x=>dG x.1=x.2∧x.1.length≤1000000) (fun x=>.tup [.agg x.2.1.enc,.bool (sB (decide (x.2.2=0)))])
def Ia:PT:=Cg [(29,Ar4),(35,Aa6),(37,Yz),(86,Ac5),(87,Zq),(97,Ahw)]
theorem M8{W:World}(hW:Tabs W):Cb (Fw W) Tryz.prog Ia:=(Ab Tryz.call29 (Rx hW) (Ab Tryz.call35 (aW hW) (Ab Tryz.call37 (qU hW) (Ab Tryz.call86 (Aa8 hW) (Ab Tryz.call87 (E9 hW) (Ab Tryz.call97 (R0 hW) Aq))))))
def Ib:FuncId→Option Ctr:=Av Ia []
theorem Xc{W:World}(hW:Tabs W):Ad (Fw W) Tryz.prog Ib:=(Ar (M8 hW))
theorem Xd{W:World}(hW:Tabs W):GoodP (Fw W) Tryz.prog 31 Ah4:=by
 have hD:=M8 hW;have hC0:∀ x:List UInt8 × Act × Int,Ad (Fw W) Tryz.prog Ib:=fun x=>(Xc hW);refine As (D:=Ia) (C:=fun x=>Ib) (wr:=(fun _=>false)) rfl Ao hD hC0 Tryz.func31 (fun _ _=>none) (fun _=>rfl) ?_;intro x hf hp;clear hf;obtain⟨hq,hs⟩:=hp;have hlen1:=Di 32 x.1;have hsL:=Ck (Aa 32 x.1);have hlenW:(sL (Aa 32 x.1)).length≤1000001:=by rw[hsL];have:=Gw 32 x.1;omega
 have hmem:∀ i,((sL (Aa 32 x.1)).getD i []).length≤1000000:=fun i=>Fo hs i;have hfail:(∀ a,Ag a=true→fitA a→Bh a=x.1→False)→x.2=(C9,4):=fun h=>by rw[←hq];exact jD h
 have hdl:=Avq x.1;rcases hW0:sL (Aa 32 x.1) with _|⟨w0,_|⟨w1,_|⟨w2,ws⟩⟩⟩
 ·rw[←hsL,hW0] at hlen1;exact absurd hlen1 (by decide)
 focus
  have hc:Aa 32 x.1=[w0]:=hsL.symm.trans hW0;have d0:(Aa 32 x.1).getD 0 []=w0:=by rw[hc];rfl
  have d1:(Aa 32 x.1).getD 1 []=[]:=by rw[hc];rfl
  have d2:(Aa 32 x.1).getD 2 []=[]:=by rw[hc];rfl
  have hm1:∀ i,(([]:List (List UInt8)).getD i []).length≤100000000:=fun i=>by have:=hmem (i+1);rw[hW0] at this;exact Nat.le_trans this (by decide)
  have hm2:∀ i,(([]:List (List UInt8)).getD i []).length≤100000000:=fun i=>by have:=hmem (i+2);rw[hW0] at this;exact Nat.le_trans this (by decide)
  have hlw:[w0].length≤1000001:=by rw[←hW0];exact hlenW
  simp only[List.length_cons,List.length_nil] at hlw;by_cases hn1:w0=[100,111]
  focus
   subst hn1;have hz:x.2=(C9,4):=hfail fun a hm hf hw=>by
    have h3:=(hP d0 hm hf hw).2.2.2.2;rw[hc] at h3;simp only[List.length_cons,List.length_nil] at h3;omega
   refine⟨((x.1,32,[[100,111]]):List UInt8 × UInt8 × List (List UInt8)),⟨Nat.le_trans hs (by decide),hW0⟩,?_,?_⟩
   ·exact Ac _
   (conv=>whnf)
   (repeat' (first|refine⟨tU,?_⟩|with_reducible refine lnI fun hln=>?_)<;>conv=>whnf)
   refine⟨(C9:Act),True.intro,?_,?_⟩
   ·exact tL
   (conv=>whnf)
   (repeat' (first|with_reducible exact⟨⟩|refine⟨tU,?_⟩|split<;>rename_i hh<;>try simp only[wS] at hh|with_reducible refine iA ?_ ?_)<;>conv=>whnf)
   all_goals try(show _=_;simp only[wQ])
   all_goals first|(rw[hz]<;>rfl)|exact absurd (Es.symm.trans (by assumption)) (by decide)
  by_cases hn2:w0=[116,105,99,107]
  focus
   subst hn2;have hfit:fitA ⟨2,0,An,0,([]:List (List UInt8)).map rpV,false⟩:=Kb qQ;have hrd:∀ a,Ag a=true→fitA a→Bh a=x.1→(⟨2,0,An,0,([]:List (List UInt8)).map rpV,false⟩:Act)=a:=fun a hm hf hw=>by
    have h3:=(Ah0 d0 hm hf hw).2;unfold B2 at h3;rw[hc] at h3;exact h3
   refine⟨((x.1,32,[[116,105,99,107]]):List UInt8 × UInt8 × List (List UInt8)),⟨Nat.le_trans hs (by decide),hW0⟩,?_,?_⟩
   ·exact Ac _
   (conv=>whnf)
   (repeat' (first|refine⟨tU,?_⟩|with_reducible refine lnI fun hln=>?_)<;>conv=>whnf)
   refine⟨([]:List (List UInt8)),⟨by simp only[List.length_cons,List.length_nil];omega,hm1⟩,?_,?_⟩
   ·(conv=>whnf)
    (repeat' (first|with_reducible exact⟨⟩|refine⟨tA,?_⟩|with_reducible refine iA ?_ ?_)<;>conv=>whnf)
    all_goals try simp only[wQ]
    first|exact⟨fun h=>absurd h Bool.false_ne_true,fun e he=>by rw[show Int.toNat 1+e=e+1 by(show 1+e=e+1;omega)];rfl⟩|exact⟨by simp only[List.length_cons,List.length_nil];omega,fun h=>absurd h Bool.false_ne_true,fun e he=>by rw[show Int.toNat 1+e=e+1 by(show 1+e=e+1;omega)];rfl⟩
   (conv=>whnf)
  rotate_left
  by_cases hn3:w0=[102,117,115,101]
  focus
   subst hn3;have hz:x.2=(C9,4):=hfail fun a hm hf hw=>by
    have h3:=(Ac4 d0 hm hf hw).2.2;rw[hc] at h3;simp only[List.length_cons,List.length_nil] at h3;omega
   refine⟨((x.1,32,[[102,117,115,101]]):List UInt8 × UInt8 × List (List UInt8)),⟨Nat.le_trans hs (by decide),hW0⟩,?_,?_⟩
   ·exact Ac _
   (conv=>whnf)
   (repeat' (first|refine⟨tU,?_⟩|with_reducible refine lnI fun hln=>?_)<;>conv=>whnf)
   refine⟨(C9:Act),True.intro,?_,?_⟩
   ·exact tL
   (conv=>whnf)
   (repeat' (first|with_reducible exact⟨⟩|refine⟨tU,?_⟩|split<;>rename_i hh<;>try simp only[wS] at hh|with_reducible refine iA ?_ ?_)<;>conv=>whnf)
   all_goals try(show _=_;simp only[wQ])
   all_goals first|(rw[hz]<;>rfl)|exact absurd (Es.symm.trans (by assumption)) (by decide)
  by_cases hn4:w0=[99,114,97,115,104]
  focus
   subst hn4;have hz:x.2=(C9,4):=hfail fun a hm hf hw=>by
    have h3:=(Ah1 d0 hm hf hw).2.2;rw[hc] at h3;simp only[List.length_cons,List.length_nil] at h3;omega
   refine⟨((x.1,32,[[99,114,97,115,104]]):List UInt8 × UInt8 × List (List UInt8)),⟨Nat.le_trans hs (by decide),hW0⟩,?_,?_⟩
   ·exact Ac _
   (conv=>whnf)
   (repeat' (first|refine⟨tU,?_⟩|with_reducible refine lnI fun hln=>?_)<;>conv=>whnf)
   refine⟨(C9:Act),True.intro,?_,?_⟩
   ·exact tL
   (conv=>whnf)
   (repeat' (first|with_reducible exact⟨⟩|refine⟨tU,?_⟩|split<;>rename_i hh<;>try simp only[wS] at hh|with_reducible refine iA ?_ ?_)<;>conv=>whnf)
   all_goals try(show _=_;simp only[wQ])
   all_goals first|(rw[hz]<;>rfl)|exact absurd (Es.symm.trans (by assumption)) (by decide)
  by_cases hn5:w0=[99,97,108,109]
  focus
   subst hn5;have hfit:fitA ⟨5,0,An,0,[],(x.1 == [99,97,108,109,32,121,101,115])⟩:=Gy;have hrd:∀ a,Ag a=true→fitA a→Bh a=x.1→(⟨5,0,An,0,[],(x.1 == [99,97,108,109,32,121,101,115])⟩:Act)=a:=fun a hm hf hw=>by
    have h3:=(Ah2 d0 hm hf hw).2;unfold B5 at h3;rw[Wp];exact h3
   refine⟨((x.1,32,[[99,97,108,109]]):List UInt8 × UInt8 × List (List UInt8)),⟨Nat.le_trans hs (by decide),hW0⟩,?_,?_⟩
   ·exact Ac _
   (conv=>whnf)
   (repeat' (first|refine⟨tU,?_⟩|with_reducible refine lnI fun hln=>?_)<;>conv=>whnf)
  rotate_left
  have hz:x.2=(C9,4):=hq.symm.trans (Aa4 (by rw[d0];exact hn1) (by rw[d0];exact hn2) (by rw[d0];exact hn3) (by rw[d0];exact hn4) (by rw[d0];exact hn5))
  focus
   have hn1: ¬(([w0]:List (List UInt8)).getD (Int.toNat 0) [])=[100,111]:=hn1;have hn2: ¬(([w0]:List (List UInt8)).getD (Int.toNat 0) [])=[116,105,99,107]:=hn2;have hn3: ¬(([w0]:List (List UInt8)).getD (Int.toNat 0) [])=[102,117,115,101]:=hn3;have hn4: ¬(([w0]:List (List UInt8)).getD (Int.toNat 0) [])=[99,114,97,115,104]:=hn4;have hn5: ¬(([w0]:List (List UInt8)).getD (Int.toNat 0) [])=[99,97,108,109]:=hn5;refine⟨((x.1,32,[w0]):List UInt8 × UInt8 × List (List UInt8)),⟨Nat.le_trans hs (by decide),hW0⟩,?_,?_⟩
   ·exact Ac _
   (conv=>whnf)
   (repeat' (first|(exact absurd (by with_reducible assumption) hn1)|(exact absurd (by with_reducible assumption) hn2)|(exact absurd (by with_reducible assumption) hn3)|(exact absurd (by with_reducible assumption) hn4)|(exact absurd (by with_reducible assumption) hn5)|refine⟨tU,?_⟩|split<;>rename_i hh<;>try simp only[wS] at hh|with_reducible refine lnI fun hln=>?_)<;>conv=>whnf)
   refine⟨(C9:Act),True.intro,?_,?_⟩
   ·exact tL
   (conv=>whnf)
   (repeat' (first|with_reducible exact⟨⟩|refine⟨tU,?_⟩|split<;>rename_i hh<;>try simp only[wS] at hh|with_reducible refine iA ?_ ?_)<;>conv=>whnf)
   all_goals try(show _=_;simp only[wQ])
   all_goals first|(rw[hz]<;>rfl)|exact absurd (Es.symm.trans (by assumption)) (by decide)
 rotate_left 2
 focus
  have hc:Aa 32 x.1=[w0,w1]:=hsL.symm.trans hW0;have d0:(Aa 32 x.1).getD 0 []=w0:=by rw[hc];rfl
  have d1:(Aa 32 x.1).getD 1 []=w1:=by rw[hc];rfl
  have d2:(Aa 32 x.1).getD 2 []=[]:=by rw[hc];rfl
  have hm1:∀ i,(([w1]:List (List UInt8)).getD i []).length≤100000000:=fun i=>by have:=hmem (i+1);rw[hW0] at this;exact Nat.le_trans this (by decide)
  have hm2:∀ i,(([]:List (List UInt8)).getD i []).length≤100000000:=fun i=>by have:=hmem (i+2);rw[hW0] at this;exact Nat.le_trans this (by decide)
  have hlw:[w0,w1].length≤1000001:=by rw[←hW0];exact hlenW
  simp only[List.length_cons,List.length_nil] at hlw;by_cases hn1:w0=[100,111]
  focus
   subst hn1;have hz:x.2=(C9,4):=hfail fun a hm hf hw=>by
    have h3:=(hP d0 hm hf hw).2.2.2.2;rw[hc] at h3;simp only[List.length_cons,List.length_nil] at h3;omega
   refine⟨((x.1,32,[[100,111],w1]):List UInt8 × UInt8 × List (List UInt8)),⟨Nat.le_trans hs (by decide),hW0⟩,?_,?_⟩
   ·exact Ac _
   (conv=>whnf)
   (repeat' (first|refine⟨tU,?_⟩|with_reducible refine lnI fun hln=>?_)<;>conv=>whnf)
   refine⟨(C9:Act),True.intro,?_,?_⟩
   ·exact tL
   (conv=>whnf)
   (repeat' (first|with_reducible exact⟨⟩|refine⟨tU,?_⟩|split<;>rename_i hh<;>try simp only[wS] at hh|with_reducible refine iA ?_ ?_)<;>conv=>whnf)
   all_goals try(show _=_;simp only[wQ])
   all_goals first|(rw[hz]<;>rfl)|exact absurd (Es.symm.trans (by assumption)) (by decide)
  by_cases hn2:w0=[116,105,99,107]
  focus
   subst hn2;have hfit:fitA ⟨2,0,An,0,([w1]:List (List UInt8)).map rpV,false⟩:=Kb qQ;have hrd:∀ a,Ag a=true→fitA a→Bh a=x.1→(⟨2,0,An,0,([w1]:List (List UInt8)).map rpV,false⟩:Act)=a:=fun a hm hf hw=>by
    have h3:=(Ah0 d0 hm hf hw).2;unfold B2 at h3;rw[hc] at h3;exact h3
   refine⟨((x.1,32,[[116,105,99,107],w1]):List UInt8 × UInt8 × List (List UInt8)),⟨Nat.le_trans hs (by decide),hW0⟩,?_,?_⟩
   ·exact Ac _
   (conv=>whnf)
   (repeat' (first|refine⟨tU,?_⟩|with_reducible refine lnI fun hln=>?_)<;>conv=>whnf)
   refine⟨([w1]:List (List UInt8)),⟨by simp only[List.length_cons,List.length_nil];omega,hm1⟩,?_,?_⟩
   ·(conv=>whnf)
    (repeat' (first|with_reducible exact⟨⟩|refine⟨tA,?_⟩|with_reducible refine iA ?_ ?_)<;>conv=>whnf)
    all_goals try simp only[wQ]
    first|exact⟨fun h=>absurd h Bool.false_ne_true,fun e he=>by rw[show Int.toNat 1+e=e+1 by(show 1+e=e+1;omega)];rfl⟩|exact⟨by simp only[List.length_cons,List.length_nil];omega,fun h=>absurd h Bool.false_ne_true,fun e he=>by rw[show Int.toNat 1+e=e+1 by(show 1+e=e+1;omega)];rfl⟩
   (conv=>whnf)
  rotate_left
  by_cases hn3:w0=[102,117,115,101]
  focus
   subst hn3;have hz:x.2=(C9,4):=hfail fun a hm hf hw=>by
    have h3:=(Ac4 d0 hm hf hw).2.2;rw[hc] at h3;simp only[List.length_cons,List.length_nil] at h3;omega
   refine⟨((x.1,32,[[102,117,115,101],w1]):List UInt8 × UInt8 × List (List UInt8)),⟨Nat.le_trans hs (by decide),hW0⟩,?_,?_⟩
   ·exact Ac _
   (conv=>whnf)
   (repeat' (first|refine⟨tU,?_⟩|with_reducible refine lnI fun hln=>?_)<;>conv=>whnf)
   refine⟨(C9:Act),True.intro,?_,?_⟩
   ·exact tL
   (conv=>whnf)
   (repeat' (first|with_reducible exact⟨⟩|refine⟨tU,?_⟩|split<;>rename_i hh<;>try simp only[wS] at hh|with_reducible refine iA ?_ ?_)<;>conv=>whnf)
   all_goals try(show _=_;simp only[wQ])
   all_goals first|(rw[hz]<;>rfl)|exact absurd (Es.symm.trans (by assumption)) (by decide)
  by_cases hn4:w0=[99,114,97,115,104]
  focus
   subst hn4;have hfit:fitA ⟨4,Ay w1,An,0,([]:List (List UInt8)).map rpV,false⟩:=Kb qQ;have hrd:∀ a,Ag a=true→fitA a→Bh a=x.1→(⟨4,Ay w1,An,0,([]:List (List UInt8)).map rpV,false⟩:Act)=a:=fun a hm hf hw=>by
    have h3:=(Ah1 d0 hm hf hw).2.1;unfold B4 at h3;rw[d1,hc] at h3;exact h3
   refine⟨((x.1,32,[[99,114,97,115,104],w1]):List UInt8 × UInt8 × List (List UInt8)),⟨Nat.le_trans hs (by decide),hW0⟩,?_,?_⟩
   ·exact Ac _
   (conv=>whnf)
   (repeat' (first|refine⟨tU,?_⟩|with_reducible refine lnI fun hln=>?_)<;>conv=>whnf)
   refine⟨([]:List (List UInt8)),⟨by simp only[List.length_cons,List.length_nil];omega,hm2⟩,?_,?_⟩
   ·(conv=>whnf)
    (repeat' (first|with_reducible exact⟨⟩|refine⟨tA,?_⟩|with_reducible refine iA ?_ ?_)<;>conv=>whnf)
    all_goals try simp only[wQ]
    first|exact⟨fun h=>absurd h Bool.false_ne_true,fun e he=>by rw[show Int.toNat 2+e=e+2 by(show 2+e=e+2;omega)];rfl⟩|exact⟨by simp only[List.length_cons,List.length_nil];omega,fun h=>absurd h Bool.false_ne_true,fun e he=>by rw[show Int.toNat 2+e=e+2 by(show 2+e=e+2;omega)];rfl⟩
   (conv=>whnf)
  rotate_left
  by_cases hn5:w0=[99,97,108,109]
  focus
   subst hn5;have hfit:fitA ⟨5,0,An,0,[],(x.1 == [99,97,108,109,32,121,101,115])⟩:=Gy;have hrd:∀ a,Ag a=true→fitA a→Bh a=x.1→(⟨5,0,An,0,[],(x.1 == [99,97,108,109,32,121,101,115])⟩:Act)=a:=fun a hm hf hw=>by
    have h3:=(Ah2 d0 hm hf hw).2;unfold B5 at h3;rw[Wp];exact h3
   refine⟨((x.1,32,[[99,97,108,109],w1]):List UInt8 × UInt8 × List (List UInt8)),⟨Nat.le_trans hs (by decide),hW0⟩,?_,?_⟩
   ·exact Ac _
   (conv=>whnf)
   (repeat' (first|refine⟨tU,?_⟩|with_reducible refine lnI fun hln=>?_)<;>conv=>whnf)
  rotate_left
  have hz:x.2=(C9,4):=hq.symm.trans (Aa4 (by rw[d0];exact hn1) (by rw[d0];exact hn2) (by rw[d0];exact hn3) (by rw[d0];exact hn4) (by rw[d0];exact hn5))
  focus
   have hn1: ¬(([w0,w1]:List (List UInt8)).getD (Int.toNat 0) [])=[100,111]:=hn1;have hn2: ¬(([w0,w1]:List (List UInt8)).getD (Int.toNat 0) [])=[116,105,99,107]:=hn2;have hn3: ¬(([w0,w1]:List (List UInt8)).getD (Int.toNat 0) [])=[102,117,115,101]:=hn3;have hn4: ¬(([w0,w1]:List (List UInt8)).getD (Int.toNat 0) [])=[99,114,97,115,104]:=hn4;have hn5: ¬(([w0,w1]:List (List UInt8)).getD (Int.toNat 0) [])=[99,97,108,109]:=hn5;refine⟨((x.1,32,[w0,w1]):List UInt8 × UInt8 × List (List UInt8)),⟨Nat.le_trans hs (by decide),hW0⟩,?_,?_⟩
   ·exact Ac _
   (conv=>whnf)
   (repeat' (first|(exact absurd (by with_reducible assumption) hn1)|(exact absurd (by with_reducible assumption) hn2)|(exact absurd (by with_reducible assumption) hn3)|(exact absurd (by with_reducible assumption) hn4)|(exact absurd (by with_reducible assumption) hn5)|refine⟨tU,?_⟩|split<;>rename_i hh<;>try simp only[wS] at hh|with_reducible refine lnI fun hln=>?_)<;>conv=>whnf)
   refine⟨(C9:Act),True.intro,?_,?_⟩
   ·exact tL
   (conv=>whnf)
   (repeat' (first|with_reducible exact⟨⟩|refine⟨tU,?_⟩|split<;>rename_i hh<;>try simp only[wS] at hh|with_reducible refine iA ?_ ?_)<;>conv=>whnf)
   all_goals try(show _=_;simp only[wQ])
   all_goals first|(rw[hz]<;>rfl)|exact absurd (Es.symm.trans (by assumption)) (by decide)
 rotate_left 3
 focus
  have hc:Aa 32 x.1=(w0::w1::w2::ws):=hsL.symm.trans hW0;have d0:(Aa 32 x.1).getD 0 []=w0:=by rw[hc];rfl
  have d1:(Aa 32 x.1).getD 1 []=w1:=by rw[hc];rfl
  have d2:(Aa 32 x.1).getD 2 []=w2:=by rw[hc];rfl
  have hm1:∀ i,(((w1::w2::ws):List (List UInt8)).getD i []).length≤100000000:=fun i=>by have:=hmem (i+1);rw[hW0] at this;exact Nat.le_trans this (by decide)
  have hm2:∀ i,(((w2::ws):List (List UInt8)).getD i []).length≤100000000:=fun i=>by have:=hmem (i+2);rw[hW0] at this;exact Nat.le_trans this (by decide)
  have hlw:(w0::w1::w2::ws).length≤1000001:=by rw[←hW0];exact hlenW
  simp only[List.length_cons,List.length_nil] at hlw;by_cases hn1:w0=[100,111]
  focus
   subst hn1;have hdr:=A1a hc;have hl0:(([100,111]::w1::w2::ws).getD (Int.toNat 0) []).length=2:=rfl;have hl1:(([100,111]::w1::w2::ws).getD (Int.toNat 1) []).length=w1.length:=rfl;have hlx:2+w1.length+2≤x.1.length:=hdr.1;have hcut:∀ n:Int,n=((2+w1.length+2:Nat):Int)→List.take (x.1.length - n.toNat) (List.drop n.toNat x.1)=doR x.1:=fun n hn=>by
    rw[hn,hdr.2,List.take_of_length_le (by rw[List.length_drop];exact Nat.le_refl _)];rfl
   rcases aU (doR x.1) with hr|⟨r,hmr,hr⟩
   ·have hz:x.2=(C9,4):=hfail fun a hm hf hw=>by
     have h3:=(hP d0 hm hf hw).2.2.2.1;rw[hr] at h3;cases h3
    refine⟨((x.1,32,([100,111]::w1::w2::ws)):List UInt8 × UInt8 × List (List UInt8)),⟨Nat.le_trans hs (by decide),hW0⟩,?_,?_⟩
    ·exact Ac _
    (conv=>whnf)
    (repeat' (first|refine⟨tU,?_⟩|with_reducible refine lnI fun hln=>?_)<;>conv=>whnf)
    refine⟨((doR x.1,An,4):List UInt8 × Request × Int),⟨hr,Nat.le_trans hdl hs⟩,?_,?_⟩
    ·(conv=>whnf)
     (repeat' (first|with_reducible exact⟨⟩|with_reducible refine iA ?_ ?_)<;>conv=>whnf)
     all_goals try simp only[wQ]
     exact hcut _ (by rw[hl0,hl1];omega)
    (conv=>whnf)
    (repeat' (first|with_reducible exact⟨⟩|refine⟨tU,?_⟩|split<;>rename_i hh<;>try simp only[wS] at hh|with_reducible refine iA ?_ ?_)<;>conv=>whnf)
    all_goals try(show _=_;simp only[wQ])
    all_goals first|exact absurd (by assumption) (by decide: ¬(4:Int)=0)|(rw[hz]<;>rfl)
   have hfit:fitA ⟨1,Ay w1,r,0,[],false⟩:=Gy;have hrd:∀ a,Ag a=true→fitA a→Bh a=x.1→(⟨1,Ay w1,r,0,[],false⟩:Act)=a:=fun a hm hf hw=>by
    have h3:=(hP d0 hm hf hw).2.1;unfold B1 at h3;rw[d1,hr] at h3;exact h3
   refine⟨((x.1,32,([100,111]::w1::w2::ws)):List UInt8 × UInt8 × List (List UInt8)),⟨Nat.le_trans hs (by decide),hW0⟩,?_,?_⟩
   ·exact Ac _
   (conv=>whnf)
   (repeat' (first|refine⟨tU,?_⟩|with_reducible refine lnI fun hln=>?_)<;>conv=>whnf)
   refine⟨((doR x.1,r,0):List UInt8 × Request × Int),⟨hr,Nat.le_trans hdl hs⟩,?_,?_⟩
   ·(conv=>whnf)
    (repeat' (first|with_reducible exact⟨⟩|with_reducible refine iA ?_ ?_)<;>conv=>whnf)
    all_goals try simp only[wQ]
    exact hcut _ (by rw[hl0,hl1];omega)
   (conv=>whnf)
   (repeat' (first|with_reducible exact⟨⟩|refine⟨tU,?_⟩|split<;>rename_i hh<;>try simp only[wS] at hh|with_reducible refine iA ?_ ?_)<;>conv=>whnf)
   all_goals try(show _=_;simp only[wQ])
   all_goals try (exact absurd True.intro (by assumption))
  rotate_left
  by_cases hn2:w0=[116,105,99,107]
  focus
   subst hn2;have hfit:fitA ⟨2,0,An,0,((w1::w2::ws):List (List UInt8)).map rpV,false⟩:=Kb qQ;have hrd:∀ a,Ag a=true→fitA a→Bh a=x.1→(⟨2,0,An,0,((w1::w2::ws):List (List UInt8)).map rpV,false⟩:Act)=a:=fun a hm hf hw=>by
    have h3:=(Ah0 d0 hm hf hw).2;unfold B2 at h3;rw[hc] at h3;exact h3
   refine⟨((x.1,32,([116,105,99,107]::w1::w2::ws)):List UInt8 × UInt8 × List (List UInt8)),⟨Nat.le_trans hs (by decide),hW0⟩,?_,?_⟩
   ·exact Ac _
   (conv=>whnf)
   (repeat' (first|refine⟨tU,?_⟩|with_reducible refine lnI fun hln=>?_)<;>conv=>whnf)
   refine⟨((w1::w2::ws):List (List UInt8)),⟨by simp only[List.length_cons,List.length_nil];omega,hm1⟩,?_,?_⟩
   ·(conv=>whnf)
    (repeat' (first|with_reducible exact⟨⟩|refine⟨tA,?_⟩|with_reducible refine iA ?_ ?_)<;>conv=>whnf)
    all_goals try simp only[wQ]
    first|exact⟨fun h=>absurd h Bool.false_ne_true,fun e he=>by rw[show Int.toNat 1+e=e+1 by(show 1+e=e+1;omega)];rfl⟩|exact⟨by simp only[List.length_cons,List.length_nil];omega,fun h=>absurd h Bool.false_ne_true,fun e he=>by rw[show Int.toNat 1+e=e+1 by(show 1+e=e+1;omega)];rfl⟩
   (conv=>whnf)
  rotate_left
  by_cases hn3:w0=[102,117,115,101]
  focus
   subst hn3;rcases ws with _|⟨w3,ws⟩;focus
    have hfit:fitA ⟨3,Ay w1,An,Ay w2,[],false⟩:=Gy;have hrd:∀ a,Ag a=true→fitA a→Bh a=x.1→(⟨3,Ay w1,An,Ay w2,[],false⟩:Act)=a:=fun a hm hf hw=>by
     have h3:=(Ac4 d0 hm hf hw).2.1;unfold B3 at h3;rw[d1,d2] at h3;exact h3
    refine⟨((x.1,32,[[102,117,115,101],w1,w2]):List UInt8 × UInt8 × List (List UInt8)),⟨Nat.le_trans hs (by decide),hW0⟩,?_,?_⟩
    ·exact Ac _
    (conv=>whnf)
    (repeat' (first|refine⟨tU,?_⟩|with_reducible refine lnI fun hln=>?_)<;>conv=>whnf)
   rotate_left
   focus
    have hz:x.2=(C9,4):=hfail fun a hm hf hw=>by
     have h3:=(Ac4 d0 hm hf hw).2.2;rw[hc] at h3;simp only[List.length_cons] at h3;omega
    refine⟨((x.1,32,([102,117,115,101]::w1::w2::w3::ws)):List UInt8 × UInt8 × List (List UInt8)),⟨Nat.le_trans hs (by decide),hW0⟩,?_,?_⟩
    ·exact Ac _
    (conv=>whnf)
    (repeat' (first|refine⟨tU,?_⟩|with_reducible refine lnI fun hln=>?_)<;>conv=>whnf)
    refine⟨(C9:Act),True.intro,?_,?_⟩
    ·exact tL
    (conv=>whnf)
    (repeat' (first|with_reducible exact⟨⟩|refine⟨tU,?_⟩|split<;>rename_i hh<;>try simp only[wS] at hh|with_reducible refine iA ?_ ?_)<;>conv=>whnf)
    all_goals try(show _=_;simp only[wQ])
    all_goals first|(rw[hz]<;>rfl)|exact absurd (Es.symm.trans (by assumption)) (by decide)
  rotate_left
  by_cases hn4:w0=[99,114,97,115,104]
  focus
   subst hn4;have hfit:fitA ⟨4,Ay w1,An,0,((w2::ws):List (List UInt8)).map rpV,false⟩:=Kb qQ;have hrd:∀ a,Ag a=true→fitA a→Bh a=x.1→(⟨4,Ay w1,An,0,((w2::ws):List (List UInt8)).map rpV,false⟩:Act)=a:=fun a hm hf hw=>by
    have h3:=(Ah1 d0 hm hf hw).2.1;unfold B4 at h3;rw[d1,hc] at h3;exact h3
   refine⟨((x.1,32,([99,114,97,115,104]::w1::w2::ws)):List UInt8 × UInt8 × List (List UInt8)),⟨Nat.le_trans hs (by decide),hW0⟩,?_,?_⟩
   ·exact Ac _
   (conv=>whnf)
   (repeat' (first|refine⟨tU,?_⟩|with_reducible refine lnI fun hln=>?_)<;>conv=>whnf)
   refine⟨((w2::ws):List (List UInt8)),⟨by simp only[List.length_cons,List.length_nil];omega,hm2⟩,?_,?_⟩
   ·(conv=>whnf)
    (repeat' (first|with_reducible exact⟨⟩|refine⟨tA,?_⟩|with_reducible refine iA ?_ ?_)<;>conv=>whnf)
    all_goals try simp only[wQ]
    first|exact⟨fun h=>absurd h Bool.false_ne_true,fun e he=>by rw[show Int.toNat 2+e=e+2 by(show 2+e=e+2;omega)];rfl⟩|exact⟨by simp only[List.length_cons,List.length_nil];omega,fun h=>absurd h Bool.false_ne_true,fun e he=>by rw[show Int.toNat 2+e=e+2 by(show 2+e=e+2;omega)];rfl⟩
   (conv=>whnf)
  rotate_left
  by_cases hn5:w0=[99,97,108,109]
  focus
   subst hn5;have hfit:fitA ⟨5,0,An,0,[],(x.1 == [99,97,108,109,32,121,101,115])⟩:=Gy;have hrd:∀ a,Ag a=true→fitA a→Bh a=x.1→(⟨5,0,An,0,[],(x.1 == [99,97,108,109,32,121,101,115])⟩:Act)=a:=fun a hm hf hw=>by
    have h3:=(Ah2 d0 hm hf hw).2;unfold B5 at h3;rw[Wp];exact h3
   refine⟨((x.1,32,([99,97,108,109]::w1::w2::ws)):List UInt8 × UInt8 × List (List UInt8)),⟨Nat.le_trans hs (by decide),hW0⟩,?_,?_⟩
   ·exact Ac _
   (conv=>whnf)
   (repeat' (first|refine⟨tU,?_⟩|with_reducible refine lnI fun hln=>?_)<;>conv=>whnf)
  rotate_left
  have hz:x.2=(C9,4):=hq.symm.trans (Aa4 (by rw[d0];exact hn1) (by rw[d0];exact hn2) (by rw[d0];exact hn3) (by rw[d0];exact hn4) (by rw[d0];exact hn5))
  focus
   have hn1: ¬(((w0::w1::w2::ws):List (List UInt8)).getD (Int.toNat 0) [])=[100,111]:=hn1;have hn2: ¬(((w0::w1::w2::ws):List (List UInt8)).getD (Int.toNat 0) [])=[116,105,99,107]:=hn2;have hn3: ¬(((w0::w1::w2::ws):List (List UInt8)).getD (Int.toNat 0) [])=[102,117,115,101]:=hn3;have hn4: ¬(((w0::w1::w2::ws):List (List UInt8)).getD (Int.toNat 0) [])=[99,114,97,115,104]:=hn4;have hn5: ¬(((w0::w1::w2::ws):List (List UInt8)).getD (Int.toNat 0) [])=[99,97,108,109]:=hn5;refine⟨((x.1,32,(w0::w1::w2::ws)):List UInt8 × UInt8 × List (List UInt8)),⟨Nat.le_trans hs (by decide),hW0⟩,?_,?_⟩
   ·exact Ac _
   (conv=>whnf)
   (repeat' (first|(exact absurd (by with_reducible assumption) hn1)|(exact absurd (by with_reducible assumption) hn2)|(exact absurd (by with_reducible assumption) hn3)|(exact absurd (by with_reducible assumption) hn4)|(exact absurd (by with_reducible assumption) hn5)|refine⟨tU,?_⟩|split<;>rename_i hh<;>try simp only[wS] at hh|with_reducible refine lnI fun hln=>?_)<;>conv=>whnf)
   refine⟨(C9:Act),True.intro,?_,?_⟩
   ·exact tL
   (conv=>whnf)
   (repeat' (first|with_reducible exact⟨⟩|refine⟨tU,?_⟩|split<;>rename_i hh<;>try simp only[wS] at hh|with_reducible refine iA ?_ ?_)<;>conv=>whnf)
   all_goals try(show _=_;simp only[wQ])
   all_goals first|(rw[hz]<;>rfl)|exact absurd (Es.symm.trans (by assumption)) (by decide)
 rotate_left 5
 all_goals (
  refine⟨Avr hrd,True.intro,?_,?_⟩
  ·exact tL
  (conv=>whnf)
  (repeat' (first|with_reducible exact⟨⟩|refine⟨tU,?_⟩|split<;>rename_i hh<;>try simp only[wS] at hh|with_reducible refine iA ?_ ?_)<;>conv=>whnf)
  all_goals try(show _=_;simp only[wQ])
  all_goals try (rw[Az0 hfail hrd hh]<;>rfl)
  refine⟨Avr hrd,by assumption,?_,?_⟩
  ·exact tL
  (conv=>whnf)
  (repeat' (first|with_reducible exact⟨⟩|refine⟨tU,?_⟩|split<;>rename_i hh<;>try simp only[wS] at hh|with_reducible refine iA ?_ ?_)<;>conv=>whnf)
  all_goals try(show _=_;simp only[wQ])
  all_goals try (rw[Az1 hfail hrd hh]<;>rfl)
  all_goals (
   rw[hq.symm.trans (qP (by assumption) hfit (by assumption) hrd)]
   all_goals first|rfl|exact⟨rfl,fun h=>h,fun _ _=>rfl⟩))
end
end Go.Vc.Z
