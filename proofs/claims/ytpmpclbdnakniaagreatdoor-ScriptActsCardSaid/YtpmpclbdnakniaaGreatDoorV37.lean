/- couponref26.ActOf: the act of a line, the reference's. -/
import Derived.Test.YtpmpclbdnakniaaGreatDoorV35
import Derived.Test.YtpmpclbdnakniaaGreatDoorV36
import Derived.Test.YtpmpclbdnakniaaGreatDoorV22
import Derived.Test.YtpmpclbdnakniaaGreatDoorV32
set_option linter.all false
set_option linter.unusedVariables false
set_option linter.unusedSimpArgs false
namespace Go.Vc.Z
open Go Go.Vc Go.Proofs Go.RowKit Go.Pl Go.Lib
theorem Avk{s w0 w1 w2:List UInt8}{ws:List (List UInt8)}(h:Aa 32 s=w0::w1::w2::ws):w0.length+w1.length+2≤s.length∧doR s=s.drop (w0.length+w1.length+2):=by
 have hj:=Aiq 32 s
 rw[h] at hj
 refine⟨?_,by unfold doR;rw[h];rfl⟩
 rw[←hj]
 simp[Lib.join]
 omega
noncomputable section
set_option maxRecDepth 100000
attribute [local irreducible] inK Utf8.decode Utf8.encode Lib.itoa Pl.worth Pl.allDig
attribute [local irreducible] Lib.join Ca Aa
def Ahp:PC:=PC.of (fun x:List UInt8 × UInt8 × List (List UInt8)=>[.str x.1,.int .u8 (x.2.1.toNat:Int)]) (fun x=>x.1.length≤100000000∧sL (Aa x.2.1 x.1)=x.2.2) (fun x=>slS x.2.2)
theorem Ajq{W:World}(hW:Tabs W):GoodP (Fw W) Tryz.prog 86 Ahp:=by
 intro S w cs vs Q hs hv hT
 obtain⟨x,⟨h1,h2⟩,h3,h4⟩:=hT
 refine J3 hW S w cs vs Q hs hv ⟨(x.1,x.2.1),h1,h3,?_⟩
 show Q (slS (sL (Aa x.2.1 x.1)))
 rw[h2];exact h4
def Ad1:PC:=PC.of (fun x:List UInt8 × Act × Int=>[.str x.1]) (fun x=>lV x.1=x.2∧x.1.length≤1000000) (fun x=>.tup [.agg x.2.1.enc,.bool (sB (decide (x.2.2=0)))])
def Ia:PT:=C8 [(29,Afj),(35,Z6),(37,Wu),(86,Ahp),(87,cQ),(97,Adb)]
theorem Mb{W:World}(hW:Tabs W):Ct (Fw W) Tryz.prog Ia:=(Ab Tryz.call29 (Jb hW) (Ab Tryz.call35 (O8 hW) (Ab Tryz.call37 (mE hW) (Ab Tryz.call86 (Ajq hW) (Ab Tryz.call87 (H5 hW) (Ab Tryz.call97 (Qt hW) Av))))))
def Ib:FuncId→Option Ctr:=Az Ia []
theorem Ve{W:World}(hW:Tabs W):Ad (Fw W) Tryz.prog Ib:=(Aw (Mb hW))
set_option maxHeartbeats 4000000 in
theorem Vf{W:World}(hW:Tabs W):GoodP (Fw W) Tryz.prog 31 Ad1:=by
 have hD:=Mb hW
 have hC0:∀ x:List UInt8 × Act × Int,Ad (Fw W) Tryz.prog Ib:=fun x=>(Ve hW)
 refine As (D:=Ia) (C:=fun x=>Ib) (wr:=(fun _=>false)) rfl Ao hD hC0 Tryz.func31 (fun _ _=>none) (fun _=>rfl) ?_
 intro x hf hp
 clear hf
 obtain⟨hq,hs⟩:=hp
 have hlen1:=Ei 32 x.1
 have hsL:=Do (Aa 32 x.1)
 have hlenW:(sL (Aa 32 x.1)).length≤1000001:=by rw[hsL];have:=Ik 32 x.1;omega
 have hmem:∀ i,((sL (Aa 32 x.1)).getD i []).length≤1000000:=fun i=>Gi hs i
 have hfail:(∀ a,Ah a=true→fitA a→Cc a=x.1→False)→x.2=(D1,4):=fun h=>by rw[←hq];exact cZ h
 have hdl:=Apu x.1
 rcases hW0:sL (Aa 32 x.1) with _|⟨w0,_|⟨w1,_|⟨w2,ws⟩⟩⟩
 ·rw[←hsL,hW0] at hlen1;exact absurd hlen1 (by decide)
 focus
  have hc:Aa 32 x.1=[w0]:=hsL.symm.trans hW0
  have d0:(Aa 32 x.1).getD 0 []=w0:=by rw[hc];rfl
  have d1:(Aa 32 x.1).getD 1 []=[]:=by rw[hc];rfl
  have d2:(Aa 32 x.1).getD 2 []=[]:=by rw[hc];rfl
  have hm1:∀ i,(([]:List (List UInt8)).getD i []).length≤100000000:=fun i=>by have:=hmem (i+1);rw[hW0] at this;exact Nat.le_trans this (by decide)
  have hm2:∀ i,(([]:List (List UInt8)).getD i []).length≤100000000:=fun i=>by have:=hmem (i+2);rw[hW0] at this;exact Nat.le_trans this (by decide)
  have hlw:[w0].length≤1000001:=by rw[←hW0];exact hlenW
  simp only[List.length_cons,List.length_nil] at hlw
  by_cases hn1:w0=[100,111]
  focus
   subst hn1
   have hz:x.2=(D1,4):=hfail fun a hm hf hw=>by
    have h3:=(cI d0 hm hf hw).2.2.2.2
    rw[hc] at h3;simp only[List.length_cons,List.length_nil] at h3;omega
   refine⟨((x.1,32,[[100,111]]):List UInt8 × UInt8 × List (List UInt8)),⟨Nat.le_trans hs (by decide),hW0⟩,?_,?_⟩
   ·exact Ac _
   (conv=>whnf)
   (repeat' ((first
    |((with_reducible refine aI ?_ ?_);focus ((simp only[List.length_append,bytesOf_length,List.toList_toArray,List.length_cons,List.length_nil,List.length_take,List.length_drop,Bb];omega)))
    |with_reducible refine lnI fun hln=>?_
    |fail)<;>(conv=>whnf)))
   refine⟨(D1:Act),True.intro,?_,?_⟩
   ·exact tL
   (conv=>whnf)
   (repeat' ((first
    |with_reducible exact⟨⟩
    |((with_reducible refine aI ?_ ?_);focus (with_reducible rfl))
    |(split<;>rename_i hh<;>(try simp only[wS] at hh))
    |with_reducible refine iA ?_ ?_
    |fail)<;>(conv=>whnf)))
   all_goals (try (show _=_;simp only[wQ]))
   all_goals first|(rw[hz]<;>rfl)|exact absurd (E3.symm.trans (by assumption)) (by decide)
  by_cases hn2:w0=[116,105,99,107]
  focus
   subst hn2
   have hfit:fitA ⟨2,0,An,0,([]:List (List UInt8)).map rpV,false⟩:=J4 lY
   have hrd:∀ a,Ah a=true→fitA a→Cc a=x.1→(⟨2,0,An,0,([]:List (List UInt8)).map rpV,false⟩:Act)=a:=fun a hm hf hw=>by
    have h3:=(Adx d0 hm hf hw).2
    unfold B2 at h3
    rw[hc] at h3;exact h3
   refine⟨((x.1,32,[[116,105,99,107]]):List UInt8 × UInt8 × List (List UInt8)),⟨Nat.le_trans hs (by decide),hW0⟩,?_,?_⟩
   ·exact Ac _
   (conv=>whnf)
   (repeat' ((first
    |((with_reducible refine aI ?_ ?_);focus (first|omega|(simp only[List.length_append,bytesOf_length,List.toList_toArray,List.length_cons,List.length_nil,List.length_take,List.length_drop,Bb];omega)))
    |with_reducible refine lnI fun hln=>?_
    |fail)<;>(conv=>whnf)))
   refine⟨([]:List (List UInt8)),⟨by simp only[List.length_cons,List.length_nil];omega,hm1⟩,?_,?_⟩
   ·(conv=>whnf)
    (repeat' ((first|with_reducible exact⟨⟩|((with_reducible refine aI ?_ ?_);focus (exact tA))|with_reducible refine iA ?_ ?_|fail)<;>(conv=>whnf)))
    all_goals (try simp only[wQ])
    first|exact⟨fun h=>absurd h Bool.false_ne_true,fun e he=>by rw[show Int.toNat 1+e=e+1 by(show 1+e=e+1;omega)];rfl⟩|exact⟨by simp only[List.length_cons,List.length_nil];omega,fun h=>absurd h Bool.false_ne_true,fun e he=>by rw[show Int.toNat 1+e=e+1 by(show 1+e=e+1;omega)];rfl⟩
   (conv=>whnf)
  rotate_left
  by_cases hn3:w0=[102,117,115,101]
  focus
   subst hn3
   have hz:x.2=(D1,4):=hfail fun a hm hf hw=>by
    have h3:=(yM d0 hm hf hw).2.2
    rw[hc] at h3;simp only[List.length_cons,List.length_nil] at h3;omega
   refine⟨((x.1,32,[[102,117,115,101]]):List UInt8 × UInt8 × List (List UInt8)),⟨Nat.le_trans hs (by decide),hW0⟩,?_,?_⟩
   ·exact Ac _
   (conv=>whnf)
   (repeat' ((first
    |((with_reducible refine aI ?_ ?_);focus ((simp only[List.length_append,bytesOf_length,List.toList_toArray,List.length_cons,List.length_nil,List.length_take,List.length_drop,Bb];omega)))
    |with_reducible refine lnI fun hln=>?_
    |fail)<;>(conv=>whnf)))
   refine⟨(D1:Act),True.intro,?_,?_⟩
   ·exact tL
   (conv=>whnf)
   (repeat' ((first
    |with_reducible exact⟨⟩
    |((with_reducible refine aI ?_ ?_);focus (with_reducible rfl))
    |(split<;>rename_i hh<;>(try simp only[wS] at hh))
    |with_reducible refine iA ?_ ?_
    |fail)<;>(conv=>whnf)))
   all_goals (try (show _=_;simp only[wQ]))
   all_goals first|(rw[hz]<;>rfl)|exact absurd (E3.symm.trans (by assumption)) (by decide)
  by_cases hn4:w0=[99,114,97,115,104]
  focus
   subst hn4
   have hz:x.2=(D1,4):=hfail fun a hm hf hw=>by
    have h3:=(Ady d0 hm hf hw).2.2
    rw[hc] at h3;simp only[List.length_cons,List.length_nil] at h3;omega
   refine⟨((x.1,32,[[99,114,97,115,104]]):List UInt8 × UInt8 × List (List UInt8)),⟨Nat.le_trans hs (by decide),hW0⟩,?_,?_⟩
   ·exact Ac _
   (conv=>whnf)
   (repeat' ((first
    |((with_reducible refine aI ?_ ?_);focus ((simp only[List.length_append,bytesOf_length,List.toList_toArray,List.length_cons,List.length_nil,List.length_take,List.length_drop,Bb];omega)))
    |with_reducible refine lnI fun hln=>?_
    |fail)<;>(conv=>whnf)))
   refine⟨(D1:Act),True.intro,?_,?_⟩
   ·exact tL
   (conv=>whnf)
   (repeat' ((first
    |with_reducible exact⟨⟩
    |((with_reducible refine aI ?_ ?_);focus (with_reducible rfl))
    |(split<;>rename_i hh<;>(try simp only[wS] at hh))
    |with_reducible refine iA ?_ ?_
    |fail)<;>(conv=>whnf)))
   all_goals (try (show _=_;simp only[wQ]))
   all_goals first|(rw[hz]<;>rfl)|exact absurd (E3.symm.trans (by assumption)) (by decide)
  by_cases hn5:w0=[99,97,108,109]
  focus
   subst hn5
   have hfit:fitA ⟨5,0,An,0,[],(x.1 == [99,97,108,109,32,121,101,115])⟩:=Gz
   have hrd:∀ a,Ah a=true→fitA a→Cc a=x.1→(⟨5,0,An,0,[],(x.1 == [99,97,108,109,32,121,101,115])⟩:Act)=a:=fun a hm hf hw=>by
    have h3:=(Adz d0 hm hf hw).2
    unfold B5 at h3
    rw[Ut];exact h3
   refine⟨((x.1,32,[[99,97,108,109]]):List UInt8 × UInt8 × List (List UInt8)),⟨Nat.le_trans hs (by decide),hW0⟩,?_,?_⟩
   ·exact Ac _
   (conv=>whnf)
   (repeat' ((first
    |((with_reducible refine aI ?_ ?_);focus ((simp only[List.length_append,bytesOf_length,List.toList_toArray,List.length_cons,List.length_nil,List.length_take,List.length_drop,Bb];omega)))
    |with_reducible refine lnI fun hln=>?_
    |fail)<;>(conv=>whnf)))
  rotate_left
  have hz:x.2=(D1,4):=hq.symm.trans (wB (by rw[d0];exact hn1) (by rw[d0];exact hn2) (by rw[d0];exact hn3) (by rw[d0];exact hn4) (by rw[d0];exact hn5))
  focus
   have hn1: ¬(([w0]:List (List UInt8)).getD (Int.toNat 0) [])=[100,111]:=hn1
   have hn2: ¬(([w0]:List (List UInt8)).getD (Int.toNat 0) [])=[116,105,99,107]:=hn2
   have hn3: ¬(([w0]:List (List UInt8)).getD (Int.toNat 0) [])=[102,117,115,101]:=hn3
   have hn4: ¬(([w0]:List (List UInt8)).getD (Int.toNat 0) [])=[99,114,97,115,104]:=hn4
   have hn5: ¬(([w0]:List (List UInt8)).getD (Int.toNat 0) [])=[99,97,108,109]:=hn5
   refine⟨((x.1,32,[w0]):List UInt8 × UInt8 × List (List UInt8)),⟨Nat.le_trans hs (by decide),hW0⟩,?_,?_⟩
   ·exact Ac _
   (conv=>whnf)
   (repeat' ((first
    |(exact absurd (by with_reducible assumption) hn1)
    |(exact absurd (by with_reducible assumption) hn2)
    |(exact absurd (by with_reducible assumption) hn3)
    |(exact absurd (by with_reducible assumption) hn4)
    |(exact absurd (by with_reducible assumption) hn5)
    |((with_reducible refine aI ?_ ?_);focus ((simp only[List.length_append,bytesOf_length,List.toList_toArray,List.length_cons,List.length_nil,List.length_take,List.length_drop,Bb];omega)))
    |(split<;>rename_i hh<;>(try simp only[wS] at hh))
    |with_reducible refine lnI fun hln=>?_
    |fail)<;>(conv=>whnf)))
   refine⟨(D1:Act),True.intro,?_,?_⟩
   ·exact tL
   (conv=>whnf)
   (repeat' ((first
    |with_reducible exact⟨⟩
    |((with_reducible refine aI ?_ ?_);focus (with_reducible rfl))
    |(split<;>rename_i hh<;>(try simp only[wS] at hh))
    |with_reducible refine iA ?_ ?_
    |fail)<;>(conv=>whnf)))
   all_goals (try (show _=_;simp only[wQ]))
   all_goals first|(rw[hz]<;>rfl)|exact absurd (E3.symm.trans (by assumption)) (by decide)
 rotate_left 2
 focus
  have hc:Aa 32 x.1=[w0,w1]:=hsL.symm.trans hW0
  have d0:(Aa 32 x.1).getD 0 []=w0:=by rw[hc];rfl
  have d1:(Aa 32 x.1).getD 1 []=w1:=by rw[hc];rfl
  have d2:(Aa 32 x.1).getD 2 []=[]:=by rw[hc];rfl
  have hm1:∀ i,(([w1]:List (List UInt8)).getD i []).length≤100000000:=fun i=>by have:=hmem (i+1);rw[hW0] at this;exact Nat.le_trans this (by decide)
  have hm2:∀ i,(([]:List (List UInt8)).getD i []).length≤100000000:=fun i=>by have:=hmem (i+2);rw[hW0] at this;exact Nat.le_trans this (by decide)
  have hlw:[w0,w1].length≤1000001:=by rw[←hW0];exact hlenW
  simp only[List.length_cons,List.length_nil] at hlw
  by_cases hn1:w0=[100,111]
  focus
   subst hn1
   have hz:x.2=(D1,4):=hfail fun a hm hf hw=>by
    have h3:=(cI d0 hm hf hw).2.2.2.2
    rw[hc] at h3;simp only[List.length_cons,List.length_nil] at h3;omega
   refine⟨((x.1,32,[[100,111],w1]):List UInt8 × UInt8 × List (List UInt8)),⟨Nat.le_trans hs (by decide),hW0⟩,?_,?_⟩
   ·exact Ac _
   (conv=>whnf)
   (repeat' ((first
    |((with_reducible refine aI ?_ ?_);focus (first|with_reducible exact⟨⟩|(simp only[List.length_append,bytesOf_length,List.toList_toArray,List.length_cons,List.length_nil,List.length_take,List.length_drop,Bb];omega)))
    |with_reducible refine lnI fun hln=>?_
    |fail)<;>(conv=>whnf)))
   refine⟨(D1:Act),True.intro,?_,?_⟩
   ·exact tL
   (conv=>whnf)
   (repeat' ((first
    |with_reducible exact⟨⟩
    |((with_reducible refine aI ?_ ?_);focus (with_reducible rfl))
    |(split<;>rename_i hh<;>(try simp only[wS] at hh))
    |with_reducible refine iA ?_ ?_
    |fail)<;>(conv=>whnf)))
   all_goals (try (show _=_;simp only[wQ]))
   all_goals first|(rw[hz]<;>rfl)|exact absurd (E3.symm.trans (by assumption)) (by decide)
  by_cases hn2:w0=[116,105,99,107]
  focus
   subst hn2
   have hfit:fitA ⟨2,0,An,0,([w1]:List (List UInt8)).map rpV,false⟩:=J4 lY
   have hrd:∀ a,Ah a=true→fitA a→Cc a=x.1→(⟨2,0,An,0,([w1]:List (List UInt8)).map rpV,false⟩:Act)=a:=fun a hm hf hw=>by
    have h3:=(Adx d0 hm hf hw).2
    unfold B2 at h3
    rw[hc] at h3;exact h3
   refine⟨((x.1,32,[[116,105,99,107],w1]):List UInt8 × UInt8 × List (List UInt8)),⟨Nat.le_trans hs (by decide),hW0⟩,?_,?_⟩
   ·exact Ac _
   (conv=>whnf)
   (repeat' ((first
    |((with_reducible refine aI ?_ ?_);focus (first|with_reducible exact⟨⟩|omega|(simp only[List.length_append,bytesOf_length,List.toList_toArray,List.length_cons,List.length_nil,List.length_take,List.length_drop,Bb];omega)))
    |with_reducible refine lnI fun hln=>?_
    |fail)<;>(conv=>whnf)))
   refine⟨([w1]:List (List UInt8)),⟨by simp only[List.length_cons,List.length_nil];omega,hm1⟩,?_,?_⟩
   ·(conv=>whnf)
    (repeat' ((first|with_reducible exact⟨⟩|((with_reducible refine aI ?_ ?_);focus (exact tA))|with_reducible refine iA ?_ ?_|fail)<;>(conv=>whnf)))
    all_goals (try simp only[wQ])
    first|exact⟨fun h=>absurd h Bool.false_ne_true,fun e he=>by rw[show Int.toNat 1+e=e+1 by(show 1+e=e+1;omega)];rfl⟩|exact⟨by simp only[List.length_cons,List.length_nil];omega,fun h=>absurd h Bool.false_ne_true,fun e he=>by rw[show Int.toNat 1+e=e+1 by(show 1+e=e+1;omega)];rfl⟩
   (conv=>whnf)
  rotate_left
  by_cases hn3:w0=[102,117,115,101]
  focus
   subst hn3
   have hz:x.2=(D1,4):=hfail fun a hm hf hw=>by
    have h3:=(yM d0 hm hf hw).2.2
    rw[hc] at h3;simp only[List.length_cons,List.length_nil] at h3;omega
   refine⟨((x.1,32,[[102,117,115,101],w1]):List UInt8 × UInt8 × List (List UInt8)),⟨Nat.le_trans hs (by decide),hW0⟩,?_,?_⟩
   ·exact Ac _
   (conv=>whnf)
   (repeat' ((first
    |((with_reducible refine aI ?_ ?_);focus (first|with_reducible exact⟨⟩|(simp only[List.length_append,bytesOf_length,List.toList_toArray,List.length_cons,List.length_nil,List.length_take,List.length_drop,Bb];omega)))
    |with_reducible refine lnI fun hln=>?_
    |fail)<;>(conv=>whnf)))
   refine⟨(D1:Act),True.intro,?_,?_⟩
   ·exact tL
   (conv=>whnf)
   (repeat' ((first
    |with_reducible exact⟨⟩
    |((with_reducible refine aI ?_ ?_);focus (with_reducible rfl))
    |(split<;>rename_i hh<;>(try simp only[wS] at hh))
    |with_reducible refine iA ?_ ?_
    |fail)<;>(conv=>whnf)))
   all_goals (try (show _=_;simp only[wQ]))
   all_goals first|(rw[hz]<;>rfl)|exact absurd (E3.symm.trans (by assumption)) (by decide)
  by_cases hn4:w0=[99,114,97,115,104]
  focus
   subst hn4
   have hfit:fitA ⟨4,A9 w1,An,0,([]:List (List UInt8)).map rpV,false⟩:=J4 lY
   have hrd:∀ a,Ah a=true→fitA a→Cc a=x.1→(⟨4,A9 w1,An,0,([]:List (List UInt8)).map rpV,false⟩:Act)=a:=fun a hm hf hw=>by
    have h3:=(Ady d0 hm hf hw).2.1
    unfold B4 at h3
    rw[d1,hc] at h3;exact h3
   refine⟨((x.1,32,[[99,114,97,115,104],w1]):List UInt8 × UInt8 × List (List UInt8)),⟨Nat.le_trans hs (by decide),hW0⟩,?_,?_⟩
   ·exact Ac _
   (conv=>whnf)
   (repeat' ((first
    |((with_reducible refine aI ?_ ?_);focus (first|with_reducible exact⟨⟩|omega|(simp only[List.length_append,bytesOf_length,List.toList_toArray,List.length_cons,List.length_nil,List.length_take,List.length_drop,Bb];omega)))
    |with_reducible refine lnI fun hln=>?_
    |fail)<;>(conv=>whnf)))
   refine⟨([]:List (List UInt8)),⟨by simp only[List.length_cons,List.length_nil];omega,hm2⟩,?_,?_⟩
   ·(conv=>whnf)
    (repeat' ((first|with_reducible exact⟨⟩|((with_reducible refine aI ?_ ?_);focus (exact tA))|with_reducible refine iA ?_ ?_|fail)<;>(conv=>whnf)))
    all_goals (try simp only[wQ])
    first|exact⟨fun h=>absurd h Bool.false_ne_true,fun e he=>by rw[show Int.toNat 2+e=e+2 by(show 2+e=e+2;omega)];rfl⟩|exact⟨by simp only[List.length_cons,List.length_nil];omega,fun h=>absurd h Bool.false_ne_true,fun e he=>by rw[show Int.toNat 2+e=e+2 by(show 2+e=e+2;omega)];rfl⟩
   (conv=>whnf)
  rotate_left
  by_cases hn5:w0=[99,97,108,109]
  focus
   subst hn5
   have hfit:fitA ⟨5,0,An,0,[],(x.1 == [99,97,108,109,32,121,101,115])⟩:=Gz
   have hrd:∀ a,Ah a=true→fitA a→Cc a=x.1→(⟨5,0,An,0,[],(x.1 == [99,97,108,109,32,121,101,115])⟩:Act)=a:=fun a hm hf hw=>by
    have h3:=(Adz d0 hm hf hw).2
    unfold B5 at h3
    rw[Ut];exact h3
   refine⟨((x.1,32,[[99,97,108,109],w1]):List UInt8 × UInt8 × List (List UInt8)),⟨Nat.le_trans hs (by decide),hW0⟩,?_,?_⟩
   ·exact Ac _
   (conv=>whnf)
   (repeat' ((first
    |((with_reducible refine aI ?_ ?_);focus (first|with_reducible exact⟨⟩|(simp only[List.length_append,bytesOf_length,List.toList_toArray,List.length_cons,List.length_nil,List.length_take,List.length_drop,Bb];omega)))
    |with_reducible refine lnI fun hln=>?_
    |fail)<;>(conv=>whnf)))
  rotate_left
  have hz:x.2=(D1,4):=hq.symm.trans (wB (by rw[d0];exact hn1) (by rw[d0];exact hn2) (by rw[d0];exact hn3) (by rw[d0];exact hn4) (by rw[d0];exact hn5))
  focus
   have hn1: ¬(([w0,w1]:List (List UInt8)).getD (Int.toNat 0) [])=[100,111]:=hn1
   have hn2: ¬(([w0,w1]:List (List UInt8)).getD (Int.toNat 0) [])=[116,105,99,107]:=hn2
   have hn3: ¬(([w0,w1]:List (List UInt8)).getD (Int.toNat 0) [])=[102,117,115,101]:=hn3
   have hn4: ¬(([w0,w1]:List (List UInt8)).getD (Int.toNat 0) [])=[99,114,97,115,104]:=hn4
   have hn5: ¬(([w0,w1]:List (List UInt8)).getD (Int.toNat 0) [])=[99,97,108,109]:=hn5
   refine⟨((x.1,32,[w0,w1]):List UInt8 × UInt8 × List (List UInt8)),⟨Nat.le_trans hs (by decide),hW0⟩,?_,?_⟩
   ·exact Ac _
   (conv=>whnf)
   (repeat' ((first
    |(exact absurd (by with_reducible assumption) hn1)
    |(exact absurd (by with_reducible assumption) hn2)
    |(exact absurd (by with_reducible assumption) hn3)
    |(exact absurd (by with_reducible assumption) hn4)
    |(exact absurd (by with_reducible assumption) hn5)
    |((with_reducible refine aI ?_ ?_);focus (first|with_reducible exact⟨⟩|(simp only[List.length_append,bytesOf_length,List.toList_toArray,List.length_cons,List.length_nil,List.length_take,List.length_drop,Bb];omega)))
    |(split<;>rename_i hh<;>(try simp only[wS] at hh))
    |with_reducible refine lnI fun hln=>?_
    |fail)<;>(conv=>whnf)))
   refine⟨(D1:Act),True.intro,?_,?_⟩
   ·exact tL
   (conv=>whnf)
   (repeat' ((first
    |with_reducible exact⟨⟩
    |((with_reducible refine aI ?_ ?_);focus (with_reducible rfl))
    |(split<;>rename_i hh<;>(try simp only[wS] at hh))
    |with_reducible refine iA ?_ ?_
    |fail)<;>(conv=>whnf)))
   all_goals (try (show _=_;simp only[wQ]))
   all_goals first|(rw[hz]<;>rfl)|exact absurd (E3.symm.trans (by assumption)) (by decide)
 rotate_left 3
 focus
  have hc:Aa 32 x.1=(w0::w1::w2::ws):=hsL.symm.trans hW0
  have d0:(Aa 32 x.1).getD 0 []=w0:=by rw[hc];rfl
  have d1:(Aa 32 x.1).getD 1 []=w1:=by rw[hc];rfl
  have d2:(Aa 32 x.1).getD 2 []=w2:=by rw[hc];rfl
  have hm1:∀ i,(((w1::w2::ws):List (List UInt8)).getD i []).length≤100000000:=fun i=>by have:=hmem (i+1);rw[hW0] at this;exact Nat.le_trans this (by decide)
  have hm2:∀ i,(((w2::ws):List (List UInt8)).getD i []).length≤100000000:=fun i=>by have:=hmem (i+2);rw[hW0] at this;exact Nat.le_trans this (by decide)
  have hlw:(w0::w1::w2::ws).length≤1000001:=by rw[←hW0];exact hlenW
  simp only[List.length_cons,List.length_nil] at hlw
  by_cases hn1:w0=[100,111]
  focus
   subst hn1
   have hdr:=Avk hc
   have hl0:(([100,111]::w1::w2::ws).getD (Int.toNat 0) []).length=2:=rfl
   have hl1:(([100,111]::w1::w2::ws).getD (Int.toNat 1) []).length=w1.length:=rfl
   have hlx:2+w1.length+2≤x.1.length:=hdr.1
   have hcut:∀ n:Int,n=((2+w1.length+2:Nat):Int)→List.take (x.1.length - n.toNat) (List.drop n.toNat x.1)=doR x.1:=fun n hn=>by
    rw[hn,hdr.2,List.take_of_length_le (by rw[List.length_drop];exact Nat.le_refl _)];rfl
   rcases Tw (doR x.1) with hr|⟨r,hmr,hr⟩
   ·have hz:x.2=(D1,4):=hfail fun a hm hf hw=>by
     have h3:=(cI d0 hm hf hw).2.2.2.1
     rw[hr] at h3;cases h3
    refine⟨((x.1,32,([100,111]::w1::w2::ws)):List UInt8 × UInt8 × List (List UInt8)),⟨Nat.le_trans hs (by decide),hW0⟩,?_,?_⟩
    ·exact Ac _
    (conv=>whnf)
    (repeat' ((first
     |((with_reducible refine aI ?_ ?_);focus (first|with_reducible exact⟨⟩|omega|exact tK|(simp only[List.length_append,bytesOf_length,List.toList_toArray,List.length_cons,List.length_nil,List.length_take,List.length_drop,Bb];omega)))
     |with_reducible refine lnI fun hln=>?_
     |fail)<;>(conv=>whnf)))
    refine⟨((doR x.1,An,4):List UInt8 × Request × Int),⟨hr,Nat.le_trans hdl hs⟩,?_,?_⟩
    ·(conv=>whnf)
     (repeat' ((first|with_reducible exact⟨⟩|with_reducible refine iA ?_ ?_|fail)<;>(conv=>whnf)))
     all_goals (try simp only[wQ])
     exact hcut _ (by rw[hl0,hl1];omega)
    (conv=>whnf)
    (repeat' ((first
     |with_reducible exact⟨⟩
     |((with_reducible refine aI ?_ ?_);focus (first|exact tO|with_reducible rfl))
     |(split<;>rename_i hh<;>(try simp only[wS] at hh))
     |with_reducible refine iA ?_ ?_
     |fail)<;>(conv=>whnf)))
    all_goals (try (show _=_;simp only[wQ]))
    all_goals first|exact absurd (by assumption) (by decide: ¬(4:Int)=0)|(rw[hz]<;>rfl)
   have hfit:fitA ⟨1,A9 w1,r,0,[],false⟩:=Gz
   have hrd:∀ a,Ah a=true→fitA a→Cc a=x.1→(⟨1,A9 w1,r,0,[],false⟩:Act)=a:=fun a hm hf hw=>by
    have h3:=(cI d0 hm hf hw).2.1
    unfold B1 at h3
    rw[d1,hr] at h3;exact h3
   refine⟨((x.1,32,([100,111]::w1::w2::ws)):List UInt8 × UInt8 × List (List UInt8)),⟨Nat.le_trans hs (by decide),hW0⟩,?_,?_⟩
   ·exact Ac _
   (conv=>whnf)
   (repeat' ((first
    |((with_reducible refine aI ?_ ?_);focus (first|with_reducible exact⟨⟩|omega|exact tK|(simp only[List.length_append,bytesOf_length,List.toList_toArray,List.length_cons,List.length_nil,List.length_take,List.length_drop,Bb];omega)))
    |with_reducible refine lnI fun hln=>?_
    |fail)<;>(conv=>whnf)))
   refine⟨((doR x.1,r,0):List UInt8 × Request × Int),⟨hr,Nat.le_trans hdl hs⟩,?_,?_⟩
   ·(conv=>whnf)
    (repeat' ((first|with_reducible exact⟨⟩|with_reducible refine iA ?_ ?_|fail)<;>(conv=>whnf)))
    all_goals (try simp only[wQ])
    exact hcut _ (by rw[hl0,hl1];omega)
   (conv=>whnf)
   (repeat' ((first
    |with_reducible exact⟨⟩
    |((with_reducible refine aI ?_ ?_);focus (first|exact tO|with_reducible rfl))
    |(split<;>rename_i hh<;>(try simp only[wS] at hh))
    |with_reducible refine iA ?_ ?_
    |fail)<;>(conv=>whnf)))
   all_goals (try (show _=_;simp only[wQ]))
   all_goals try (exact absurd True.intro (by assumption))
  rotate_left
  by_cases hn2:w0=[116,105,99,107]
  focus
   subst hn2
   have hfit:fitA ⟨2,0,An,0,((w1::w2::ws):List (List UInt8)).map rpV,false⟩:=J4 lY
   have hrd:∀ a,Ah a=true→fitA a→Cc a=x.1→(⟨2,0,An,0,((w1::w2::ws):List (List UInt8)).map rpV,false⟩:Act)=a:=fun a hm hf hw=>by
    have h3:=(Adx d0 hm hf hw).2
    unfold B2 at h3
    rw[hc] at h3;exact h3
   refine⟨((x.1,32,([116,105,99,107]::w1::w2::ws)):List UInt8 × UInt8 × List (List UInt8)),⟨Nat.le_trans hs (by decide),hW0⟩,?_,?_⟩
   ·exact Ac _
   (conv=>whnf)
   (repeat' ((first
    |((with_reducible refine aI ?_ ?_);focus (first|with_reducible exact⟨⟩|omega|(simp only[List.length_append,bytesOf_length,List.toList_toArray,List.length_cons,List.length_nil,List.length_take,List.length_drop,Bb];omega)))
    |with_reducible refine lnI fun hln=>?_
    |fail)<;>(conv=>whnf)))
   refine⟨((w1::w2::ws):List (List UInt8)),⟨by simp only[List.length_cons,List.length_nil];omega,hm1⟩,?_,?_⟩
   ·(conv=>whnf)
    (repeat' ((first|with_reducible exact⟨⟩|((with_reducible refine aI ?_ ?_);focus (exact tA))|with_reducible refine iA ?_ ?_|fail)<;>(conv=>whnf)))
    all_goals (try simp only[wQ])
    first|exact⟨fun h=>absurd h Bool.false_ne_true,fun e he=>by rw[show Int.toNat 1+e=e+1 by(show 1+e=e+1;omega)];rfl⟩|exact⟨by simp only[List.length_cons,List.length_nil];omega,fun h=>absurd h Bool.false_ne_true,fun e he=>by rw[show Int.toNat 1+e=e+1 by(show 1+e=e+1;omega)];rfl⟩
   (conv=>whnf)
  rotate_left
  by_cases hn3:w0=[102,117,115,101]
  focus
   subst hn3
   rcases ws with _|⟨w3,ws⟩
   focus
    have hfit:fitA ⟨3,A9 w1,An,A9 w2,[],false⟩:=Gz
    have hrd:∀ a,Ah a=true→fitA a→Cc a=x.1→(⟨3,A9 w1,An,A9 w2,[],false⟩:Act)=a:=fun a hm hf hw=>by
     have h3:=(yM d0 hm hf hw).2.1
     unfold B3 at h3
     rw[d1,d2] at h3;exact h3
    refine⟨((x.1,32,[[102,117,115,101],w1,w2]):List UInt8 × UInt8 × List (List UInt8)),⟨Nat.le_trans hs (by decide),hW0⟩,?_,?_⟩
    ·exact Ac _
    (conv=>whnf)
    (repeat' ((first
     |((with_reducible refine aI ?_ ?_);focus (first|with_reducible exact⟨⟩|(simp only[List.length_append,bytesOf_length,List.toList_toArray,List.length_cons,List.length_nil,List.length_take,List.length_drop,Bb];omega)))
     |with_reducible refine lnI fun hln=>?_
     |fail)<;>(conv=>whnf)))
   rotate_left
   focus
    have hz:x.2=(D1,4):=hfail fun a hm hf hw=>by
     have h3:=(yM d0 hm hf hw).2.2
     rw[hc] at h3;simp only[List.length_cons] at h3;omega
    refine⟨((x.1,32,([102,117,115,101]::w1::w2::w3::ws)):List UInt8 × UInt8 × List (List UInt8)),⟨Nat.le_trans hs (by decide),hW0⟩,?_,?_⟩
    ·exact Ac _
    (conv=>whnf)
    (repeat' ((first
     |((with_reducible refine aI ?_ ?_);focus (first|with_reducible exact⟨⟩|(simp only[List.length_append,bytesOf_length,List.toList_toArray,List.length_cons,List.length_nil,List.length_take,List.length_drop,Bb];omega)))
     |with_reducible refine lnI fun hln=>?_
     |fail)<;>(conv=>whnf)))
    refine⟨(D1:Act),True.intro,?_,?_⟩
    ·exact tL
    (conv=>whnf)
    (repeat' ((first
     |with_reducible exact⟨⟩
     |((with_reducible refine aI ?_ ?_);focus (with_reducible rfl))
     |(split<;>rename_i hh<;>(try simp only[wS] at hh))
     |with_reducible refine iA ?_ ?_
     |fail)<;>(conv=>whnf)))
    all_goals (try (show _=_;simp only[wQ]))
    all_goals first|(rw[hz]<;>rfl)|exact absurd (E3.symm.trans (by assumption)) (by decide)
  rotate_left
  by_cases hn4:w0=[99,114,97,115,104]
  focus
   subst hn4
   have hfit:fitA ⟨4,A9 w1,An,0,((w2::ws):List (List UInt8)).map rpV,false⟩:=J4 lY
   have hrd:∀ a,Ah a=true→fitA a→Cc a=x.1→(⟨4,A9 w1,An,0,((w2::ws):List (List UInt8)).map rpV,false⟩:Act)=a:=fun a hm hf hw=>by
    have h3:=(Ady d0 hm hf hw).2.1
    unfold B4 at h3
    rw[d1,hc] at h3;exact h3
   refine⟨((x.1,32,([99,114,97,115,104]::w1::w2::ws)):List UInt8 × UInt8 × List (List UInt8)),⟨Nat.le_trans hs (by decide),hW0⟩,?_,?_⟩
   ·exact Ac _
   (conv=>whnf)
   (repeat' ((first
    |((with_reducible refine aI ?_ ?_);focus (first|with_reducible exact⟨⟩|omega|(simp only[List.length_append,bytesOf_length,List.toList_toArray,List.length_cons,List.length_nil,List.length_take,List.length_drop,Bb];omega)))
    |with_reducible refine lnI fun hln=>?_
    |fail)<;>(conv=>whnf)))
   refine⟨((w2::ws):List (List UInt8)),⟨by simp only[List.length_cons,List.length_nil];omega,hm2⟩,?_,?_⟩
   ·(conv=>whnf)
    (repeat' ((first|with_reducible exact⟨⟩|((with_reducible refine aI ?_ ?_);focus (exact tA))|with_reducible refine iA ?_ ?_|fail)<;>(conv=>whnf)))
    all_goals (try simp only[wQ])
    first|exact⟨fun h=>absurd h Bool.false_ne_true,fun e he=>by rw[show Int.toNat 2+e=e+2 by(show 2+e=e+2;omega)];rfl⟩|exact⟨by simp only[List.length_cons,List.length_nil];omega,fun h=>absurd h Bool.false_ne_true,fun e he=>by rw[show Int.toNat 2+e=e+2 by(show 2+e=e+2;omega)];rfl⟩
   (conv=>whnf)
  rotate_left
  by_cases hn5:w0=[99,97,108,109]
  focus
   subst hn5
   have hfit:fitA ⟨5,0,An,0,[],(x.1 == [99,97,108,109,32,121,101,115])⟩:=Gz
   have hrd:∀ a,Ah a=true→fitA a→Cc a=x.1→(⟨5,0,An,0,[],(x.1 == [99,97,108,109,32,121,101,115])⟩:Act)=a:=fun a hm hf hw=>by
    have h3:=(Adz d0 hm hf hw).2
    unfold B5 at h3
    rw[Ut];exact h3
   refine⟨((x.1,32,([99,97,108,109]::w1::w2::ws)):List UInt8 × UInt8 × List (List UInt8)),⟨Nat.le_trans hs (by decide),hW0⟩,?_,?_⟩
   ·exact Ac _
   (conv=>whnf)
   (repeat' ((first
    |((with_reducible refine aI ?_ ?_);focus (first|with_reducible exact⟨⟩|(simp only[List.length_append,bytesOf_length,List.toList_toArray,List.length_cons,List.length_nil,List.length_take,List.length_drop,Bb];omega)))
    |with_reducible refine lnI fun hln=>?_
    |fail)<;>(conv=>whnf)))
  rotate_left
  have hz:x.2=(D1,4):=hq.symm.trans (wB (by rw[d0];exact hn1) (by rw[d0];exact hn2) (by rw[d0];exact hn3) (by rw[d0];exact hn4) (by rw[d0];exact hn5))
  focus
   have hn1: ¬(((w0::w1::w2::ws):List (List UInt8)).getD (Int.toNat 0) [])=[100,111]:=hn1
   have hn2: ¬(((w0::w1::w2::ws):List (List UInt8)).getD (Int.toNat 0) [])=[116,105,99,107]:=hn2
   have hn3: ¬(((w0::w1::w2::ws):List (List UInt8)).getD (Int.toNat 0) [])=[102,117,115,101]:=hn3
   have hn4: ¬(((w0::w1::w2::ws):List (List UInt8)).getD (Int.toNat 0) [])=[99,114,97,115,104]:=hn4
   have hn5: ¬(((w0::w1::w2::ws):List (List UInt8)).getD (Int.toNat 0) [])=[99,97,108,109]:=hn5
   refine⟨((x.1,32,(w0::w1::w2::ws)):List UInt8 × UInt8 × List (List UInt8)),⟨Nat.le_trans hs (by decide),hW0⟩,?_,?_⟩
   ·exact Ac _
   (conv=>whnf)
   (repeat' ((first
    |(exact absurd (by with_reducible assumption) hn1)
    |(exact absurd (by with_reducible assumption) hn2)
    |(exact absurd (by with_reducible assumption) hn3)
    |(exact absurd (by with_reducible assumption) hn4)
    |(exact absurd (by with_reducible assumption) hn5)
    |((with_reducible refine aI ?_ ?_);focus (first|with_reducible exact⟨⟩|(simp only[List.length_append,bytesOf_length,List.toList_toArray,List.length_cons,List.length_nil,List.length_take,List.length_drop,Bb];omega)))
    |(split<;>rename_i hh<;>(try simp only[wS] at hh))
    |with_reducible refine lnI fun hln=>?_
    |fail)<;>(conv=>whnf)))
   refine⟨(D1:Act),True.intro,?_,?_⟩
   ·exact tL
   (conv=>whnf)
   (repeat' ((first
    |with_reducible exact⟨⟩
    |((with_reducible refine aI ?_ ?_);focus (with_reducible rfl))
    |(split<;>rename_i hh<;>(try simp only[wS] at hh))
    |with_reducible refine iA ?_ ?_
    |fail)<;>(conv=>whnf)))
   all_goals (try (show _=_;simp only[wQ]))
   all_goals first|(rw[hz]<;>rfl)|exact absurd (E3.symm.trans (by assumption)) (by decide)
 rotate_left 5
 all_goals (
  refine⟨Apv hrd,True.intro,?_,?_⟩
  ·exact tL
  (conv=>whnf)
  (repeat' ((first
   |with_reducible exact⟨⟩
   |((with_reducible refine aI ?_ ?_);focus (with_reducible rfl))
   |(split<;>rename_i hh<;>(try simp only[wS] at hh))
   |with_reducible refine iA ?_ ?_
   |fail)<;>(conv=>whnf)))
  all_goals (try (show _=_;simp only[wQ]))
  all_goals try (rw[At1 hfail hrd hh]<;>rfl)
  refine⟨Apv hrd,by assumption,?_,?_⟩
  ·exact tL
  (conv=>whnf)
  (repeat' ((first
   |with_reducible exact⟨⟩
   |((with_reducible refine aI ?_ ?_);focus (with_reducible rfl))
   |(split<;>rename_i hh<;>(try simp only[wS] at hh))
   |with_reducible refine iA ?_ ?_
   |fail)<;>(conv=>whnf)))
  all_goals (try (show _=_;simp only[wQ]))
  all_goals try (rw[At2 hfail hrd hh]<;>rfl)
  all_goals (
   rw[hq.symm.trans (lW (by assumption) hfit (by assumption) hrd)]
   all_goals first|rfl|exact⟨rfl,fun h=>h,fun _ _=>rfl⟩))
end
end Go.Vc.Z
