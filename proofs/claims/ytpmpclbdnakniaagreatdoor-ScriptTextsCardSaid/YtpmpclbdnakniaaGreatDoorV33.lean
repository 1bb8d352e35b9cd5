/- script.RequestOf: the request of a line, kind 1. -/
import Derived.Test.YtpmpclbdnakniaaGreatDoorV32
set_option linter.all false
set_option maxHeartbeats 8000000
namespace Go.Vc.Z
open Go Go.Vc Go.Proofs Go.RowKit Go.Pl Go.Lib
noncomputable section
set_option maxRecDepth 100000
attribute [local irreducible] inK Utf8.decode Utf8.encode Lib.itoa Pl.worth Pl.allDig
attribute [local irreducible] Lib.join Bp Aa
def Ar9:PC:=PC.of (fun x:List UInt8 × Request × Int=>[.str x.1]) (fun x=>Ve x.1=x.2∧x.1.length≤1000000∧kindOf ((Aa 32 x.1).getD 0 [])=1) (fun x=>.tup [.agg x.2.1.enc,.int .i64 x.2.2])
def Asa:List UInt8 × Request × Int→Nat→Option LR:=fun x i=>cond (Nat.beq i 8) (some (.unroll 7)) (none)
theorem Asb{W:World}(hW:Tabs W):GoodP (Fw W) Tryz.prog 26 Ar9:=by
 have hD:=C8 hW;have hC0:∀ x:List UInt8 × Request × Int,Ad (Fw W) Tryz.prog I4:=fun x=>(Yv hW);refine As (D:=Bo) (C:=fun x=>I4) (wr:=(fun _=>false)) rfl Ao hD hC0 Tryz.func26 (Asa) (fun _=>rfl) ?_;intro x hf hp;clear hf;obtain⟨hq,hs,hk2⟩:=hp;have hcut:=Gw 32 x.1;have hlen1:=Di 32 x.1;have hsL:=Ck (Aa 32 x.1);have hl1:1≤(sL (Aa 32 x.1)).length:=by rw[hsL];exact hlen1
 have hmem:∀ i,((sL (Aa 32 x.1)).getD i []).length≤1000000:=fun i=>by
  rw[hsL,List.getD_eq_getElem?_getD];cases h:(Aa 32 x.1)[i]? with
  |none=>simp
  |some w=>have:=(Ri x.1 w (List.mem_of_getElem? h)).1;simp;omega
 have hfail:(∀ r,Af r=true→Be r=x.1→False)→x.2=(An,4):=fun h=>by rw[←hq];exact aP h
 have hk:kindOf ((sL (Aa 32 x.1)).getD (Int.toNat 0) [])=1:=by rw[hsL];exact hk2
 have hk2:kindOf ((Aa 32 x.1).getD 0 [])=1:=by rw[hsL] at hk;exact hk
 have hm44:∀ p i,((sL (Aa 44 ((sL (Aa 32 x.1)).getD p []))).getD i []).length≤100000000:=fun p i=>Fo (Nat.le_trans (hmem p) (by decide)) i
 have hpos:∀ p,¬(((sL (Aa 44 ((sL (Aa 32 x.1)).getD p []))).length:Int)≤(([]:List Coupon).length:Int)):=fun p h=>by have:=Di 44 ((sL (Aa 32 x.1)).getD p []);rw[←Ck (Aa 44 _)] at this;have h:(_:Int)≤0:=h;omega
 have hpot:∀ p,¬(((sL (Aa 44 ((sL (Aa 32 x.1)).getD p []))).length:Int)≤(([]:List Tax).length:Int)):=fun p h=>by have:=Di 44 ((sL (Aa 32 x.1)).getD p []);rw[←Ck (Aa 44 _)] at this;have h:(_:Int)≤0:=h;omega
 have hb44:∀ p,(sL (Aa 44 ((sL (Aa 32 x.1)).getD p []))).length≤1000001:=fun p=>by rw[Ck];exact Nat.le_trans (Gw _ _) (Nat.succ_le_succ (hmem p))
 obtain⟨r0,w0⟩:=Ax (l:=[75,68,76,67,88]) 0 (by decide) (by decide)
 obtain⟨r1,w1⟩:=Ax (l:=[75,68,76,67,88]) 1 (by decide) (by decide)
 obtain⟨r2,w2⟩:=Ax (l:=[75,68,76,67,88]) 2 (by decide) (by decide)
 obtain⟨r3,w3⟩:=Ax (l:=[75,68,76,67,88]) 3 (by decide) (by decide)
 obtain⟨r4,w4⟩:=Ax (l:=[75,68,76,67,88]) 4 (by decide) (by decide)
 have r5:=True.intro;have w5:=True.intro;have v0:Ai (⟨#[75,68,76,67,88]⟩:ByteArray).data.toList 0=1:=w0;have v1:Ai (⟨#[75,68,76,67,88]⟩:ByteArray).data.toList (0+Ai (⟨#[75,68,76,67,88]⟩:ByteArray).data.toList 0)=1:=by rw[v0];exact w1
 have v2:Ai (⟨#[75,68,76,67,88]⟩:ByteArray).data.toList ((0+Ai (⟨#[75,68,76,67,88]⟩:ByteArray).data.toList 0)+Ai (⟨#[75,68,76,67,88]⟩:ByteArray).data.toList (0+Ai (⟨#[75,68,76,67,88]⟩:ByteArray).data.toList 0))=1:=by rw[v1,v0];exact w2
 have v3:Ai (⟨#[75,68,76,67,88]⟩:ByteArray).data.toList (((0+Ai (⟨#[75,68,76,67,88]⟩:ByteArray).data.toList 0)+Ai (⟨#[75,68,76,67,88]⟩:ByteArray).data.toList (0+Ai (⟨#[75,68,76,67,88]⟩:ByteArray).data.toList 0))+Ai (⟨#[75,68,76,67,88]⟩:ByteArray).data.toList ((0+Ai (⟨#[75,68,76,67,88]⟩:ByteArray).data.toList 0)+Ai (⟨#[75,68,76,67,88]⟩:ByteArray).data.toList (0+Ai (⟨#[75,68,76,67,88]⟩:ByteArray).data.toList 0)))=1:=by rw[v2,v1,v0];exact w3
 have v4:Ai (⟨#[75,68,76,67,88]⟩:ByteArray).data.toList ((((0+Ai (⟨#[75,68,76,67,88]⟩:ByteArray).data.toList 0)+Ai (⟨#[75,68,76,67,88]⟩:ByteArray).data.toList (0+Ai (⟨#[75,68,76,67,88]⟩:ByteArray).data.toList 0))+Ai (⟨#[75,68,76,67,88]⟩:ByteArray).data.toList ((0+Ai (⟨#[75,68,76,67,88]⟩:ByteArray).data.toList 0)+Ai (⟨#[75,68,76,67,88]⟩:ByteArray).data.toList (0+Ai (⟨#[75,68,76,67,88]⟩:ByteArray).data.toList 0)))+Ai (⟨#[75,68,76,67,88]⟩:ByteArray).data.toList (((0+Ai (⟨#[75,68,76,67,88]⟩:ByteArray).data.toList 0)+Ai (⟨#[75,68,76,67,88]⟩:ByteArray).data.toList (0+Ai (⟨#[75,68,76,67,88]⟩:ByteArray).data.toList 0))+Ai (⟨#[75,68,76,67,88]⟩:ByteArray).data.toList ((0+Ai (⟨#[75,68,76,67,88]⟩:ByteArray).data.toList 0)+Ai (⟨#[75,68,76,67,88]⟩:ByteArray).data.toList (0+Ai (⟨#[75,68,76,67,88]⟩:ByteArray).data.toList 0))))=1:=by rw[v3,v2,v1,v0];exact w4
 have hrow:(([75,68,76,67,88]:List UInt8).length:Int)=5:=rfl
 (conv=>whnf)
 (repeat' (first|refine⟨tU,?_⟩)<;>conv=>whnf)
 refine⟨(((sL (Aa 32 x.1)).getD (Int.toNat 0) [],(1:Int)):List UInt8 × Int),hk,?_,?_⟩
 ·exact Ac _
 (conv=>whnf)
 (repeat' (first|with_reducible exact⟨⟩|(with_reducible refine Ap ?_)|((with_reducible refine aI ?_ ?_);focus (exact Nat.le_trans (hmem _) ((nB rfl))))|refine⟨tU,?_⟩|(conv=>arg 2;(first|change eqI (Bg _ _) _|change decide (_+Ai _ _<_)|change ! (sB _));simp only[List.toList_toArray,Bt,r0,r1,r2,r3,r4,r5,w0,w1,w2,w3,w4,w5,Nat.zero_add,Nat.reduceAdd,List.length_cons,List.length_nil])|split<;>rename_i hh<;>try simp only[wS] at hh|with_reducible refine lnI fun hln=>?_|with_reducible refine iA ?_ ?_)<;>conv=>whnf)
 all_goals try (
  have hz:x.2=(An,4):=by
   refine hfail fun r hm hw=>?_;have hc:=hJ hm hw hk2;try simp only[List.toList_toArray,w0,w1,w2,w3,w4,w5,Nat.zero_add,Nat.reduceAdd] at hh
   rw[hsL,hc.1] at hh;first|exact hh rfl|(cases hh.symm.trans (congrArg Prod.snd hc.2.2.1))
  rw[hz]<;>rfl)
 refine⟨?_,fun(L:List Coupon) hL=>?_⟩
 ·(conv=>whnf)
  refine⟨([]:List Coupon),[],?_,⟨⟨rfl,(nB rfl),rfl⟩,?_,?_⟩⟩
  ·exact⟨Nat.zero_le _,rfl,fun w hw=>by cases hw⟩
  ·exact tL
  ·exact tL
 ·obtain⟨q1,q2,q3⟩:=hL;try simp only[List.toList_toArray,w0,w1,w2,w3,w4,w5,Nat.zero_add,Nat.reduceAdd] at q1 q2 q3
  change L.length≤(sL (Aa 44 ((sL (Aa 32 x.1)).getD 4 []))).length at q1;change L=((sL (Aa 44 ((sL (Aa 32 x.1)).getD 4 []))).take L.length).map (fun w=>(Ef w).1) at q2;change ∀ w ∈ (sL (Aa 44 ((sL (Aa 32 x.1)).getD 4 []))).take L.length,(Ef w).2=true at q3;rcases L with _|⟨c,L⟩
  ·(conv=>whnf)
   (repeat' (first|with_reducible exact⟨⟩|((with_reducible refine aI ?_ ?_);focus (exact hm44 _ _))|(exact absurd (by with_reducible assumption) (hpos _))|with_reducible refine iQ ?_ ?_|refine⟨tU,?_⟩|(conv=>arg 2;change ! (sB _);simp only[List.toList_toArray,Bt,r0,r1,r2,r3,r4,r5,w0,w1,w2,w3,w4,w5,Nat.zero_add,Nat.reduceAdd,List.length_cons,List.length_nil])|split<;>rename_i hh<;>try simp only[wS] at hh|with_reducible refine iA ?_ ?_)<;>conv=>whnf)
   all_goals try (
    have hz:x.2=(An,4):=by
     have hi:=‹((([]:List Coupon).length:Nat):Int)<_›;refine hfail fun r hm hw=>?_;have hc:=hJ hm hw hk2;try simp only[List.toList_toArray,w0,w1,w2,w3,w4,w5,Nat.zero_add,Nat.reduceAdd] at hh
     try simp only[List.toList_toArray,w0,w1,w2,w3,w4,w5,Nat.zero_add,Nat.reduceAdd] at hi
     have hi2:([]:List Coupon).length<(sL (Aa 44 ((sL (Aa 32 x.1)).getD 4 []))).length:=Int.ofNat_lt.1 hi;exact absurd (hh.symm.trans (Ik (f:=Ef) hi2 (l:=r.coupons) (by rw[Ck,hsL,hc.1];exact hc.2.2.2.1.1) hc.2.2.2.1.2)) (by decide)
    rw[hz]<;>rfl)
   ·have hi:=‹((([]:List Coupon).length:Nat):Int)<_›;try simp only[List.toList_toArray,w0,w1,w2,w3,w4,w5,Nat.zero_add,Nat.reduceAdd] at hi
    have hi2:([]:List Coupon).length<(sL (Aa 44 ((sL (Aa 32 x.1)).getD 4 []))).length:=Int.ofNat_lt.1 hi;try simp only[List.toList_toArray,w0,w1,w2,w3,w4,w5,Nat.zero_add,Nat.reduceAdd] at hh
    have hh2:(Ef ((sL (Aa 44 ((sL (Aa 32 x.1)).getD 4 []))).getD ([]:List Coupon).length [])).2=true:=hh;have g1:=Cj q2 hi2;have g2:=L6 (p:=fun w=>(Ef w).2) q3 hi2 hh2
    (conv=>whnf)
    refine⟨((([]:List Coupon)++[(Ef ((sL (Aa 44 ((sL (Aa 32 x.1)).getD 4 []))).getD ([]:List Coupon).length [])).1]):List Coupon),[55],?_,⟨⟨rfl,(nB rfl),rfl⟩,?_,?_⟩⟩
    ·refine⟨⟨?_,?_,?_⟩,?_⟩<;>(try simp only[List.toList_toArray,w0,w1,w2,w3,w4,w5,Nat.zero_add,Nat.reduceAdd])
     ·show(([]:List Coupon)++[(Ef ((sL (Aa 44 ((sL (Aa 32 x.1)).getD 4 []))).getD ([]:List Coupon).length [])).1]).length≤(sL (Aa 44 ((sL (Aa 32 x.1)).getD 4 []))).length;rw[List.length_append];exact hi2
     ·exact g1
     ·show ∀ w ∈ (sL (Aa 44 ((sL (Aa 32 x.1)).getD 4 []))).take (([]:List Coupon)++[(Ef ((sL (Aa 44 ((sL (Aa 32 x.1)).getD 4 []))).getD ([]:List Coupon).length [])).1]).length,(Ef w).2=true;rw[List.length_append];exact g2
     ·show(sL (Aa 44 _)).length - (_:List Coupon).length<(sL (Aa 44 _)).length - (_:List Coupon).length;try simp only[List.toList_toArray,w0,w1,w2,w3,w4,w5,Nat.zero_add,Nat.reduceAdd]
      show(sL (Aa 44 ((sL (Aa 32 x.1)).getD 4 []))).length - (([]:List Coupon)++[(Ef ((sL (Aa 44 ((sL (Aa 32 x.1)).getD 4 []))).getD ([]:List Coupon).length [])).1]).length<(sL (Aa 44 ((sL (Aa 32 x.1)).getD 4 []))).length - ([]:List Coupon).length;rw[List.length_append,List.length_singleton];omega
    ·(conv=>whnf)
     (repeat' (first|with_reducible exact⟨⟩|refine⟨tA,?_⟩|with_reducible refine iA ?_ ?_)<;>conv=>whnf)
     all_goals try simp only[wQ]
     all_goals (try first|rfl|exact⟨fun h=>h,fun _ _=>True.intro⟩)
     all_goals simp
    ·(conv=>whnf)
     (repeat' (first|with_reducible exact⟨⟩|((with_reducible refine Or.inr ?_);rfl)|refine⟨tA,?_⟩|with_reducible refine iA ?_ ?_|with_reducible refine iL ?_ ?_|with_reducible refine iB ?_ ?_)<;>conv=>whnf)
     all_goals try simp only[wQ]
     all_goals (try first|rfl)
     all_goals try rfl
     all_goals try exact⟨rfl,True.intro,True.intro,by simp,Or.inl True.intro⟩
     intro e he;have he:e<1:=he;obtain rfl:e=0:=by omega
     refine⟨?_,rfl⟩;try simp only[List.toList_toArray,w0,w1,w2,w3,w4,w5,Nat.zero_add,Nat.reduceAdd]
     rfl
  ·have q0:L.length+1≤1000001:=Nat.le_trans q1 (hb44 _)
   (conv=>whnf)
   (repeat' (first|with_reducible exact⟨⟩|(with_reducible refine Ap ?_)|((with_reducible refine aI ?_ ?_);focus (exact Nat.le_trans (hmem _) ((nB rfl))))|((with_reducible refine aI ?_ ?_);focus (exact hm44 _ _))|with_reducible refine iQ ?_ ?_|refine⟨tU,?_⟩|(conv=>arg 2;(first|change eqI (Bg _ _) _|change decide (_+Ai _ _<_)|change ! (sB _));simp only[List.toList_toArray,Bt,r0,r1,r2,r3,r4,r5,w0,w1,w2,w3,w4,w5,Nat.zero_add,Nat.reduceAdd,List.length_cons,List.length_nil])|split<;>rename_i hh<;>try simp only[wS] at hh|with_reducible refine lnI fun hln=>?_|with_reducible refine iA ?_ ?_)<;>conv=>whnf)
   all_goals try (
    have hz:x.2=(An,4):=by
     have hi:=‹(((c::L:List Coupon).length:Nat):Int)<_›;refine hfail fun r hm hw=>?_;have hc:=hJ hm hw hk2;try simp only[List.toList_toArray,w0,w1,w2,w3,w4,w5,Nat.zero_add,Nat.reduceAdd] at hh
     try simp only[List.toList_toArray,w0,w1,w2,w3,w4,w5,Nat.zero_add,Nat.reduceAdd] at hi
     have hi2:(c::L:List Coupon).length<(sL (Aa 44 ((sL (Aa 32 x.1)).getD 4 []))).length:=Int.ofNat_lt.1 hi;exact absurd (hh.symm.trans (Ik (f:=Ef) hi2 (l:=r.coupons) (by rw[Ck,hsL,hc.1];exact hc.2.2.2.1.1) hc.2.2.2.1.2)) (by decide)
    rw[hz]<;>rfl)
   ·have hi:=‹(((c::L:List Coupon).length:Nat):Int)<_›;try simp only[List.toList_toArray,w0,w1,w2,w3,w4,w5,Nat.zero_add,Nat.reduceAdd] at hi
    have hi2:(c::L:List Coupon).length<(sL (Aa 44 ((sL (Aa 32 x.1)).getD 4 []))).length:=Int.ofNat_lt.1 hi;try simp only[List.toList_toArray,w0,w1,w2,w3,w4,w5,Nat.zero_add,Nat.reduceAdd] at hh
    have hh2:(Ef ((sL (Aa 44 ((sL (Aa 32 x.1)).getD 4 []))).getD (c::L:List Coupon).length [])).2=true:=hh;have g1:=Cj q2 hi2;have g2:=L6 (p:=fun w=>(Ef w).2) q3 hi2 hh2
    (conv=>whnf)
    refine⟨(((c::L:List Coupon)++[(Ef ((sL (Aa 44 ((sL (Aa 32 x.1)).getD 4 []))).getD (c::L:List Coupon).length [])).1]):List Coupon),[55],?_,⟨⟨rfl,(nB rfl),rfl⟩,?_,?_⟩⟩
    ·refine⟨⟨?_,?_,?_⟩,?_⟩<;>(try simp only[List.toList_toArray,w0,w1,w2,w3,w4,w5,Nat.zero_add,Nat.reduceAdd])
     ·show((c::L:List Coupon)++[(Ef ((sL (Aa 44 ((sL (Aa 32 x.1)).getD 4 []))).getD (c::L:List Coupon).length [])).1]).length≤(sL (Aa 44 ((sL (Aa 32 x.1)).getD 4 []))).length;rw[List.length_append];exact hi2
     ·exact g1
     ·show ∀ w ∈ (sL (Aa 44 ((sL (Aa 32 x.1)).getD 4 []))).take ((c::L:List Coupon)++[(Ef ((sL (Aa 44 ((sL (Aa 32 x.1)).getD 4 []))).getD (c::L:List Coupon).length [])).1]).length,(Ef w).2=true;rw[List.length_append];exact g2
     ·show(sL (Aa 44 _)).length - (_:List Coupon).length<(sL (Aa 44 _)).length - (_:List Coupon).length;try simp only[List.toList_toArray,w0,w1,w2,w3,w4,w5,Nat.zero_add,Nat.reduceAdd]
      show(sL (Aa 44 ((sL (Aa 32 x.1)).getD 4 []))).length - ((c::L:List Coupon)++[(Ef ((sL (Aa 44 ((sL (Aa 32 x.1)).getD 4 []))).getD (c::L:List Coupon).length [])).1]).length<(sL (Aa 44 ((sL (Aa 32 x.1)).getD 4 []))).length - (c::L:List Coupon).length;rw[List.length_append,List.length_singleton];omega
    ·(conv=>whnf)
     (repeat' (first|with_reducible exact⟨⟩|refine⟨tA,?_⟩|with_reducible refine iA ?_ ?_)<;>conv=>whnf)
     all_goals try simp only[wQ]
     all_goals (try first|exact⟨fun h=>h,fun _ _=>True.intro⟩)
     all_goals simp
    ·(conv=>whnf)
     (repeat' (first|with_reducible exact⟨⟩|refine⟨tA,?_⟩|with_reducible refine iA ?_ ?_|with_reducible refine iL ?_ ?_|with_reducible refine iB ?_ ?_)<;>conv=>whnf)
     all_goals try simp only[wQ]
     all_goals (try first|rfl)
     all_goals (try first|exact⟨by simp,Or.inl trivial⟩)
     all_goals try rfl
     all_goals try exact⟨rfl,True.intro,True.intro,by simp,Or.inl True.intro⟩
     exact⟨by simp,fun e he=>⟨Ey (enc:=Coupon.enc) (l:=(c::L:List Coupon)) rfl (fun _ _=>rfl) (by try simp only[List.toList_toArray,w0,w1,w2,w3,w4,w5,Nat.zero_add,Nat.reduceAdd];rfl) (by simpa using he),rfl⟩⟩
   ·have hx:=‹(_:Int)≤(((c::L:List Coupon).length:Nat):Int)›;try simp only[List.toList_toArray,w0,w1,w2,w3,w4,w5,Nat.zero_add,Nat.reduceAdd] at hx
    have hx2: ¬(c::L).length<(sL (Aa 44 ((sL (Aa 32 x.1)).getD 4 []))).length:=Nat.not_lt.2 (Int.ofNat_le.1 hx);try simp only[List.toList_toArray,w0,w1,w2,w3,w4,w5,Nat.zero_add,Nat.reduceAdd] at hh
    have hdash:((sL (Aa 32 x.1)).getD 5 [])=[45]:=hh;have hrd:∀ r,Af r=true→Be r=x.1→(⟨((sL (Aa 32 x.1)).getD 1 []),1,(Aj ((sL (Aa 32 x.1)).getD 2 [])).1,0,0,0,((sL (Aa 32 x.1)).getD 3 []),c::L,[],0,0,0⟩:Request)=r:=fun r hm hw=>by
     have hc:=hJ hm hw hk2;have eL:c::L=r.coupons:=Nr q2 q1 hx2 (by rw[Ck,hsL,hc.1];exact hc.2.2.2.1.1) hc.2.2.2.1.2
     have eX:[]=r.taxes:=by
      rcases hc.2.2.2.2.1 with ⟨a,_⟩|⟨a,_⟩
      ·exact a.symm
      ·exact absurd (by have h:=hdash;rw[hsL,hc.1] at h;exact h) a
     refine Eq.trans ?_ hc.2.1.symm;rw[←eL,←eX] at hc ⊢;rw[hsL,hc.1];simp only[List.getD_cons_zero,List.getD_cons_succ,hc.2.2.1]
    refine⟨⟨by omega,fun e he=>rfl⟩,?_⟩
    refine⟨(⟨((sL (Aa 32 x.1)).getD 1 []),1,(Aj ((sL (Aa 32 x.1)).getD 2 [])).1,0,0,0,((sL (Aa 32 x.1)).getD 3 []),c::L,[],0,0,0⟩:Request),⟨Nat.le_trans q0 (by decide),Nat.zero_le _⟩,?_,?_⟩
    ·(conv=>whnf)
     (repeat' (first|with_reducible exact⟨⟩|refine⟨tA,?_⟩|with_reducible refine iA ?_ ?_)<;>conv=>whnf)
     all_goals try simp only[wQ]
     all_goals (try first|(refine⟨fun h=>h,fun e he=>?_⟩;rw[Nat.zero_add];done))
     all_goals (simp only[List.toList_toArray,w0,w1,w2,w3,w4,w5,Nat.zero_add,Nat.reduceAdd];rfl)
    (conv=>whnf)
    (repeat' (first|with_reducible exact⟨⟩|refine⟨tU,?_⟩|(conv=>arg 2;change ! (sB _);simp only[List.toList_toArray,Bt,r0,r1,r2,r3,r4,r5,w0,w1,w2,w3,w4,w5,Nat.zero_add,Nat.reduceAdd,List.length_cons,List.length_nil])|split<;>rename_i hh<;>try simp only[wS] at hh|with_reducible refine iA ?_ ?_)<;>conv=>whnf)
    all_goals try (
     have hz:x.2=(An,4):=by
      refine hfail fun r hm hw=>?_;rw[hrd r hm hw,hm] at hh;cases hh
     rw[hz]<;>rfl)
    refine⟨⟨by omega,fun e he=>rfl⟩,?_⟩
    refine⟨(⟨((sL (Aa 32 x.1)).getD 1 []),1,(Aj ((sL (Aa 32 x.1)).getD 2 [])).1,0,0,0,((sL (Aa 32 x.1)).getD 3 []),c::L,[],0,0,0⟩:Request),⟨Nat.le_trans q0 (by decide),Nat.zero_le _⟩,?_,?_⟩
    ·(conv=>whnf)
     (repeat' (first|with_reducible exact⟨⟩|refine⟨tA,?_⟩|with_reducible refine iA ?_ ?_)<;>conv=>whnf)
     all_goals try simp only[wQ]
     all_goals (try first|(refine⟨fun h=>h,fun e he=>?_⟩;rw[Nat.zero_add];done))
     all_goals (simp only[List.toList_toArray,w0,w1,w2,w3,w4,w5,Nat.zero_add,Nat.reduceAdd];rfl)
    (conv=>whnf)
    (repeat' (first|with_reducible exact⟨⟩|refine⟨tU,?_⟩|split<;>rename_i hh<;>try simp only[wS] at hh|with_reducible refine iA ?_ ?_)<;>conv=>whnf)
    all_goals try (
     have hz:x.2=(An,4):=by
      refine hfail fun r hm hw=>?_;rw[hrd r hm hw] at hh;exact hh hw
     rw[hz]<;>rfl)
    have hz:=hq.symm.trans (Cw (by assumption) (by assumption) hrd)
    refine⟨⟨by omega,fun e he=>rfl⟩,?_⟩
    rw[hz]
    (conv=>whnf)
    (repeat' (first|with_reducible exact⟨⟩|refine⟨tU,?_⟩|with_reducible refine iA ?_ ?_)<;>conv=>whnf)
    all_goals try(show _=_;simp only[wQ])
    all_goals first|(simp only[List.toList_toArray,w0,w1,w2,w3,w4,w5,Nat.zero_add,Nat.reduceAdd];rfl)|rfl|exact⟨rfl,fun h=>h,fun _ _=>True.intro⟩|exact⟨rfl,fun h=>h,fun e _=>by simp only[Nat.zero_add]⟩
   ·have hx:=‹(_:Int)≤(((c::L:List Coupon).length:Nat):Int)›;try simp only[List.toList_toArray,w0,w1,w2,w3,w4,w5,Nat.zero_add,Nat.reduceAdd] at hx
    have hx2: ¬(c::L).length<(sL (Aa 44 ((sL (Aa 32 x.1)).getD 4 []))).length:=Nat.not_lt.2 (Int.ofNat_le.1 hx);try simp only[List.toList_toArray,w0,w1,w2,w3,w4,w5,Nat.zero_add,Nat.reduceAdd] at hh
    have hdash: ¬((sL (Aa 32 x.1)).getD 5 [])=[45]:=hh;refine⟨?_,fun(T:List Tax) hT=>?_⟩
    ·(conv=>whnf)
     refine⟨([]:List Tax),[],?_,⟨⟨rfl,(nB rfl),rfl⟩,?_,?_⟩⟩
     ·exact⟨Nat.zero_le _,rfl,fun w hw=>by cases hw⟩
     ·exact tL
     ·exact tL
    ·obtain⟨t1,t2,t3⟩:=hT;try simp only[List.toList_toArray,w0,w1,w2,w3,w4,w5,Nat.zero_add,Nat.reduceAdd] at t1 t2 t3
     change T.length≤(sL (Aa 44 ((sL (Aa 32 x.1)).getD 5 []))).length at t1;change T=((sL (Aa 44 ((sL (Aa 32 x.1)).getD 5 []))).take T.length).map (fun w=>(C7 w).1) at t2;change ∀ w ∈ (sL (Aa 44 ((sL (Aa 32 x.1)).getD 5 []))).take T.length,(C7 w).2=true at t3;rcases T with _|⟨t,T⟩
     ·(conv=>whnf)
      (repeat' (first|with_reducible exact⟨⟩|((with_reducible refine aI ?_ ?_);focus (exact hm44 _ _))|(exact absurd (by with_reducible assumption) (hpot _))|refine⟨tU,?_⟩|(conv=>arg 2;change ! (sB _);simp only[List.toList_toArray,Bt,r0,r1,r2,r3,r4,r5,w0,w1,w2,w3,w4,w5,Nat.zero_add,Nat.reduceAdd,List.length_cons,List.length_nil])|split<;>rename_i hh<;>try simp only[wS] at hh|with_reducible refine iA ?_ ?_)<;>conv=>whnf)
      all_goals try (
       have hz:x.2=(An,4):=by
        have hi:=‹((([]:List Tax).length:Nat):Int)<_›;refine hfail fun r hm hw=>?_;have hc:=hJ hm hw hk2;try simp only[List.toList_toArray,w0,w1,w2,w3,w4,w5,Nat.zero_add,Nat.reduceAdd] at hh
        try simp only[List.toList_toArray,w0,w1,w2,w3,w4,w5,Nat.zero_add,Nat.reduceAdd] at hi
        have hi2:([]:List Tax).length<(sL (Aa 44 ((sL (Aa 32 x.1)).getD 5 []))).length:=Int.ofNat_lt.1 hi;rcases hc.2.2.2.2.1 with ⟨a,a2⟩|⟨_,a1,a2⟩
        ·exact hdash (by rw[hsL,hc.1];exact a2)
        ·have hb:=Ik (f:=C7) hi2 (l:=r.taxes) (by rw[Ck,hsL,hc.1];exact a1) a2
         unfold C7 at hb;simp only[Bool.and_eq_true] at hb;exact absurd (hh.symm.trans hb.1) (by decide)
       rw[hz]<;>rfl)
      all_goals try (
       have hz:x.2=(An,4):=by
        have hi:=‹((([]:List Tax).length:Nat):Int)<_›;refine hfail fun r hm hw=>?_;have hc:=hJ hm hw hk2;try simp only[List.toList_toArray,w0,w1,w2,w3,w4,w5,Nat.zero_add,Nat.reduceAdd] at hh
        try simp only[List.toList_toArray,w0,w1,w2,w3,w4,w5,Nat.zero_add,Nat.reduceAdd] at hi
        have hi2:([]:List Tax).length<(sL (Aa 44 ((sL (Aa 32 x.1)).getD 5 []))).length:=Int.ofNat_lt.1 hi;rcases hc.2.2.2.2.1 with ⟨a,a2⟩|⟨_,a1,a2⟩
        ·exact hdash (by rw[hsL,hc.1];exact a2)
        ·have hb:=Ik (f:=C7) hi2 (l:=r.taxes) (by rw[Ck,hsL,hc.1];exact a1) a2
         unfold C7 at hb;simp only[Bool.and_eq_true] at hb;exact absurd (hh.symm.trans hb.2) (by decide)
       rw[hz]<;>rfl)
      ·have hi:=‹((([]:List Tax).length:Nat):Int)<_›;try simp only[List.toList_toArray,w0,w1,w2,w3,w4,w5,Nat.zero_add,Nat.reduceAdd] at hi
       have hi2:([]:List Tax).length<(sL (Aa 44 ((sL (Aa 32 x.1)).getD 5 []))).length:=Int.ofNat_lt.1 hi;have hp:=‹(D8 _).2.2=true›;try simp only[List.toList_toArray,w0,w1,w2,w3,w4,w5,Nat.zero_add,Nat.reduceAdd] at hh
       try simp only[List.toList_toArray,w0,w1,w2,w3,w4,w5,Nat.zero_add,Nat.reduceAdd] at hp
       have hh2:(C7 ((sL (Aa 44 ((sL (Aa 32 x.1)).getD 5 []))).getD ([]:List Tax).length [])).2=true:=by
        unfold C7;simp only[Bool.and_eq_true];exact⟨hp,hh⟩
       have g1:=Cj t2 hi2;have g2:=L6 (p:=fun w=>(C7 w).2) t3 hi2 hh2
       (conv=>whnf)
       refine⟨((([]:List Tax)++[(C7 ((sL (Aa 44 ((sL (Aa 32 x.1)).getD 5 []))).getD ([]:List Tax).length [])).1]):List Tax),[64],?_,⟨⟨rfl,(nB rfl),rfl⟩,?_,?_⟩⟩
       ·refine⟨⟨?_,?_,?_⟩,?_⟩<;>(try simp only[List.toList_toArray,w0,w1,w2,w3,w4,w5,Nat.zero_add,Nat.reduceAdd])
        ·show(([]:List Tax)++[(C7 ((sL (Aa 44 ((sL (Aa 32 x.1)).getD 5 []))).getD ([]:List Tax).length [])).1]).length≤(sL (Aa 44 ((sL (Aa 32 x.1)).getD 5 []))).length;rw[List.length_append];exact hi2
        ·exact g1
        ·show ∀ w ∈ (sL (Aa 44 ((sL (Aa 32 x.1)).getD 5 []))).take (([]:List Tax)++[(C7 ((sL (Aa 44 ((sL (Aa 32 x.1)).getD 5 []))).getD ([]:List Tax).length [])).1]).length,(C7 w).2=true;rw[List.length_append];exact g2
        ·show(sL (Aa 44 _)).length - (_:List Tax).length<(sL (Aa 44 _)).length - (_:List Tax).length;try simp only[List.toList_toArray,w0,w1,w2,w3,w4,w5,Nat.zero_add,Nat.reduceAdd]
         show(sL (Aa 44 ((sL (Aa 32 x.1)).getD 5 []))).length - (([]:List Tax)++[(C7 ((sL (Aa 44 ((sL (Aa 32 x.1)).getD 5 []))).getD ([]:List Tax).length [])).1]).length<(sL (Aa 44 ((sL (Aa 32 x.1)).getD 5 []))).length - ([]:List Tax).length;rw[List.length_append,List.length_singleton];omega
       ·(conv=>whnf)
        (repeat' (first|with_reducible exact⟨⟩|refine⟨tA,?_⟩|with_reducible refine iA ?_ ?_)<;>conv=>whnf)
        all_goals try simp only[wQ]
        all_goals (try first|rfl|exact⟨fun h=>h,fun _ _=>True.intro⟩)
        all_goals simp
       ·(conv=>whnf)
        (repeat' (first|with_reducible exact⟨⟩|((with_reducible refine Or.inr ?_);rfl)|refine⟨tA,?_⟩|with_reducible refine iA ?_ ?_|with_reducible refine iL ?_ ?_|with_reducible refine iB ?_ ?_)<;>conv=>whnf)
        all_goals try simp only[wQ]
        all_goals (try first|rfl)
        all_goals (try first|exact fun _ _=>⟨True.intro,rfl⟩)
        all_goals try rfl
        all_goals try exact⟨rfl,True.intro,True.intro,by simp,Or.inl True.intro⟩
        intro e he;have he:e<1:=he;obtain rfl:e=0:=by omega
        refine⟨?_,rfl⟩;try simp only[List.toList_toArray,w0,w1,w2,w3,w4,w5,Nat.zero_add,Nat.reduceAdd]
        unfold C7;rfl
     ·have t0:T.length+1≤1000001:=Nat.le_trans t1 (hb44 _)
      (conv=>whnf)
      (repeat' (first|with_reducible exact⟨⟩|((with_reducible refine aI ?_ ?_);focus (exact hm44 _ _))|refine⟨tU,?_⟩|(conv=>arg 2;(first|change decide (_+Ai _ _<_)|change ! (sB _));simp only[List.toList_toArray,Bt,r0,r1,r2,r3,r4,r5,w0,w1,w2,w3,w4,w5,Nat.zero_add,Nat.reduceAdd,List.length_cons,List.length_nil])|split<;>rename_i hh<;>try simp only[wS] at hh|with_reducible refine iA ?_ ?_)<;>conv=>whnf)
      all_goals try (
       have hz:x.2=(An,4):=by
        have hi:=‹(((t::T:List Tax).length:Nat):Int)<_›;refine hfail fun r hm hw=>?_;have hc:=hJ hm hw hk2;try simp only[List.toList_toArray,w0,w1,w2,w3,w4,w5,Nat.zero_add,Nat.reduceAdd] at hh
        try simp only[List.toList_toArray,w0,w1,w2,w3,w4,w5,Nat.zero_add,Nat.reduceAdd] at hi
        have hi2:(t::T:List Tax).length<(sL (Aa 44 ((sL (Aa 32 x.1)).getD 5 []))).length:=Int.ofNat_lt.1 hi;rcases hc.2.2.2.2.1 with ⟨a,a2⟩|⟨_,a1,a2⟩
        ·exact hdash (by rw[hsL,hc.1];exact a2)
        ·have hb:=Ik (f:=C7) hi2 (l:=r.taxes) (by rw[Ck,hsL,hc.1];exact a1) a2
         unfold C7 at hb;simp only[Bool.and_eq_true] at hb;exact absurd (hh.symm.trans hb.1) (by decide)
       rw[hz]<;>rfl)
      all_goals try (
       have hz:x.2=(An,4):=by
        have hi:=‹(((t::T:List Tax).length:Nat):Int)<_›;refine hfail fun r hm hw=>?_;have hc:=hJ hm hw hk2;try simp only[List.toList_toArray,w0,w1,w2,w3,w4,w5,Nat.zero_add,Nat.reduceAdd] at hh
        try simp only[List.toList_toArray,w0,w1,w2,w3,w4,w5,Nat.zero_add,Nat.reduceAdd] at hi
        have hi2:(t::T:List Tax).length<(sL (Aa 44 ((sL (Aa 32 x.1)).getD 5 []))).length:=Int.ofNat_lt.1 hi;rcases hc.2.2.2.2.1 with ⟨a,a2⟩|⟨_,a1,a2⟩
        ·exact hdash (by rw[hsL,hc.1];exact a2)
        ·have hb:=Ik (f:=C7) hi2 (l:=r.taxes) (by rw[Ck,hsL,hc.1];exact a1) a2
         unfold C7 at hb;simp only[Bool.and_eq_true] at hb;exact absurd (hh.symm.trans hb.2) (by decide)
       rw[hz]<;>rfl)
      ·have hi:=‹(((t::T:List Tax).length:Nat):Int)<_›;try simp only[List.toList_toArray,w0,w1,w2,w3,w4,w5,Nat.zero_add,Nat.reduceAdd] at hi
       have hi2:(t::T:List Tax).length<(sL (Aa 44 ((sL (Aa 32 x.1)).getD 5 []))).length:=Int.ofNat_lt.1 hi;have hp:=‹(D8 _).2.2=true›;try simp only[List.toList_toArray,w0,w1,w2,w3,w4,w5,Nat.zero_add,Nat.reduceAdd] at hh
       try simp only[List.toList_toArray,w0,w1,w2,w3,w4,w5,Nat.zero_add,Nat.reduceAdd] at hp
       have hh2:(C7 ((sL (Aa 44 ((sL (Aa 32 x.1)).getD 5 []))).getD (t::T:List Tax).length [])).2=true:=by
        unfold C7;simp only[Bool.and_eq_true];exact⟨hp,hh⟩
       have g1:=Cj t2 hi2;have g2:=L6 (p:=fun w=>(C7 w).2) t3 hi2 hh2
       (conv=>whnf)
       refine⟨(((t::T:List Tax)++[(C7 ((sL (Aa 44 ((sL (Aa 32 x.1)).getD 5 []))).getD (t::T:List Tax).length [])).1]):List Tax),[64],?_,⟨⟨rfl,(nB rfl),rfl⟩,?_,?_⟩⟩
       ·refine⟨⟨?_,?_,?_⟩,?_⟩<;>(try simp only[List.toList_toArray,w0,w1,w2,w3,w4,w5,Nat.zero_add,Nat.reduceAdd])
        ·show((t::T:List Tax)++[(C7 ((sL (Aa 44 ((sL (Aa 32 x.1)).getD 5 []))).getD (t::T:List Tax).length [])).1]).length≤(sL (Aa 44 ((sL (Aa 32 x.1)).getD 5 []))).length;rw[List.length_append];exact hi2
        ·exact g1
        ·show ∀ w ∈ (sL (Aa 44 ((sL (Aa 32 x.1)).getD 5 []))).take ((t::T:List Tax)++[(C7 ((sL (Aa 44 ((sL (Aa 32 x.1)).getD 5 []))).getD (t::T:List Tax).length [])).1]).length,(C7 w).2=true;rw[List.length_append];exact g2
        ·show(sL (Aa 44 _)).length - (_:List Tax).length<(sL (Aa 44 _)).length - (_:List Tax).length;try simp only[List.toList_toArray,w0,w1,w2,w3,w4,w5,Nat.zero_add,Nat.reduceAdd]
         show(sL (Aa 44 ((sL (Aa 32 x.1)).getD 5 []))).length - ((t::T:List Tax)++[(C7 ((sL (Aa 44 ((sL (Aa 32 x.1)).getD 5 []))).getD (t::T:List Tax).length [])).1]).length<(sL (Aa 44 ((sL (Aa 32 x.1)).getD 5 []))).length - (t::T:List Tax).length;rw[List.length_append,List.length_singleton];omega
       ·(conv=>whnf)
        (repeat' (first|with_reducible exact⟨⟩|refine⟨tA,?_⟩|with_reducible refine iA ?_ ?_)<;>conv=>whnf)
        all_goals try simp only[wQ]
        all_goals (try first|exact⟨fun h=>h,fun _ _=>True.intro⟩)
        all_goals simp
       ·(conv=>whnf)
        (repeat' (first|with_reducible exact⟨⟩|((with_reducible refine Or.inr ?_);rfl)|refine⟨tA,?_⟩|with_reducible refine iA ?_ ?_|with_reducible refine iL ?_ ?_|with_reducible refine iB ?_ ?_)<;>conv=>whnf)
        all_goals try simp only[wQ]
        all_goals (try first|rfl)
        all_goals (try first|exact fun _ _=>⟨True.intro,rfl⟩|exact⟨by simp,Or.inl trivial⟩)
        all_goals try rfl
        all_goals try exact⟨rfl,True.intro,True.intro,by simp,Or.inl True.intro⟩
        exact⟨by simp,fun e he=>⟨Ey (enc:=Tax.enc) (l:=(t::T:List Tax)) rfl (fun _ _=>rfl) (by try simp only[List.toList_toArray,w0,w1,w2,w3,w4,w5,Nat.zero_add,Nat.reduceAdd];unfold C7;rfl) (by simpa using he),rfl⟩⟩
      ·have hy:=‹(_:Int)≤(((t::T:List Tax).length:Nat):Int)›;try simp only[List.toList_toArray,w0,w1,w2,w3,w4,w5,Nat.zero_add,Nat.reduceAdd] at hy
       have hy2: ¬(t::T).length<(sL (Aa 44 ((sL (Aa 32 x.1)).getD 5 []))).length:=Nat.not_lt.2 (Int.ofNat_le.1 hy);have hrd:∀ r,Af r=true→Be r=x.1→(⟨((sL (Aa 32 x.1)).getD 1 []),1,(Aj ((sL (Aa 32 x.1)).getD 2 [])).1,0,0,0,((sL (Aa 32 x.1)).getD 3 []),c::L,t::T,0,0,0⟩:Request)=r:=fun r hm hw=>by
        have hc:=hJ hm hw hk2;have eL:c::L=r.coupons:=Nr q2 q1 hx2 (by rw[Ck,hsL,hc.1];exact hc.2.2.2.1.1) hc.2.2.2.1.2
        have eX:t::T=r.taxes:=by
         rcases hc.2.2.2.2.1 with ⟨a,a2⟩|⟨_,a1,a2⟩
         ·exact absurd (by rw[hsL,hc.1];exact a2) hdash
         ·exact Nr t2 t1 hy2 (by rw[Ck,hsL,hc.1];exact a1) a2
        refine Eq.trans ?_ hc.2.1.symm;rw[←eL,←eX] at hc ⊢;rw[hsL,hc.1];simp only[List.getD_cons_zero,List.getD_cons_succ,hc.2.2.1]
       refine⟨⟨by omega,fun e he=>rfl⟩,?_⟩
       refine⟨⟨by omega,fun e he=>rfl⟩,?_⟩
       refine⟨(⟨((sL (Aa 32 x.1)).getD 1 []),1,(Aj ((sL (Aa 32 x.1)).getD 2 [])).1,0,0,0,((sL (Aa 32 x.1)).getD 3 []),c::L,t::T,0,0,0⟩:Request),⟨Nat.le_trans q0 (by decide),Nat.le_trans t0 (by decide)⟩,?_,?_⟩
       ·(conv=>whnf)
        (repeat' (first|with_reducible exact⟨⟩|refine⟨tA,?_⟩|with_reducible refine iA ?_ ?_)<;>conv=>whnf)
        all_goals try simp only[wQ]
        all_goals (try first|(refine⟨fun h=>h,fun e he=>?_⟩;rw[Nat.zero_add];done))
        all_goals (simp only[List.toList_toArray,w0,w1,w2,w3,w4,w5,Nat.zero_add,Nat.reduceAdd];rfl)
       (conv=>whnf)
       (repeat' (first|with_reducible exact⟨⟩|refine⟨tU,?_⟩|(conv=>arg 2;change ! (sB _);simp only[List.toList_toArray,Bt,r0,r1,r2,r3,r4,r5,w0,w1,w2,w3,w4,w5,Nat.zero_add,Nat.reduceAdd,List.length_cons,List.length_nil])|split<;>rename_i hh<;>try simp only[wS] at hh|with_reducible refine iA ?_ ?_)<;>conv=>whnf)
       all_goals try (
        have hz:x.2=(An,4):=by
         refine hfail fun r hm hw=>?_;rw[hrd r hm hw,hm] at hh;cases hh
        rw[hz]<;>rfl)
       refine⟨⟨by omega,fun e he=>rfl⟩,?_⟩
       refine⟨⟨by omega,fun e he=>rfl⟩,?_⟩
       refine⟨(⟨((sL (Aa 32 x.1)).getD 1 []),1,(Aj ((sL (Aa 32 x.1)).getD 2 [])).1,0,0,0,((sL (Aa 32 x.1)).getD 3 []),c::L,t::T,0,0,0⟩:Request),⟨Nat.le_trans q0 (by decide),Nat.le_trans t0 (by decide)⟩,?_,?_⟩
       ·(conv=>whnf)
        (repeat' (first|with_reducible exact⟨⟩|refine⟨tA,?_⟩|with_reducible refine iA ?_ ?_)<;>conv=>whnf)
        all_goals try simp only[wQ]
        all_goals (try first|(refine⟨fun h=>h,fun e he=>?_⟩;rw[Nat.zero_add];done))
        all_goals (simp only[List.toList_toArray,w0,w1,w2,w3,w4,w5,Nat.zero_add,Nat.reduceAdd];rfl)
       (conv=>whnf)
       (repeat' (first|with_reducible exact⟨⟩|refine⟨tU,?_⟩|split<;>rename_i hh<;>try simp only[wS] at hh|with_reducible refine iA ?_ ?_)<;>conv=>whnf)
       all_goals try (
        have hz:x.2=(An,4):=by
         refine hfail fun r hm hw=>?_;rw[hrd r hm hw] at hh;exact hh hw
        rw[hz]<;>rfl)
       have hz:=hq.symm.trans (Cw (by assumption) (by assumption) hrd)
       refine⟨⟨by omega,fun e he=>rfl⟩,?_⟩
       refine⟨⟨by omega,fun e he=>rfl⟩,?_⟩
       rw[hz]
       (conv=>whnf)
       (repeat' (first|with_reducible exact⟨⟩|refine⟨tU,?_⟩|with_reducible refine iA ?_ ?_)<;>conv=>whnf)
       all_goals try(show _=_;simp only[wQ])
       all_goals first|(simp only[List.toList_toArray,w0,w1,w2,w3,w4,w5,Nat.zero_add,Nat.reduceAdd];rfl)|rfl|exact⟨rfl,fun h=>h,fun _ _=>True.intro⟩|exact⟨rfl,fun h=>h,fun e _=>by simp only[Nat.zero_add]⟩
end
end Go.Vc.Z
