/- script.RequestOf: the request of a line, kind 1. -/
import Derived.Test.YtpmpclbdnakniaaGreatDoorV35
set_option linter.all false
set_option linter.unusedVariables false
set_option linter.unusedSimpArgs false
namespace Go.Vc.Z
open Go Go.Vc Go.Proofs Go.RowKit Go.Pl Go.Lib
noncomputable section
set_option maxRecDepth 100000
attribute [local irreducible] inK Utf8.decode Utf8.encode Lib.itoa Pl.worth Pl.allDig
attribute [local irreducible] Lib.join Bw Aa
def Aow:PC:=PC.of (fun x:List UInt8 × Request × Int=>[.str x.1]) (fun x=>Va x.1=x.2∧x.1.length≤1000000∧kindOf ((Aa 32 x.1).getD 0 [])=1) (fun x=>.tup [.agg x.2.1.enc,.int .i64 x.2.2])
def Aox:List UInt8 × Request × Int→Nat→Option LR:=fun x i=>cond (Nat.beq i 8) (some (.unroll 7)) (none)
set_option maxHeartbeats 4000000 in
theorem Aoy{W:World}(hW:Tabs W):GoodP (Fw W) Tryz.prog 26 Aow:=by
 have hD:=Dl hW
 have hC0:∀ x:List UInt8 × Request × Int,Ad (Fw W) Tryz.prog Ic:=fun x=>(Wq hW)
 refine Ar (D:=Bs) (C:=fun x=>Ic) (wr:=(fun _=>false)) rfl Ap hD hC0 Tryz.func26 (Aox) (fun _=>rfl) ?_
 intro x hf hp
 clear hf
 obtain⟨hq,hs,hk2⟩:=hp
 have hcut:=Ma 32 x.1
 have hlen1:=Hr 32 x.1
 have hsL:=Dd (Aa 32 x.1)
 have hl1:1≤(sL (Aa 32 x.1)).length:=by rw[hsL];exact hlen1
 have hmem:∀ i,((sL (Aa 32 x.1)).getD i []).length≤1000000:=fun i=>by
  rw[hsL,List.getD_eq_getElem?_getD]
  cases h:(Aa 32 x.1)[i]? with
  |none=>simp
  |some w=>have:=(P6 x.1 w (List.mem_of_getElem? h)).1;simp;omega
 have hfail:(∀ r,Ah r=true→Bu r=x.1→False)→x.2=(Ay,4):=fun h=>by rw[←hq];exact dR h
 have hk:kindOf ((sL (Aa 32 x.1)).getD (Int.toNat 0) [])=1:=by rw[hsL];exact hk2
 have hk2:kindOf ((Aa 32 x.1).getD 0 [])=1:=by rw[hsL] at hk;exact hk
 have hm44:∀ p i,((sL (Aa 44 ((sL (Aa 32 x.1)).getD p []))).getD i []).length≤100000000:=fun p i=>Z8 (Nat.le_trans (hmem p) (by decide)) i
 have hpos:∀ p,¬(((sL (Aa 44 ((sL (Aa 32 x.1)).getD p []))).length:Int)≤(([]:List Coupon).length:Int)):=fun p h=>by have:=Hr 44 ((sL (Aa 32 x.1)).getD p []);rw[←Dd (Aa 44 _)] at this;have h:(_:Int)≤0:=h;omega
 have hpot:∀ p,¬(((sL (Aa 44 ((sL (Aa 32 x.1)).getD p []))).length:Int)≤(([]:List Tax).length:Int)):=fun p h=>by have:=Hr 44 ((sL (Aa 32 x.1)).getD p []);rw[←Dd (Aa 44 _)] at this;have h:(_:Int)≤0:=h;omega
 have hb44:∀ p,(sL (Aa 44 ((sL (Aa 32 x.1)).getD p []))).length≤1000001:=fun p=>by rw[Dd];exact Nat.le_trans (Ma _ _) (Nat.succ_le_succ (hmem p))
 obtain⟨r0,w0⟩:=Av (l:=[75,68,76,67,88]) 0 (by decide) (by decide)
 obtain⟨r1,w1⟩:=Av (l:=[75,68,76,67,88]) 1 (by decide) (by decide)
 obtain⟨r2,w2⟩:=Av (l:=[75,68,76,67,88]) 2 (by decide) (by decide)
 obtain⟨r3,w3⟩:=Av (l:=[75,68,76,67,88]) 3 (by decide) (by decide)
 obtain⟨r4,w4⟩:=Av (l:=[75,68,76,67,88]) 4 (by decide) (by decide)
 have r5:=True.intro
 have w5:=True.intro
 have v0:Ai (⟨#[75,68,76,67,88]⟩:ByteArray).data.toList 0=1:=w0
 have v1:Ai (⟨#[75,68,76,67,88]⟩:ByteArray).data.toList (0+Ai (⟨#[75,68,76,67,88]⟩:ByteArray).data.toList 0)=1:=by rw[v0];exact w1
 have v2:Ai (⟨#[75,68,76,67,88]⟩:ByteArray).data.toList ((0+Ai (⟨#[75,68,76,67,88]⟩:ByteArray).data.toList 0)+Ai (⟨#[75,68,76,67,88]⟩:ByteArray).data.toList (0+Ai (⟨#[75,68,76,67,88]⟩:ByteArray).data.toList 0))=1:=by rw[v1,v0];exact w2
 have v3:Ai (⟨#[75,68,76,67,88]⟩:ByteArray).data.toList (((0+Ai (⟨#[75,68,76,67,88]⟩:ByteArray).data.toList 0)+Ai (⟨#[75,68,76,67,88]⟩:ByteArray).data.toList (0+Ai (⟨#[75,68,76,67,88]⟩:ByteArray).data.toList 0))+Ai (⟨#[75,68,76,67,88]⟩:ByteArray).data.toList ((0+Ai (⟨#[75,68,76,67,88]⟩:ByteArray).data.toList 0)+Ai (⟨#[75,68,76,67,88]⟩:ByteArray).data.toList (0+Ai (⟨#[75,68,76,67,88]⟩:ByteArray).data.toList 0)))=1:=by rw[v2,v1,v0];exact w3
 have v4:Ai (⟨#[75,68,76,67,88]⟩:ByteArray).data.toList ((((0+Ai (⟨#[75,68,76,67,88]⟩:ByteArray).data.toList 0)+Ai (⟨#[75,68,76,67,88]⟩:ByteArray).data.toList (0+Ai (⟨#[75,68,76,67,88]⟩:ByteArray).data.toList 0))+Ai (⟨#[75,68,76,67,88]⟩:ByteArray).data.toList ((0+Ai (⟨#[75,68,76,67,88]⟩:ByteArray).data.toList 0)+Ai (⟨#[75,68,76,67,88]⟩:ByteArray).data.toList (0+Ai (⟨#[75,68,76,67,88]⟩:ByteArray).data.toList 0)))+Ai (⟨#[75,68,76,67,88]⟩:ByteArray).data.toList (((0+Ai (⟨#[75,68,76,67,88]⟩:ByteArray).data.toList 0)+Ai (⟨#[75,68,76,67,88]⟩:ByteArray).data.toList (0+Ai (⟨#[75,68,76,67,88]⟩:ByteArray).data.toList 0))+Ai (⟨#[75,68,76,67,88]⟩:ByteArray).data.toList ((0+Ai (⟨#[75,68,76,67,88]⟩:ByteArray).data.toList 0)+Ai (⟨#[75,68,76,67,88]⟩:ByteArray).data.toList (0+Ai (⟨#[75,68,76,67,88]⟩:ByteArray).data.toList 0))))=1:=by rw[v3,v2,v1,v0];exact w4
 have hrow:(([75,68,76,67,88]:List UInt8).length:Int)=5:=rfl
 (conv=>whnf)
 (repeat' ((first
  |((with_reducible refine aI ?_ ?_);focus (omega))
  |fail)<;>(conv=>whnf)))
 refine⟨(((sL (Aa 32 x.1)).getD (Int.toNat 0) [],(1:Int)):List UInt8 × Int),hk,?_,?_⟩
 ·exact Ac _
 (conv=>whnf)
 (repeat' ((first
  |with_reducible exact⟨⟩
  |(with_reducible refine Ao ?_)
  |((with_reducible refine aI ?_ ?_);focus (exact Nat.le_trans (hmem _) ((nB rfl))))
  |((with_reducible refine aI ?_ ?_);focus (first|with_reducible exact⟨⟩|exact tO|with_reducible rfl|omega|exact tK|(dsimp only at*;simp only[Am,Go.Vc.lo,Go.Vc.hi];omega)))
  |(conv=>arg 2;(first|change eqI (Bg _ _) _|change decide (_+Ai _ _<_)|change ! (sB _));simp only[List.toList_toArray,Bd,r0,r1,r2,r3,r4,r5,w0,w1,w2,w3,w4,w5,Nat.zero_add,Nat.reduceAdd,List.length_cons,List.length_nil])
  |(split<;>rename_i hh<;>(try simp only[wS] at hh))
  |with_reducible refine lnI fun hln=>?_
  |with_reducible refine iA ?_ ?_
  |fail)<;>(conv=>whnf)))
 all_goals try (
  have hz:x.2=(Ay,4):=by
   refine hfail fun r hm hw=>?_
   have hc:=hJ hm hw hk2
   try simp only[List.toList_toArray,w0,w1,w2,w3,w4,w5,Nat.zero_add,Nat.reduceAdd] at hh
   rw[hsL,hc.1] at hh
   first|exact hh rfl|(cases hh.symm.trans (congrArg Prod.snd hc.2.2.1))
  rw[hz]<;>rfl)
 refine⟨?_,fun(L:List Coupon) hL=>?_⟩
 ·(conv=>whnf)
  refine⟨([]:List Coupon),[],?_,⟨⟨rfl,(nB rfl),rfl⟩,?_,?_⟩⟩
  ·exact⟨Nat.zero_le _,rfl,fun w hw=>by cases hw⟩
  ·exact tL
  ·exact tL
 ·obtain⟨q1,q2,q3⟩:=hL
  try simp only[List.toList_toArray,w0,w1,w2,w3,w4,w5,Nat.zero_add,Nat.reduceAdd] at q1 q2 q3
  change L.length≤(sL (Aa 44 ((sL (Aa 32 x.1)).getD 4 []))).length at q1
  change L=((sL (Aa 44 ((sL (Aa 32 x.1)).getD 4 []))).take L.length).map (fun w=>(Ef w).1) at q2
  change ∀ w ∈ (sL (Aa 44 ((sL (Aa 32 x.1)).getD 4 []))).take L.length,(Ef w).2=true at q3
  rcases L with _|⟨c,L⟩
  ·(conv=>whnf)
   (repeat' ((first
    |with_reducible exact⟨⟩
    |((with_reducible refine aI ?_ ?_);focus (exact hm44 _ _))
    |(exact absurd (by with_reducible assumption) (hpos _))
    |with_reducible refine iQ ?_ ?_
    |((with_reducible refine aI ?_ ?_);focus (first|((with_reducible show okQ _ _=true);rfl)|with_reducible rfl|omega|((with_reducible refine⟨?_,?_⟩)<;>first|with_reducible assumption|omega)|(simp only[Aq,ty2,ty3,ty4,ty5,ty9,Cw,Co,Cx,Cp,Cu,Cy,Cv,Cz,Bm,Bj,Bn,Bi,Bo,Bp,Bq];first|omega|(refine⟨?_,?_⟩<;>omega))|decide))
    |(conv=>arg 2;change ! (sB _);simp only[List.toList_toArray,Bd,r0,r1,r2,r3,r4,r5,w0,w1,w2,w3,w4,w5,Nat.zero_add,Nat.reduceAdd,List.length_cons,List.length_nil])
    |(split<;>rename_i hh<;>(try simp only[wS] at hh))
    |with_reducible refine iA ?_ ?_
    |fail)<;>(conv=>whnf)))
   all_goals try (
    have hz:x.2=(Ay,4):=by
     have hi:=‹((([]:List Coupon).length:Nat):Int)<_›
     refine hfail fun r hm hw=>?_
     have hc:=hJ hm hw hk2
     try simp only[List.toList_toArray,w0,w1,w2,w3,w4,w5,Nat.zero_add,Nat.reduceAdd] at hh
     try simp only[List.toList_toArray,w0,w1,w2,w3,w4,w5,Nat.zero_add,Nat.reduceAdd] at hi
     have hi2:([]:List Coupon).length<(sL (Aa 44 ((sL (Aa 32 x.1)).getD 4 []))).length:=Int.ofNat_lt.1 hi
     exact absurd (hh.symm.trans (Ht (f:=Ef) hi2 (l:=r.coupons) (by rw[Dd,hsL,hc.1];exact hc.2.2.2.1.1) hc.2.2.2.1.2)) (by decide)
    rw[hz]<;>rfl)
   ·have hi:=‹((([]:List Coupon).length:Nat):Int)<_›
    try simp only[List.toList_toArray,w0,w1,w2,w3,w4,w5,Nat.zero_add,Nat.reduceAdd] at hi
    have hi2:([]:List Coupon).length<(sL (Aa 44 ((sL (Aa 32 x.1)).getD 4 []))).length:=Int.ofNat_lt.1 hi
    try simp only[List.toList_toArray,w0,w1,w2,w3,w4,w5,Nat.zero_add,Nat.reduceAdd] at hh
    have hh2:(Ef ((sL (Aa 44 ((sL (Aa 32 x.1)).getD 4 []))).getD ([]:List Coupon).length [])).2=true:=hh
    have g1:=F6 q2 hi2
    have g2:=Lb (p:=fun w=>(Ef w).2) q3 hi2 hh2
    (conv=>whnf)
    refine⟨((([]:List Coupon)++[(Ef ((sL (Aa 44 ((sL (Aa 32 x.1)).getD 4 []))).getD ([]:List Coupon).length [])).1]):List Coupon),[55],?_,⟨⟨rfl,(nB rfl),rfl⟩,?_,?_⟩⟩
    ·refine⟨⟨?_,?_,?_⟩,?_⟩<;>(try simp only[List.toList_toArray,w0,w1,w2,w3,w4,w5,Nat.zero_add,Nat.reduceAdd])
     ·show(([]:List Coupon)++[(Ef ((sL (Aa 44 ((sL (Aa 32 x.1)).getD 4 []))).getD ([]:List Coupon).length [])).1]).length≤(sL (Aa 44 ((sL (Aa 32 x.1)).getD 4 []))).length
      rw[List.length_append];exact hi2
     ·exact g1
     ·show ∀ w ∈ (sL (Aa 44 ((sL (Aa 32 x.1)).getD 4 []))).take (([]:List Coupon)++[(Ef ((sL (Aa 44 ((sL (Aa 32 x.1)).getD 4 []))).getD ([]:List Coupon).length [])).1]).length,(Ef w).2=true
      rw[List.length_append];exact g2
     ·show(sL (Aa 44 _)).length - (_:List Coupon).length<(sL (Aa 44 _)).length - (_:List Coupon).length
      try simp only[List.toList_toArray,w0,w1,w2,w3,w4,w5,Nat.zero_add,Nat.reduceAdd]
      show(sL (Aa 44 ((sL (Aa 32 x.1)).getD 4 []))).length - (([]:List Coupon)++[(Ef ((sL (Aa 44 ((sL (Aa 32 x.1)).getD 4 []))).getD ([]:List Coupon).length [])).1]).length<(sL (Aa 44 ((sL (Aa 32 x.1)).getD 4 []))).length - ([]:List Coupon).length
      rw[List.length_append,List.length_singleton];omega
    ·(conv=>whnf)
     (repeat' ((first|with_reducible exact⟨⟩|((with_reducible refine aI ?_ ?_);focus (exact tA))|with_reducible refine iA ?_ ?_|fail)<;>(conv=>whnf)))
     all_goals (try simp only[wQ])
     all_goals (try first|rfl|exact⟨fun h=>h,fun _ _=>True.intro⟩)
     all_goals simp
    ·(conv=>whnf)
     (repeat' ((first|with_reducible exact⟨⟩|((with_reducible refine Or.inr ?_);rfl)|((with_reducible refine aI ?_ ?_);focus (exact tA))|with_reducible refine iA ?_ ?_|with_reducible refine iL ?_ ?_|with_reducible refine iB ?_ ?_|fail)<;>(conv=>whnf)))
     all_goals (try simp only[wQ])
     all_goals (try first|rfl)
     all_goals try rfl
     all_goals try exact⟨rfl,True.intro,True.intro,by simp,Or.inl True.intro⟩
     intro e he
     have he:e<1:=he
     obtain rfl:e=0:=by omega
     refine⟨?_,rfl⟩
     try simp only[List.toList_toArray,w0,w1,w2,w3,w4,w5,Nat.zero_add,Nat.reduceAdd]
     rfl
  ·have q0:L.length+1≤1000001:=Nat.le_trans q1 (hb44 _)
   (conv=>whnf)
   (repeat' ((first
    |with_reducible exact⟨⟩
    |(with_reducible refine Ao ?_)
    |((with_reducible refine aI ?_ ?_);focus (exact Nat.le_trans (hmem _) ((nB rfl))))
    |((with_reducible refine aI ?_ ?_);focus (exact hm44 _ _))
    |with_reducible refine iQ ?_ ?_
    |((with_reducible refine aI ?_ ?_);focus (first|((with_reducible refine⟨?_,?_,?_⟩)<;>first|(intro e he;rcases(by omega:e=0∨e=1∨e=2∨e=3∨e=4∨e=5) with rfl|rfl|rfl|rfl|rfl|rfl<;>first|rfl|(exfalso;omega))|(with_reducible assumption)|omega|((with_reducible show Aq _ _);simp only[Aq,ty2,ty3,ty4,ty5,ty9,Cw,Co,Cx,Cp,Cu,Cy,Cv,Cz,Bm,Bj,Bn,Bi,Bo,Bp,Bq,List.length_cons,List.length_nil];first|omega|(refine⟨?_,?_⟩<;>omega)))|exact tO|((with_reducible show okQ _ _=true);rfl)|with_reducible rfl|omega|((with_reducible refine⟨?_,?_⟩)<;>first|with_reducible assumption|omega)|(dsimp only at*;simp only[Am,Go.Vc.lo,Go.Vc.hi];omega)))
    |(conv=>arg 2;(first|change eqI (Bg _ _) _|change decide (_+Ai _ _<_)|change ! (sB _));simp only[List.toList_toArray,Bd,r0,r1,r2,r3,r4,r5,w0,w1,w2,w3,w4,w5,Nat.zero_add,Nat.reduceAdd,List.length_cons,List.length_nil])
    |(split<;>rename_i hh<;>(try simp only[wS] at hh))
    |with_reducible refine lnI fun hln=>?_
    |with_reducible refine iA ?_ ?_
    |fail)<;>(conv=>whnf)))
   all_goals try (
    have hz:x.2=(Ay,4):=by
     have hi:=‹(((c::L:List Coupon).length:Nat):Int)<_›
     refine hfail fun r hm hw=>?_
     have hc:=hJ hm hw hk2
     try simp only[List.toList_toArray,w0,w1,w2,w3,w4,w5,Nat.zero_add,Nat.reduceAdd] at hh
     try simp only[List.toList_toArray,w0,w1,w2,w3,w4,w5,Nat.zero_add,Nat.reduceAdd] at hi
     have hi2:(c::L:List Coupon).length<(sL (Aa 44 ((sL (Aa 32 x.1)).getD 4 []))).length:=Int.ofNat_lt.1 hi
     exact absurd (hh.symm.trans (Ht (f:=Ef) hi2 (l:=r.coupons) (by rw[Dd,hsL,hc.1];exact hc.2.2.2.1.1) hc.2.2.2.1.2)) (by decide)
    rw[hz]<;>rfl)
   ·have hi:=‹(((c::L:List Coupon).length:Nat):Int)<_›
    try simp only[List.toList_toArray,w0,w1,w2,w3,w4,w5,Nat.zero_add,Nat.reduceAdd] at hi
    have hi2:(c::L:List Coupon).length<(sL (Aa 44 ((sL (Aa 32 x.1)).getD 4 []))).length:=Int.ofNat_lt.1 hi
    try simp only[List.toList_toArray,w0,w1,w2,w3,w4,w5,Nat.zero_add,Nat.reduceAdd] at hh
    have hh2:(Ef ((sL (Aa 44 ((sL (Aa 32 x.1)).getD 4 []))).getD (c::L:List Coupon).length [])).2=true:=hh
    have g1:=F6 q2 hi2
    have g2:=Lb (p:=fun w=>(Ef w).2) q3 hi2 hh2
    (conv=>whnf)
    refine⟨(((c::L:List Coupon)++[(Ef ((sL (Aa 44 ((sL (Aa 32 x.1)).getD 4 []))).getD (c::L:List Coupon).length [])).1]):List Coupon),[55],?_,⟨⟨rfl,(nB rfl),rfl⟩,?_,?_⟩⟩
    ·refine⟨⟨?_,?_,?_⟩,?_⟩<;>(try simp only[List.toList_toArray,w0,w1,w2,w3,w4,w5,Nat.zero_add,Nat.reduceAdd])
     ·show((c::L:List Coupon)++[(Ef ((sL (Aa 44 ((sL (Aa 32 x.1)).getD 4 []))).getD (c::L:List Coupon).length [])).1]).length≤(sL (Aa 44 ((sL (Aa 32 x.1)).getD 4 []))).length
      rw[List.length_append];exact hi2
     ·exact g1
     ·show ∀ w ∈ (sL (Aa 44 ((sL (Aa 32 x.1)).getD 4 []))).take ((c::L:List Coupon)++[(Ef ((sL (Aa 44 ((sL (Aa 32 x.1)).getD 4 []))).getD (c::L:List Coupon).length [])).1]).length,(Ef w).2=true
      rw[List.length_append];exact g2
     ·show(sL (Aa 44 _)).length - (_:List Coupon).length<(sL (Aa 44 _)).length - (_:List Coupon).length
      try simp only[List.toList_toArray,w0,w1,w2,w3,w4,w5,Nat.zero_add,Nat.reduceAdd]
      show(sL (Aa 44 ((sL (Aa 32 x.1)).getD 4 []))).length - ((c::L:List Coupon)++[(Ef ((sL (Aa 44 ((sL (Aa 32 x.1)).getD 4 []))).getD (c::L:List Coupon).length [])).1]).length<(sL (Aa 44 ((sL (Aa 32 x.1)).getD 4 []))).length - (c::L:List Coupon).length
      rw[List.length_append,List.length_singleton];omega
    ·(conv=>whnf)
     (repeat' ((first|with_reducible exact⟨⟩|((with_reducible refine aI ?_ ?_);focus (exact tA))|with_reducible refine iA ?_ ?_|fail)<;>(conv=>whnf)))
     all_goals (try simp only[wQ])
     all_goals (try first|exact⟨fun h=>h,fun _ _=>True.intro⟩)
     all_goals simp
    ·(conv=>whnf)
     (repeat' ((first|with_reducible exact⟨⟩|((with_reducible refine aI ?_ ?_);focus (exact tA))|with_reducible refine iA ?_ ?_|with_reducible refine iL ?_ ?_|with_reducible refine iB ?_ ?_|fail)<;>(conv=>whnf)))
     all_goals (try simp only[wQ])
     all_goals (try first|rfl)
     all_goals (try first|exact⟨by simp,Or.inl trivial⟩)
     all_goals try rfl
     all_goals try exact⟨rfl,True.intro,True.intro,by simp,Or.inl True.intro⟩
     exact⟨by simp,fun e he=>⟨Lc (enc:=Coupon.enc) (l:=(c::L:List Coupon)) rfl (fun _ _=>rfl) (by try simp only[List.toList_toArray,w0,w1,w2,w3,w4,w5,Nat.zero_add,Nat.reduceAdd];rfl) (by simpa using he),rfl⟩⟩
   ·have hx:=‹(_:Int)≤(((c::L:List Coupon).length:Nat):Int)›
    try simp only[List.toList_toArray,w0,w1,w2,w3,w4,w5,Nat.zero_add,Nat.reduceAdd] at hx
    have hx2: ¬(c::L).length<(sL (Aa 44 ((sL (Aa 32 x.1)).getD 4 []))).length:=Nat.not_lt.2 (Int.ofNat_le.1 hx)
    try simp only[List.toList_toArray,w0,w1,w2,w3,w4,w5,Nat.zero_add,Nat.reduceAdd] at hh
    have hdash:((sL (Aa 32 x.1)).getD 5 [])=[45]:=hh
    have hrd:∀ r,Ah r=true→Bu r=x.1→(⟨((sL (Aa 32 x.1)).getD 1 []),1,(Aj ((sL (Aa 32 x.1)).getD 2 [])).1,0,0,0,((sL (Aa 32 x.1)).getD 3 []),c::L,[],0,0,0⟩:Request)=r:=fun r hm hw=>by
     have hc:=hJ hm hw hk2
     have eL:c::L=r.coupons:=Mh q2 q1 hx2 (by rw[Dd,hsL,hc.1];exact hc.2.2.2.1.1) hc.2.2.2.1.2
     have eX:[]=r.taxes:=by
      rcases hc.2.2.2.2.1 with ⟨a,_⟩|⟨a,_⟩
      ·exact a.symm
      ·exact absurd (by have h:=hdash;rw[hsL,hc.1] at h;exact h) a
     refine Eq.trans ?_ hc.2.1.symm
     rw[←eL,←eX] at hc ⊢
     rw[hsL,hc.1];simp only[List.getD_cons_zero,List.getD_cons_succ,hc.2.2.1]
    refine⟨⟨by omega,fun e he=>rfl⟩,?_⟩
    refine⟨(⟨((sL (Aa 32 x.1)).getD 1 []),1,(Aj ((sL (Aa 32 x.1)).getD 2 [])).1,0,0,0,((sL (Aa 32 x.1)).getD 3 []),c::L,[],0,0,0⟩:Request),⟨Nat.le_trans q0 (by decide),Nat.zero_le _⟩,?_,?_⟩
    ·(conv=>whnf)
     (repeat' ((first|with_reducible exact⟨⟩|((with_reducible refine aI ?_ ?_);focus (exact tA))|with_reducible refine iA ?_ ?_|fail)<;>(conv=>whnf)))
     all_goals (try simp only[wQ])
     all_goals (try first|(refine⟨fun h=>h,fun e he=>?_⟩;rw[Nat.zero_add];done))
     all_goals (simp only[List.toList_toArray,w0,w1,w2,w3,w4,w5,Nat.zero_add,Nat.reduceAdd];rfl)
    (conv=>whnf)
    (repeat' ((first
     |with_reducible exact⟨⟩
     |((with_reducible refine aI ?_ ?_);focus (with_reducible rfl))
     |(conv=>arg 2;change ! (sB _);simp only[List.toList_toArray,Bd,r0,r1,r2,r3,r4,r5,w0,w1,w2,w3,w4,w5,Nat.zero_add,Nat.reduceAdd,List.length_cons,List.length_nil])
     |(split<;>rename_i hh<;>(try simp only[wS] at hh))
     |with_reducible refine iA ?_ ?_
     |fail)<;>(conv=>whnf)))
    all_goals try (
     have hz:x.2=(Ay,4):=by
      refine hfail fun r hm hw=>?_
      rw[hrd r hm hw,hm] at hh
      cases hh
     rw[hz]<;>rfl)
    refine⟨⟨by omega,fun e he=>rfl⟩,?_⟩
    refine⟨(⟨((sL (Aa 32 x.1)).getD 1 []),1,(Aj ((sL (Aa 32 x.1)).getD 2 [])).1,0,0,0,((sL (Aa 32 x.1)).getD 3 []),c::L,[],0,0,0⟩:Request),⟨Nat.le_trans q0 (by decide),Nat.zero_le _⟩,?_,?_⟩
    ·(conv=>whnf)
     (repeat' ((first|with_reducible exact⟨⟩|((with_reducible refine aI ?_ ?_);focus (exact tA))|with_reducible refine iA ?_ ?_|fail)<;>(conv=>whnf)))
     all_goals (try simp only[wQ])
     all_goals (try first|(refine⟨fun h=>h,fun e he=>?_⟩;rw[Nat.zero_add];done))
     all_goals (simp only[List.toList_toArray,w0,w1,w2,w3,w4,w5,Nat.zero_add,Nat.reduceAdd];rfl)
    (conv=>whnf)
    (repeat' ((first
     |with_reducible exact⟨⟩
     |((with_reducible refine aI ?_ ?_);focus (with_reducible rfl))
     |(split<;>rename_i hh<;>(try simp only[wS] at hh))
     |with_reducible refine iA ?_ ?_
     |fail)<;>(conv=>whnf)))
    all_goals try (
     have hz:x.2=(Ay,4):=by
      refine hfail fun r hm hw=>?_
      rw[hrd r hm hw] at hh
      exact hh hw
     rw[hz]<;>rfl)
    have hz:=hq.symm.trans (Fa (by assumption) (by assumption) hrd)
    refine⟨⟨by omega,fun e he=>rfl⟩,?_⟩
    rw[hz]
    (conv=>whnf)
    (repeat' ((first
     |with_reducible exact⟨⟩
     |((with_reducible refine aI ?_ ?_);focus (with_reducible rfl))
     |with_reducible refine iA ?_ ?_
     |fail)<;>(conv=>whnf)))
    all_goals (try (show _=_;simp only[wQ]))
    all_goals first|(simp only[List.toList_toArray,w0,w1,w2,w3,w4,w5,Nat.zero_add,Nat.reduceAdd];rfl)|rfl|exact⟨rfl,fun h=>h,fun _ _=>True.intro⟩|exact⟨rfl,fun h=>h,fun e _=>by simp only[Nat.zero_add]⟩
   ·have hx:=‹(_:Int)≤(((c::L:List Coupon).length:Nat):Int)›
    try simp only[List.toList_toArray,w0,w1,w2,w3,w4,w5,Nat.zero_add,Nat.reduceAdd] at hx
    have hx2: ¬(c::L).length<(sL (Aa 44 ((sL (Aa 32 x.1)).getD 4 []))).length:=Nat.not_lt.2 (Int.ofNat_le.1 hx)
    try simp only[List.toList_toArray,w0,w1,w2,w3,w4,w5,Nat.zero_add,Nat.reduceAdd] at hh
    have hdash: ¬((sL (Aa 32 x.1)).getD 5 [])=[45]:=hh
    refine⟨?_,fun(T:List Tax) hT=>?_⟩
    ·(conv=>whnf)
     refine⟨([]:List Tax),[],?_,⟨⟨rfl,(nB rfl),rfl⟩,?_,?_⟩⟩
     ·exact⟨Nat.zero_le _,rfl,fun w hw=>by cases hw⟩
     ·exact tL
     ·exact tL
    ·obtain⟨t1,t2,t3⟩:=hT
     try simp only[List.toList_toArray,w0,w1,w2,w3,w4,w5,Nat.zero_add,Nat.reduceAdd] at t1 t2 t3
     change T.length≤(sL (Aa 44 ((sL (Aa 32 x.1)).getD 5 []))).length at t1
     change T=((sL (Aa 44 ((sL (Aa 32 x.1)).getD 5 []))).take T.length).map (fun w=>(Dk w).1) at t2
     change ∀ w ∈ (sL (Aa 44 ((sL (Aa 32 x.1)).getD 5 []))).take T.length,(Dk w).2=true at t3
     rcases T with _|⟨t,T⟩
     ·(conv=>whnf)
      (repeat' ((first
       |with_reducible exact⟨⟩
       |((with_reducible refine aI ?_ ?_);focus (exact hm44 _ _))
       |(exact absurd (by with_reducible assumption) (hpot _))
       |((with_reducible refine aI ?_ ?_);focus (first|with_reducible exact⟨⟩|with_reducible rfl|omega|((with_reducible refine⟨?_,?_⟩)<;>first|with_reducible assumption|omega)|(simp only[Aq,ty2,ty3,ty4,ty5,ty9,Cw,Co,Cx,Cp,Cu,Cy,Cv,Cz,Bm,Bj,Bn,Bi,Bo,Bp,Bq];first|omega|(refine⟨?_,?_⟩<;>omega))|decide))
       |(conv=>arg 2;change ! (sB _);simp only[List.toList_toArray,Bd,r0,r1,r2,r3,r4,r5,w0,w1,w2,w3,w4,w5,Nat.zero_add,Nat.reduceAdd,List.length_cons,List.length_nil])
       |(split<;>rename_i hh<;>(try simp only[wS] at hh))
       |with_reducible refine iA ?_ ?_
       |fail)<;>(conv=>whnf)))
      all_goals try (
       have hz:x.2=(Ay,4):=by
        have hi:=‹((([]:List Tax).length:Nat):Int)<_›
        refine hfail fun r hm hw=>?_
        have hc:=hJ hm hw hk2
        try simp only[List.toList_toArray,w0,w1,w2,w3,w4,w5,Nat.zero_add,Nat.reduceAdd] at hh
        try simp only[List.toList_toArray,w0,w1,w2,w3,w4,w5,Nat.zero_add,Nat.reduceAdd] at hi
        have hi2:([]:List Tax).length<(sL (Aa 44 ((sL (Aa 32 x.1)).getD 5 []))).length:=Int.ofNat_lt.1 hi
        rcases hc.2.2.2.2.1 with ⟨a,a2⟩|⟨_,a1,a2⟩
        ·exact hdash (by rw[hsL,hc.1];exact a2)
        ·have hb:=Ht (f:=Dk) hi2 (l:=r.taxes) (by rw[Dd,hsL,hc.1];exact a1) a2
         unfold Dk at hb
         simp only[Bool.and_eq_true] at hb
         exact absurd (hh.symm.trans hb.1) (by decide)
       rw[hz]<;>rfl)
      all_goals try (
       have hz:x.2=(Ay,4):=by
        have hi:=‹((([]:List Tax).length:Nat):Int)<_›
        refine hfail fun r hm hw=>?_
        have hc:=hJ hm hw hk2
        try simp only[List.toList_toArray,w0,w1,w2,w3,w4,w5,Nat.zero_add,Nat.reduceAdd] at hh
        try simp only[List.toList_toArray,w0,w1,w2,w3,w4,w5,Nat.zero_add,Nat.reduceAdd] at hi
        have hi2:([]:List Tax).length<(sL (Aa 44 ((sL (Aa 32 x.1)).getD 5 []))).length:=Int.ofNat_lt.1 hi
        rcases hc.2.2.2.2.1 with ⟨a,a2⟩|⟨_,a1,a2⟩
        ·exact hdash (by rw[hsL,hc.1];exact a2)
        ·have hb:=Ht (f:=Dk) hi2 (l:=r.taxes) (by rw[Dd,hsL,hc.1];exact a1) a2
         unfold Dk at hb
         simp only[Bool.and_eq_true] at hb
         exact absurd (hh.symm.trans hb.2) (by decide)
       rw[hz]<;>rfl)
      ·have hi:=‹((([]:List Tax).length:Nat):Int)<_›
       try simp only[List.toList_toArray,w0,w1,w2,w3,w4,w5,Nat.zero_add,Nat.reduceAdd] at hi
       have hi2:([]:List Tax).length<(sL (Aa 44 ((sL (Aa 32 x.1)).getD 5 []))).length:=Int.ofNat_lt.1 hi
       have hp:=‹(Ea _).2.2=true›
       try simp only[List.toList_toArray,w0,w1,w2,w3,w4,w5,Nat.zero_add,Nat.reduceAdd] at hh
       try simp only[List.toList_toArray,w0,w1,w2,w3,w4,w5,Nat.zero_add,Nat.reduceAdd] at hp
       have hh2:(Dk ((sL (Aa 44 ((sL (Aa 32 x.1)).getD 5 []))).getD ([]:List Tax).length [])).2=true:=by
        unfold Dk;simp only[Bool.and_eq_true];exact⟨hp,hh⟩
       have g1:=F6 t2 hi2
       have g2:=Lb (p:=fun w=>(Dk w).2) t3 hi2 hh2
       (conv=>whnf)
       refine⟨((([]:List Tax)++[(Dk ((sL (Aa 44 ((sL (Aa 32 x.1)).getD 5 []))).getD ([]:List Tax).length [])).1]):List Tax),[64],?_,⟨⟨rfl,(nB rfl),rfl⟩,?_,?_⟩⟩
       ·refine⟨⟨?_,?_,?_⟩,?_⟩<;>(try simp only[List.toList_toArray,w0,w1,w2,w3,w4,w5,Nat.zero_add,Nat.reduceAdd])
        ·show(([]:List Tax)++[(Dk ((sL (Aa 44 ((sL (Aa 32 x.1)).getD 5 []))).getD ([]:List Tax).length [])).1]).length≤(sL (Aa 44 ((sL (Aa 32 x.1)).getD 5 []))).length
         rw[List.length_append];exact hi2
        ·exact g1
        ·show ∀ w ∈ (sL (Aa 44 ((sL (Aa 32 x.1)).getD 5 []))).take (([]:List Tax)++[(Dk ((sL (Aa 44 ((sL (Aa 32 x.1)).getD 5 []))).getD ([]:List Tax).length [])).1]).length,(Dk w).2=true
         rw[List.length_append];exact g2
        ·show(sL (Aa 44 _)).length - (_:List Tax).length<(sL (Aa 44 _)).length - (_:List Tax).length
         try simp only[List.toList_toArray,w0,w1,w2,w3,w4,w5,Nat.zero_add,Nat.reduceAdd]
         show(sL (Aa 44 ((sL (Aa 32 x.1)).getD 5 []))).length - (([]:List Tax)++[(Dk ((sL (Aa 44 ((sL (Aa 32 x.1)).getD 5 []))).getD ([]:List Tax).length [])).1]).length<(sL (Aa 44 ((sL (Aa 32 x.1)).getD 5 []))).length - ([]:List Tax).length
         rw[List.length_append,List.length_singleton];omega
       ·(conv=>whnf)
        (repeat' ((first|with_reducible exact⟨⟩|((with_reducible refine aI ?_ ?_);focus (exact tA))|with_reducible refine iA ?_ ?_|fail)<;>(conv=>whnf)))
        all_goals (try simp only[wQ])
        all_goals (try first|rfl|exact⟨fun h=>h,fun _ _=>True.intro⟩)
        all_goals simp
       ·(conv=>whnf)
        (repeat' ((first|with_reducible exact⟨⟩|((with_reducible refine Or.inr ?_);rfl)|((with_reducible refine aI ?_ ?_);focus (exact tA))|with_reducible refine iA ?_ ?_|with_reducible refine iL ?_ ?_|with_reducible refine iB ?_ ?_|fail)<;>(conv=>whnf)))
        all_goals (try simp only[wQ])
        all_goals (try first|rfl)
        all_goals (try first|exact fun _ _=>⟨True.intro,rfl⟩)
        all_goals try rfl
        all_goals try exact⟨rfl,True.intro,True.intro,by simp,Or.inl True.intro⟩
        intro e he
        have he:e<1:=he
        obtain rfl:e=0:=by omega
        refine⟨?_,rfl⟩
        try simp only[List.toList_toArray,w0,w1,w2,w3,w4,w5,Nat.zero_add,Nat.reduceAdd]
        unfold Dk
        rfl
     ·have t0:T.length+1≤1000001:=Nat.le_trans t1 (hb44 _)
      (conv=>whnf)
      (repeat' ((first
       |with_reducible exact⟨⟩
       |((with_reducible refine aI ?_ ?_);focus (exact hm44 _ _))
       |((with_reducible refine aI ?_ ?_);focus (first|with_reducible exact⟨⟩|((with_reducible refine⟨?_,?_,?_⟩)<;>first|(intro e he;rcases(by omega:e=0∨e=1∨e=2∨e=3∨e=4∨e=5) with rfl|rfl|rfl|rfl|rfl|rfl<;>first|rfl|(exfalso;omega))|(with_reducible assumption)|omega|((with_reducible show Aq _ _);simp only[Aq,ty2,ty3,ty4,ty5,ty9,Cw,Co,Cx,Cp,Cu,Cy,Cv,Cz,Bm,Bj,Bn,Bi,Bo,Bp,Bq,List.length_cons,List.length_nil];first|omega|(refine⟨?_,?_⟩<;>omega)))|with_reducible rfl|omega|((with_reducible refine⟨?_,?_⟩)<;>first|with_reducible assumption|omega)|(dsimp only at*;simp only[Am,Go.Vc.lo,Go.Vc.hi];omega)))
       |(conv=>arg 2;(first|change decide (_+Ai _ _<_)|change ! (sB _));simp only[List.toList_toArray,Bd,r0,r1,r2,r3,r4,r5,w0,w1,w2,w3,w4,w5,Nat.zero_add,Nat.reduceAdd,List.length_cons,List.length_nil])
       |(split<;>rename_i hh<;>(try simp only[wS] at hh))
       |with_reducible refine iA ?_ ?_
       |fail)<;>(conv=>whnf)))
      all_goals try (
       have hz:x.2=(Ay,4):=by
        have hi:=‹(((t::T:List Tax).length:Nat):Int)<_›
        refine hfail fun r hm hw=>?_
        have hc:=hJ hm hw hk2
        try simp only[List.toList_toArray,w0,w1,w2,w3,w4,w5,Nat.zero_add,Nat.reduceAdd] at hh
        try simp only[List.toList_toArray,w0,w1,w2,w3,w4,w5,Nat.zero_add,Nat.reduceAdd] at hi
        have hi2:(t::T:List Tax).length<(sL (Aa 44 ((sL (Aa 32 x.1)).getD 5 []))).length:=Int.ofNat_lt.1 hi
        rcases hc.2.2.2.2.1 with ⟨a,a2⟩|⟨_,a1,a2⟩
        ·exact hdash (by rw[hsL,hc.1];exact a2)
        ·have hb:=Ht (f:=Dk) hi2 (l:=r.taxes) (by rw[Dd,hsL,hc.1];exact a1) a2
         unfold Dk at hb
         simp only[Bool.and_eq_true] at hb
         exact absurd (hh.symm.trans hb.1) (by decide)
       rw[hz]<;>rfl)
      all_goals try (
       have hz:x.2=(Ay,4):=by
        have hi:=‹(((t::T:List Tax).length:Nat):Int)<_›
        refine hfail fun r hm hw=>?_
        have hc:=hJ hm hw hk2
        try simp only[List.toList_toArray,w0,w1,w2,w3,w4,w5,Nat.zero_add,Nat.reduceAdd] at hh
        try simp only[List.toList_toArray,w0,w1,w2,w3,w4,w5,Nat.zero_add,Nat.reduceAdd] at hi
        have hi2:(t::T:List Tax).length<(sL (Aa 44 ((sL (Aa 32 x.1)).getD 5 []))).length:=Int.ofNat_lt.1 hi
        rcases hc.2.2.2.2.1 with ⟨a,a2⟩|⟨_,a1,a2⟩
        ·exact hdash (by rw[hsL,hc.1];exact a2)
        ·have hb:=Ht (f:=Dk) hi2 (l:=r.taxes) (by rw[Dd,hsL,hc.1];exact a1) a2
         unfold Dk at hb
         simp only[Bool.and_eq_true] at hb
         exact absurd (hh.symm.trans hb.2) (by decide)
       rw[hz]<;>rfl)
      ·have hi:=‹(((t::T:List Tax).length:Nat):Int)<_›
       try simp only[List.toList_toArray,w0,w1,w2,w3,w4,w5,Nat.zero_add,Nat.reduceAdd] at hi
       have hi2:(t::T:List Tax).length<(sL (Aa 44 ((sL (Aa 32 x.1)).getD 5 []))).length:=Int.ofNat_lt.1 hi
       have hp:=‹(Ea _).2.2=true›
       try simp only[List.toList_toArray,w0,w1,w2,w3,w4,w5,Nat.zero_add,Nat.reduceAdd] at hh
       try simp only[List.toList_toArray,w0,w1,w2,w3,w4,w5,Nat.zero_add,Nat.reduceAdd] at hp
       have hh2:(Dk ((sL (Aa 44 ((sL (Aa 32 x.1)).getD 5 []))).getD (t::T:List Tax).length [])).2=true:=by
        unfold Dk;simp only[Bool.and_eq_true];exact⟨hp,hh⟩
       have g1:=F6 t2 hi2
       have g2:=Lb (p:=fun w=>(Dk w).2) t3 hi2 hh2
       (conv=>whnf)
       refine⟨(((t::T:List Tax)++[(Dk ((sL (Aa 44 ((sL (Aa 32 x.1)).getD 5 []))).getD (t::T:List Tax).length [])).1]):List Tax),[64],?_,⟨⟨rfl,(nB rfl),rfl⟩,?_,?_⟩⟩
       ·refine⟨⟨?_,?_,?_⟩,?_⟩<;>(try simp only[List.toList_toArray,w0,w1,w2,w3,w4,w5,Nat.zero_add,Nat.reduceAdd])
        ·show((t::T:List Tax)++[(Dk ((sL (Aa 44 ((sL (Aa 32 x.1)).getD 5 []))).getD (t::T:List Tax).length [])).1]).length≤(sL (Aa 44 ((sL (Aa 32 x.1)).getD 5 []))).length
         rw[List.length_append];exact hi2
        ·exact g1
        ·show ∀ w ∈ (sL (Aa 44 ((sL (Aa 32 x.1)).getD 5 []))).take ((t::T:List Tax)++[(Dk ((sL (Aa 44 ((sL (Aa 32 x.1)).getD 5 []))).getD (t::T:List Tax).length [])).1]).length,(Dk w).2=true
         rw[List.length_append];exact g2
        ·show(sL (Aa 44 _)).length - (_:List Tax).length<(sL (Aa 44 _)).length - (_:List Tax).length
         try simp only[List.toList_toArray,w0,w1,w2,w3,w4,w5,Nat.zero_add,Nat.reduceAdd]
         show(sL (Aa 44 ((sL (Aa 32 x.1)).getD 5 []))).length - ((t::T:List Tax)++[(Dk ((sL (Aa 44 ((sL (Aa 32 x.1)).getD 5 []))).getD (t::T:List Tax).length [])).1]).length<(sL (Aa 44 ((sL (Aa 32 x.1)).getD 5 []))).length - (t::T:List Tax).length
         rw[List.length_append,List.length_singleton];omega
       ·(conv=>whnf)
        (repeat' ((first|with_reducible exact⟨⟩|((with_reducible refine aI ?_ ?_);focus (exact tA))|with_reducible refine iA ?_ ?_|fail)<;>(conv=>whnf)))
        all_goals (try simp only[wQ])
        all_goals (try first|exact⟨fun h=>h,fun _ _=>True.intro⟩)
        all_goals simp
       ·(conv=>whnf)
        (repeat' ((first|with_reducible exact⟨⟩|((with_reducible refine Or.inr ?_);rfl)|((with_reducible refine aI ?_ ?_);focus (exact tA))|with_reducible refine iA ?_ ?_|with_reducible refine iL ?_ ?_|with_reducible refine iB ?_ ?_|fail)<;>(conv=>whnf)))
        all_goals (try simp only[wQ])
        all_goals (try first|rfl)
        all_goals (try first|exact fun _ _=>⟨True.intro,rfl⟩|exact⟨by simp,Or.inl trivial⟩)
        all_goals try rfl
        all_goals try exact⟨rfl,True.intro,True.intro,by simp,Or.inl True.intro⟩
        exact⟨by simp,fun e he=>⟨Lc (enc:=Tax.enc) (l:=(t::T:List Tax)) rfl (fun _ _=>rfl) (by try simp only[List.toList_toArray,w0,w1,w2,w3,w4,w5,Nat.zero_add,Nat.reduceAdd];unfold Dk;rfl) (by simpa using he),rfl⟩⟩
      ·have hy:=‹(_:Int)≤(((t::T:List Tax).length:Nat):Int)›
       try simp only[List.toList_toArray,w0,w1,w2,w3,w4,w5,Nat.zero_add,Nat.reduceAdd] at hy
       have hy2: ¬(t::T).length<(sL (Aa 44 ((sL (Aa 32 x.1)).getD 5 []))).length:=Nat.not_lt.2 (Int.ofNat_le.1 hy)
       have hrd:∀ r,Ah r=true→Bu r=x.1→(⟨((sL (Aa 32 x.1)).getD 1 []),1,(Aj ((sL (Aa 32 x.1)).getD 2 [])).1,0,0,0,((sL (Aa 32 x.1)).getD 3 []),c::L,t::T,0,0,0⟩:Request)=r:=fun r hm hw=>by
        have hc:=hJ hm hw hk2
        have eL:c::L=r.coupons:=Mh q2 q1 hx2 (by rw[Dd,hsL,hc.1];exact hc.2.2.2.1.1) hc.2.2.2.1.2
        have eX:t::T=r.taxes:=by
         rcases hc.2.2.2.2.1 with ⟨a,a2⟩|⟨_,a1,a2⟩
         ·exact absurd (by rw[hsL,hc.1];exact a2) hdash
         ·exact Mh t2 t1 hy2 (by rw[Dd,hsL,hc.1];exact a1) a2
        refine Eq.trans ?_ hc.2.1.symm
        rw[←eL,←eX] at hc ⊢
        rw[hsL,hc.1];simp only[List.getD_cons_zero,List.getD_cons_succ,hc.2.2.1]
       refine⟨⟨by omega,fun e he=>rfl⟩,?_⟩
       refine⟨⟨by omega,fun e he=>rfl⟩,?_⟩
       refine⟨(⟨((sL (Aa 32 x.1)).getD 1 []),1,(Aj ((sL (Aa 32 x.1)).getD 2 [])).1,0,0,0,((sL (Aa 32 x.1)).getD 3 []),c::L,t::T,0,0,0⟩:Request),⟨Nat.le_trans q0 (by decide),Nat.le_trans t0 (by decide)⟩,?_,?_⟩
       ·(conv=>whnf)
        (repeat' ((first|with_reducible exact⟨⟩|((with_reducible refine aI ?_ ?_);focus (exact tA))|with_reducible refine iA ?_ ?_|fail)<;>(conv=>whnf)))
        all_goals (try simp only[wQ])
        all_goals (try first|(refine⟨fun h=>h,fun e he=>?_⟩;rw[Nat.zero_add];done))
        all_goals (simp only[List.toList_toArray,w0,w1,w2,w3,w4,w5,Nat.zero_add,Nat.reduceAdd];rfl)
       (conv=>whnf)
       (repeat' ((first
        |with_reducible exact⟨⟩
        |((with_reducible refine aI ?_ ?_);focus (with_reducible rfl))
        |(conv=>arg 2;change ! (sB _);simp only[List.toList_toArray,Bd,r0,r1,r2,r3,r4,r5,w0,w1,w2,w3,w4,w5,Nat.zero_add,Nat.reduceAdd,List.length_cons,List.length_nil])
        |(split<;>rename_i hh<;>(try simp only[wS] at hh))
        |with_reducible refine iA ?_ ?_
        |fail)<;>(conv=>whnf)))
       all_goals try (
        have hz:x.2=(Ay,4):=by
         refine hfail fun r hm hw=>?_
         rw[hrd r hm hw,hm] at hh
         cases hh
        rw[hz]<;>rfl)
       refine⟨⟨by omega,fun e he=>rfl⟩,?_⟩
       refine⟨⟨by omega,fun e he=>rfl⟩,?_⟩
       refine⟨(⟨((sL (Aa 32 x.1)).getD 1 []),1,(Aj ((sL (Aa 32 x.1)).getD 2 [])).1,0,0,0,((sL (Aa 32 x.1)).getD 3 []),c::L,t::T,0,0,0⟩:Request),⟨Nat.le_trans q0 (by decide),Nat.le_trans t0 (by decide)⟩,?_,?_⟩
       ·(conv=>whnf)
        (repeat' ((first|with_reducible exact⟨⟩|((with_reducible refine aI ?_ ?_);focus (exact tA))|with_reducible refine iA ?_ ?_|fail)<;>(conv=>whnf)))
        all_goals (try simp only[wQ])
        all_goals (try first|(refine⟨fun h=>h,fun e he=>?_⟩;rw[Nat.zero_add];done))
        all_goals (simp only[List.toList_toArray,w0,w1,w2,w3,w4,w5,Nat.zero_add,Nat.reduceAdd];rfl)
       (conv=>whnf)
       (repeat' ((first
        |with_reducible exact⟨⟩
        |((with_reducible refine aI ?_ ?_);focus (with_reducible rfl))
        |(split<;>rename_i hh<;>(try simp only[wS] at hh))
        |with_reducible refine iA ?_ ?_
        |fail)<;>(conv=>whnf)))
       all_goals try (
        have hz:x.2=(Ay,4):=by
         refine hfail fun r hm hw=>?_
         rw[hrd r hm hw] at hh
         exact hh hw
        rw[hz]<;>rfl)
       have hz:=hq.symm.trans (Fa (by assumption) (by assumption) hrd)
       refine⟨⟨by omega,fun e he=>rfl⟩,?_⟩
       refine⟨⟨by omega,fun e he=>rfl⟩,?_⟩
       rw[hz]
       (conv=>whnf)
       (repeat' ((first
        |with_reducible exact⟨⟩
        |((with_reducible refine aI ?_ ?_);focus (with_reducible rfl))
        |with_reducible refine iA ?_ ?_
        |fail)<;>(conv=>whnf)))
       all_goals (try (show _=_;simp only[wQ]))
       all_goals first|(simp only[List.toList_toArray,w0,w1,w2,w3,w4,w5,Nat.zero_add,Nat.reduceAdd];rfl)|rfl|exact⟨rfl,fun h=>h,fun _ _=>True.intro⟩|exact⟨rfl,fun h=>h,fun e _=>by simp only[Nat.zero_add]⟩
end
end Go.Vc.Z
