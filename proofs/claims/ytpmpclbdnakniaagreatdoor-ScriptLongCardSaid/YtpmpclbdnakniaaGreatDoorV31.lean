/- script.RequestOf: the request of a line, the program's. -/
import Derived.Test.YtpmpclbdnakniaaGreatDoorV22
import Derived.Test.YtpmpclbdnakniaaGreatDoorV27
import Derived.Test.YtpmpclbdnakniaaGreatDoorV28
set_option linter.all false
set_option linter.unusedVariables false
set_option linter.unusedSimpArgs false
namespace Go.Vc.Z
open Go Go.Vc Go.Proofs Go.RowKit Go.Pl Go.Lib
noncomputable section
set_option maxRecDepth 100000
attribute [local irreducible] inK Utf8.decode Utf8.encode Lib.itoa Pl.worth Pl.allDig
attribute [local irreducible] Lib.join Br Aa
def wF:PC:=PC.of (fun x:List UInt8 × Int=>[.str x.1]) (fun x=>kindOf x.1=x.2) (fun x=>.int .i64 x.2)
theorem Agh{W:World}(hW:Tabs W):GoodP (Fw W) Tryz.prog 79 wF:=by
 refine(dD hW).imp fun cs Q h=>?_
 obtain⟨⟨s,k⟩,h1,h2,h3⟩:=h
 have h1:kindOf s=k:=h1
 subst h1
 have hcs:cs=[.str s]:=by
  match cs,h2 with
  |[c],h2=>
   have h4:leA (fun i=>i) c (.str s):=h2.1
   cases c with
   |str t=>have h5:t=s:=h4;rw[h5]
   |_=>exact h4.elim
 subst hcs
 show True∧Q _
 rw[Cs]
 exact⟨trivial,h3⟩
def Avy(l:List Coupon):Blk:=match l with
 |[]=>.dead
 |c::l=>.row 6 (l.length+1) (fun e=>((c::l).getD e default).enc)
def Avz(id:Nat):List Coupon→AV
 |[]=>.nilsl
 |_::l=>.osl id 6 0 (l.length+1) none
def Av0(l:List Tax):Blk:=match l with
 |[]=>.dead
 |c::l=>.row 2 (l.length+1) (fun e=>((c::l).getD e default).enc)
def Av1(id:Nat):List Tax→AV
 |[]=>.nilsl
 |_::l=>.osl id 2 0 (l.length+1) none
def Anb(p:Nat)(s:List UInt8)(H:List Blk):LoopSpec:={
 α:=List Coupon
 keep:=[0,10,11,12]
 vals L:=[.ptr p 0,slS (sL (Aa 44 s)),.int .i64 (sL (Aa 44 s)).length,.int .i64 L.length]
 heap L:=setCell H p 7 (Avz H.length L)++[Avy L]
 ok L:=L.length≤(sL (Aa 44 s)).length∧L=((sL (Aa 44 s)).take L.length).map (fun w=>(Ed w).1)∧∀ w ∈ (sL (Aa 44 s)).take L.length,(Ed w).2=true
 μ L:=(sL (Aa 44 s)).length - L.length }
def Av2(cs:List AV)(H:List Blk):LoopSpec:=match cs with
 |[.ptr p _,.str s]=>Anb p s H
 |_=>Anb 0 [] H
def Ane(p:Nat)(s:List UInt8)(H:List Blk):LoopSpec:={
 α:=List Tax
 keep:=[0,15,16,17]
 vals L:=[.ptr p 0,slS (sL (Aa 44 s)),.int .i64 (sL (Aa 44 s)).length,.int .i64 L.length]
 heap L:=setCell H p 8 (Av1 H.length L)++[Av0 L]
 ok L:=L.length≤(sL (Aa 44 s)).length∧L=((sL (Aa 44 s)).take L.length).map (fun w=>(Df w).1)∧∀ w ∈ (sL (Aa 44 s)).take L.length,(Df w).2=true
 μ L:=(sL (Aa 44 s)).length - L.length }
def Av3(cs:List AV)(H:List Blk):LoopSpec:=match cs with
 |[.ptr p _,.str s]=>Ane p s H
 |_=>Ane 0 [] H
def Agi:PC:=PC.of (fun x:List UInt8 × Request × Int=>[.str x.1]) (fun x=>Qc x.1=x.2∧x.1.length≤1000000∧(kindOf ((Aa 32 x.1).getD 0 [])≠1∧kindOf ((Aa 32 x.1).getD 0 [])≠5)) (fun x=>.tup [.agg x.2.1.enc,.int .i64 x.2.2])
def Bo:PT:=D1 [(24,P4),(71,Zp),(78,pS),(79,wF),(93,Pw),(153,Am0),(156,Ana),(159,aT),(223,Agd),(224,zC)]
theorem Dg{W:World}(hW:Tabs W):Dj (Fw W) Tryz.prog Bo:=(Ae Tryz.call24 (Um hW) (Ae Tryz.call71 (Si hW) (Ae Tryz.call78 (Ac9 hW) (Ae Tryz.call79 (Agh hW) (Ae Tryz.call93 (F0 hW) (Ae Tryz.call153 (rQ hW) (Ae Tryz.call156 (wB hW) (Ae Tryz.call159 (mO hW) (Ae Tryz.call223 (Sw hW) (Ae Tryz.call224 (Qo hW) A6))))))))))
def wG:FuncId→Option Ctr:=Av Bo []
theorem wH{W:World}(hW:Tabs W):Ad (Fw W) Tryz.prog wG:=(A7 (Dg hW))
def mQ:List (FuncId × Ctr):=(74,inl TY wG Bo (fun _=>false) (fun _ _ _=>none) Tryz.f74)::[]
def mR:FuncId→Option Ctr:=Av Bo mQ
theorem mS{W:World}(hW:Tabs W):Ad (Fw W) Tryz.prog mR:=Ab Tryz.call74 (Af rfl Aq (Dg hW) (wH hW) Tryz.func74 (fun _ _ _=>none)) (wH hW)
def mT:List (FuncId × Ctr):=(144,inl TY mR Bo (fun _=>false) (fun _ _ _=>none) Tryz.f144)::mQ
def mU:FuncId→Option Ctr:=Av Bo mT
theorem mV{W:World}(hW:Tabs W):Ad (Fw W) Tryz.prog mU:=Ab Tryz.call144 (Af rfl Aq (Dg hW) (mS hW) Tryz.func144 (fun _ _ _=>none)) (mS hW)
def mW:List (FuncId × Ctr):=(145,inl TY mU Bo (fun _=>false) (fun _ _ _=>none) Tryz.f145)::mT
def mX:FuncId→Option Ctr:=Av Bo mW
theorem mY{W:World}(hW:Tabs W):Ad (Fw W) Tryz.prog mX:=Ab Tryz.call145 (Af rfl Aq (Dg hW) (mV hW) Tryz.func145 (fun _ _ _=>none)) (mV hW)
def mZ:List (FuncId × Ctr):=(147,inl TY mX Bo (fun _=>false) (fun _ _ _=>none) Tryz.f147)::mW
def nA:FuncId→Option Ctr:=Av Bo mZ
theorem nC{W:World}(hW:Tabs W):Ad (Fw W) Tryz.prog nA:=Ab Tryz.call147 (Af rfl Aq (Dg hW) (mY hW) Tryz.func147 (fun _ _ _=>none)) (mY hW)
def nD:List (FuncId × Ctr):=(148,inl TY nA Bo (fun _=>false) (fun _ _ _=>none) Tryz.f148)::mZ
def nE:FuncId→Option Ctr:=Av Bo nD
theorem nF{W:World}(hW:Tabs W):Ad (Fw W) Tryz.prog nE:=Ab Tryz.call148 (Af rfl Aq (Dg hW) (nC hW) Tryz.func148 (fun _ _ _=>none)) (nC hW)
def nG:List (FuncId × Ctr):=(149,inl TY nE Bo (fun _=>false) (fun _ _ _=>none) Tryz.f149)::nD
def nH:FuncId→Option Ctr:=Av Bo nG
theorem nI{W:World}(hW:Tabs W):Ad (Fw W) Tryz.prog nH:=Ab Tryz.call149 (Af rfl Aq (Dg hW) (nF hW) Tryz.func149 (fun _ _ _=>none)) (nF hW)
def nJ:List (FuncId × Ctr):=(150,inl TY nH Bo (fun _=>false) (fun _ _ _=>none) Tryz.f150)::nG
def nK:FuncId→Option Ctr:=Av Bo nJ
theorem nL{W:World}(hW:Tabs W):Ad (Fw W) Tryz.prog nK:=Ab Tryz.call150 (Af rfl Aq (Dg hW) (nI hW) Tryz.func150 (fun _ _ _=>none)) (nI hW)
def nM:List (FuncId × Ctr):=(152,inl TY nK Bo (fun _=>false) (fun _ _ _=>none) Tryz.f152)::nJ
def nN:FuncId→Option Ctr:=Av Bo nM
theorem nO{W:World}(hW:Tabs W):Ad (Fw W) Tryz.prog nN:=Ab Tryz.call152 (Af rfl Aq (Dg hW) (nL hW) Tryz.func152 (fun _ _ _=>none)) (nL hW)
def nP:List (FuncId × Ctr):=(155,inl TY nN Bo (fun _=>false) (fun _ _ _=>none) Tryz.f155)::nM
def nQ:FuncId→Option Ctr:=Av Bo nP
theorem nR{W:World}(hW:Tabs W):Ad (Fw W) Tryz.prog nQ:=Ab Tryz.call155 (Af rfl Aq (Dg hW) (nO hW) Tryz.func155 (fun _ _ _=>none)) (nO hW)
def bC:List (FuncId × Ctr):=(158,inl TY nQ Bo (fun _=>false) (fun _ _ _=>none) Tryz.f158)::nP
def bD:FuncId→Option Ctr:=Av Bo bC
theorem bE{W:World}(hW:Tabs W):Ad (Fw W) Tryz.prog bD:=Ab Tryz.call158 (Af rfl Aq (Dg hW) (nR hW) Tryz.func158 (fun _ _ _=>none)) (nR hW)
def bF:List (FuncId × Ctr):=(217,inl TY bD Bo (fun _=>false) (fun _ _ _=>none) Tryz.f217)::bC
def bG:FuncId→Option Ctr:=Av Bo bF
theorem bH{W:World}(hW:Tabs W):Ad (Fw W) Tryz.prog bG:=Ab Tryz.call217 (Af rfl Aq (Dg hW) (bE hW) Tryz.func217 (fun _ _ _=>none)) (bE hW)
def bI:List (FuncId × Ctr):=(219,inl TY bG Bo (fun _=>false) (fun _ _ _=>none) Tryz.f219)::bF
def bJ:FuncId→Option Ctr:=Av Bo bI
theorem bK{W:World}(hW:Tabs W):Ad (Fw W) Tryz.prog bJ:=Ab Tryz.call219 (Af rfl Aq (Dg hW) (bH hW) Tryz.func219 (fun _ _ _=>none)) (bH hW)
def bL:List (FuncId × Ctr):=(143,inl TY bJ Bo (fun _=>false) (fun _ _ _=>none) Tryz.f143)::bI
def bM:FuncId→Option Ctr:=Av Bo bL
theorem bN{W:World}(hW:Tabs W):Ad (Fw W) Tryz.prog bM:=Ab Tryz.call143 (Af rfl Aq (Dg hW) (bK hW) Tryz.func143 (fun _ _ _=>none)) (bK hW)
def bO:List (FuncId × Ctr):=(146,inl TY bM Bo (fun _=>false) (fun _ _ _=>none) Tryz.f146)::bL
def bP:FuncId→Option Ctr:=Av Bo bO
theorem bQ{W:World}(hW:Tabs W):Ad (Fw W) Tryz.prog bP:=Ab Tryz.call146 (Af rfl Aq (Dg hW) (bN hW) Tryz.func146 (fun _ _ _=>none)) (bN hW)
def V7:List AV→List Blk→Nat→Option LR:=fun cs H i=>cond (Nat.beq i 7) (some (.order [0,1,2,3,4,5,6,7,8,9,10])) ((fun cs H i=>cond (Nat.beq i 2) (some (.inv (Av2 cs H))) none) cs H i)
def bR:List (FuncId × Ctr):=(161,inl TY bP Bo (fun _=>false) (V7) Tryz.f161)::bO
def bS:FuncId→Option Ctr:=Av Bo bR
theorem bT{W:World}(hW:Tabs W):Ad (Fw W) Tryz.prog bS:=Ab Tryz.call161 (Af rfl Aq (Dg hW) (bQ hW) Tryz.func161 (V7)) (bQ hW)
def V8:List AV→List Blk→Nat→Option LR:=fun cs H i=>cond (Nat.beq i 4) (some (.inv (Av3 cs H))) none
def bU:List (FuncId × Ctr):=(163,inl TY bS Bo (fun _=>false) (V8) Tryz.f163)::bR
def bV:FuncId→Option Ctr:=Av Bo bU
theorem bW{W:World}(hW:Tabs W):Ad (Fw W) Tryz.prog bV:=Ab Tryz.call163 (Af rfl Aq (Dg hW) (bT hW) Tryz.func163 (V8)) (bT hW)
def zD:List (FuncId × Ctr):=(72,inl TY bV Bo (fun _=>false) (fun _ _ _=>none) Tryz.f72)::bU
def G0:FuncId→Option Ctr:=Av Bo zD
theorem Ri{W:World}(hW:Tabs W):Ad (Fw W) Tryz.prog G0:=Ab Tryz.call72 (Af rfl Aq (Dg hW) (bW hW) Tryz.func72 (fun _ _ _=>none)) (bW hW)
def Agj:List UInt8 × Request × Int→Nat→Option LR:=fun x i=>cond (Nat.beq i 8) (some (.unroll 7)) (none)
set_option maxHeartbeats 4000000 in
theorem Agk{W:World}(hW:Tabs W):GoodP (Fw W) Tryz.prog 26 Agi:=by
 have hD:=Dg hW
 have hC0:∀ x:List UInt8 × Request × Int,Ad (Fw W) Tryz.prog G0:=fun x=>(Ri hW)
 refine Ax (D:=Bo) (C:=fun x=>G0) (wr:=(fun _=>false)) rfl Aq hD hC0 Tryz.func26 (Agj) (fun _=>rfl) ?_
 intro x hf hp
 clear hf
 obtain⟨hq,hs,hn1,hn5⟩:=hp
 have hcut:=Li 32 x.1
 have hlen1:=Gp 32 x.1
 have hsL:=Ds (Aa 32 x.1)
 have hl1:1≤(sL (Aa 32 x.1)).length:=by rw[hsL];exact hlen1
 have hmem:∀ i,((sL (Aa 32 x.1)).getD i []).length≤1000000:=fun i=>by
  rw[hsL,List.getD_eq_getElem?_getD]
  cases h:(Aa 32 x.1)[i]? with
  |none=>simp
  |some w=>have:=(Ms x.1 w (List.mem_of_getElem? h)).1;simp;omega
 have hfail:(∀ r,Ah r=true→Bq r=x.1→False)→x.2=(As,4):=fun h=>by rw[←hq];exact Xa h
 rw[←hsL] at hn1 hn5
 rcases(Sx ((sL (Aa 32 x.1)).getD (Int.toNat 0) [])) with hk|hk|hk|hk|hk|hk|hk|hk|hk|hk|hk
 ·have hk2:kindOf ((Aa 32 x.1).getD 0 [])=0:=by rw[hsL] at hk;exact hk
  have hno:x.2=(As,4):=hfail fun r hm hw=>by
   have h1:=Gu hm hw hk2
   rcases Fh hm with h|h|h|h|h|h|h|h|h|h<;>omega
  obtain⟨r0,w0⟩:=Ao (l:=[70,85]) 0 (by decide) (by decide)
  obtain⟨r1,w1⟩:=Ao (l:=[70,85]) 1 (by decide) (by decide)
  have r2:=True.intro
  have w2:=True.intro
  have r3:=True.intro
  have w3:=True.intro
  have r4:=True.intro
  have w4:=True.intro
  have r5:=True.intro
  have w5:=True.intro
  have v0:Ai (⟨#[70,85]⟩:ByteArray).data.toList 0=1:=w0
  have v1:Ai (⟨#[70,85]⟩:ByteArray).data.toList (0+Ai (⟨#[70,85]⟩:ByteArray).data.toList 0)=1:=by rw[v0];exact w1
  have hrow:(([70,85]:List UInt8).length:Int)=2:=rfl
  (conv=>whnf)
  (repeat' ((first
   |((with_reducible refine aI ?_ ?_);focus (omega))
   |fail)<;>(conv=>whnf)))
  refine⟨(((sL (Aa 32 x.1)).getD (Int.toNat 0) [],(0:Int)):List UInt8 × Int),hk,?_,?_⟩
  ·exact Aj _
  (conv=>whnf)
  (repeat' ((first
   |with_reducible exact⟨⟩
   |(with_reducible refine Ac ?_)
   |((with_reducible refine aI ?_ ?_);focus (first|with_reducible exact⟨⟩|exact tO|with_reducible rfl|omega|exact tK))
   |(conv=>arg 2;(first|change eqI (Bb _ _) _|change decide (_+Ai _ _<_)|change ! (sB _));simp only[List.toList_toArray,A9,r0,r1,r2,r3,r4,r5,w0,w1,w2,w3,w4,w5,Nat.zero_add,Nat.reduceAdd,List.length_cons,List.length_nil])
   |(split<;>rename_i hh<;>(try simp only[wS] at hh))
   |with_reducible refine lnI fun hln=>?_
   |with_reducible refine iA ?_ ?_
   |fail)<;>(conv=>whnf)))
  all_goals try (rw[hno]<;>rfl)
  refine⟨(⟨[],0,0,0,0,0,[],[],[],0,(An ((sL (Aa 32 x.1)).getD 1 [])).1,(An ((sL (Aa 32 x.1)).getD 2 [])).1⟩:Request),⟨Nat.zero_le _,Nat.zero_le _⟩,?_,?_⟩
  ·(conv=>whnf)
   (repeat' ((first|with_reducible exact⟨⟩|((with_reducible refine aI ?_ ?_);focus (exact tA))|with_reducible refine iA ?_ ?_|fail)<;>(conv=>whnf)))
   all_goals (try simp only[wQ])
   all_goals (try first|rfl)
   all_goals (simp only[w0,w1,w2,w3,w4,w5,Nat.zero_add,Nat.reduceAdd];rfl)
  (conv=>whnf)
  (repeat' ((first
   |with_reducible exact⟨⟩
   |((with_reducible refine aI ?_ ?_);focus (with_reducible rfl))
   |(conv=>arg 2;change ! (sB _);simp only[List.toList_toArray,A9,r0,r1,r2,r3,r4,r5,w0,w1,w2,w3,w4,w5,Nat.zero_add,Nat.reduceAdd,List.length_cons,List.length_nil])
   |(split<;>rename_i hh<;>(try simp only[wS] at hh))
   |with_reducible refine iA ?_ ?_
   |fail)<;>(conv=>whnf)))
  all_goals first|(rw[hno]<;>rfl)|(exfalso;rw[Uc (show¬(1≤(0:Int)∧(0:Int)≤10) by decide)] at hh;cases hh)
 ·exact absurd hk hn1
 ·have hk2:kindOf ((Aa 32 x.1).getD 0 [])=2:=by rw[hsL] at hk;exact hk
  have hrd:∀ r,Ah r=true→Bq r=x.1→(⟨((sL (Aa 32 x.1)).getD 1 []),2,(An ((sL (Aa 32 x.1)).getD 2 [])).1,(numOf ((sL (Aa 32 x.1)).getD 3 [])).1,(An ((sL (Aa 32 x.1)).getD 4 [])).1,(statOf ((sL (Aa 32 x.1)).getD 5 [])),[],[],[],0,0,0⟩:Request)=r:=fun r hm hw=>by
   have hc:=Ai5 hm hw hk2
   rw[hsL,hc.1];simp only[List.getD_cons_zero,List.getD_cons_succ,hc.2.2.1,hc.2.2.2.1,hc.2.2.2.2.1,hc.2.2.2.2.2.1.1];exact hc.2.1.symm
  obtain⟨r0,w0⟩:=Ao (l:=[75,68,84,78,83]) 0 (by decide) (by decide)
  obtain⟨r1,w1⟩:=Ao (l:=[75,68,84,78,83]) 1 (by decide) (by decide)
  obtain⟨r2,w2⟩:=Ao (l:=[75,68,84,78,83]) 2 (by decide) (by decide)
  obtain⟨r3,w3⟩:=Ao (l:=[75,68,84,78,83]) 3 (by decide) (by decide)
  obtain⟨r4,w4⟩:=Ao (l:=[75,68,84,78,83]) 4 (by decide) (by decide)
  have r5:=True.intro
  have w5:=True.intro
  have v0:Ai (⟨#[75,68,84,78,83]⟩:ByteArray).data.toList 0=1:=w0
  have v1:Ai (⟨#[75,68,84,78,83]⟩:ByteArray).data.toList (0+Ai (⟨#[75,68,84,78,83]⟩:ByteArray).data.toList 0)=1:=by rw[v0];exact w1
  have v2:Ai (⟨#[75,68,84,78,83]⟩:ByteArray).data.toList ((0+Ai (⟨#[75,68,84,78,83]⟩:ByteArray).data.toList 0)+Ai (⟨#[75,68,84,78,83]⟩:ByteArray).data.toList (0+Ai (⟨#[75,68,84,78,83]⟩:ByteArray).data.toList 0))=1:=by rw[v1,v0];exact w2
  have v3:Ai (⟨#[75,68,84,78,83]⟩:ByteArray).data.toList (((0+Ai (⟨#[75,68,84,78,83]⟩:ByteArray).data.toList 0)+Ai (⟨#[75,68,84,78,83]⟩:ByteArray).data.toList (0+Ai (⟨#[75,68,84,78,83]⟩:ByteArray).data.toList 0))+Ai (⟨#[75,68,84,78,83]⟩:ByteArray).data.toList ((0+Ai (⟨#[75,68,84,78,83]⟩:ByteArray).data.toList 0)+Ai (⟨#[75,68,84,78,83]⟩:ByteArray).data.toList (0+Ai (⟨#[75,68,84,78,83]⟩:ByteArray).data.toList 0)))=1:=by rw[v2,v1,v0];exact w3
  have v4:Ai (⟨#[75,68,84,78,83]⟩:ByteArray).data.toList ((((0+Ai (⟨#[75,68,84,78,83]⟩:ByteArray).data.toList 0)+Ai (⟨#[75,68,84,78,83]⟩:ByteArray).data.toList (0+Ai (⟨#[75,68,84,78,83]⟩:ByteArray).data.toList 0))+Ai (⟨#[75,68,84,78,83]⟩:ByteArray).data.toList ((0+Ai (⟨#[75,68,84,78,83]⟩:ByteArray).data.toList 0)+Ai (⟨#[75,68,84,78,83]⟩:ByteArray).data.toList (0+Ai (⟨#[75,68,84,78,83]⟩:ByteArray).data.toList 0)))+Ai (⟨#[75,68,84,78,83]⟩:ByteArray).data.toList (((0+Ai (⟨#[75,68,84,78,83]⟩:ByteArray).data.toList 0)+Ai (⟨#[75,68,84,78,83]⟩:ByteArray).data.toList (0+Ai (⟨#[75,68,84,78,83]⟩:ByteArray).data.toList 0))+Ai (⟨#[75,68,84,78,83]⟩:ByteArray).data.toList ((0+Ai (⟨#[75,68,84,78,83]⟩:ByteArray).data.toList 0)+Ai (⟨#[75,68,84,78,83]⟩:ByteArray).data.toList (0+Ai (⟨#[75,68,84,78,83]⟩:ByteArray).data.toList 0))))=1:=by rw[v3,v2,v1,v0];exact w4
  have hrow:(([75,68,84,78,83]:List UInt8).length:Int)=5:=rfl
  (conv=>whnf)
  (repeat' ((first
   |((with_reducible refine aI ?_ ?_);focus (omega))
   |fail)<;>(conv=>whnf)))
  refine⟨(((sL (Aa 32 x.1)).getD (Int.toNat 0) [],(2:Int)):List UInt8 × Int),hk,?_,?_⟩
  ·exact Aj _
  (conv=>whnf)
  (repeat' ((first
   |with_reducible exact⟨⟩
   |(with_reducible refine Ac ?_)
   |((with_reducible refine aI ?_ ?_);focus (first|with_reducible exact⟨⟩|exact tO|with_reducible rfl|omega|exact tK|(dsimp only at*;simp only[Ar,Go.Vc.lo,Go.Vc.hi];omega)))
   |(conv=>arg 2;(first|change eqI (Bb _ _) _|change decide (_+Ai _ _<_)|change ! (sB _));simp only[List.toList_toArray,A9,r0,r1,r2,r3,r4,r5,w0,w1,w2,w3,w4,w5,Nat.zero_add,Nat.reduceAdd,List.length_cons,List.length_nil])
   |(split<;>rename_i hh<;>(try simp only[wS] at hh))
   |with_reducible refine lnI fun hln=>?_
   |with_reducible refine iA ?_ ?_
   |fail)<;>(conv=>whnf)))
  all_goals try (
   have hz:x.2=(As,4):=by
    refine hfail fun r hm hw=>?_
    have hc:=Ai5 hm hw hk2
    try simp only[List.toList_toArray,w0,w1,w2,w3,w4,w5,Nat.zero_add,Nat.reduceAdd] at hh
    rw[hsL,hc.1] at hh
    first|exact hh rfl|(cases hh.symm.trans (congrArg Prod.snd hc.2.2.1))|(exact absurd (congrArg Prod.snd hc.2.2.2.1) hh)|(cases hh.symm.trans (congrArg Prod.snd hc.2.2.2.2.1))|(exact hh ((aS (Do r.status)).elim (fun h=>absurd (hc.2.2.2.2.2.1.1.symm.trans h.1) hc.2.2.2.2.2.1.2) (fun h=>h.2)))
   rw[hz]<;>rfl)
  refine⟨(⟨((sL (Aa 32 x.1)).getD 1 []),2,(An ((sL (Aa 32 x.1)).getD 2 [])).1,(numOf ((sL (Aa 32 x.1)).getD 3 [])).1,(An ((sL (Aa 32 x.1)).getD 4 [])).1,(statOf ((sL (Aa 32 x.1)).getD 5 [])),[],[],[],0,0,0⟩:Request),⟨Nat.zero_le _,Nat.zero_le _⟩,?_,?_⟩
  ·(conv=>whnf)
   (repeat' ((first|with_reducible exact⟨⟩|((with_reducible refine aI ?_ ?_);focus (exact tA))|with_reducible refine iA ?_ ?_|fail)<;>(conv=>whnf)))
   all_goals (try simp only[wQ])
   all_goals (simp only[w0,w1,w2,w3,w4,w5,Nat.zero_add,Nat.reduceAdd];rfl)
  (conv=>whnf)
  (repeat' ((first
   |with_reducible exact⟨⟩
   |((with_reducible refine aI ?_ ?_);focus (with_reducible rfl))
   |(conv=>arg 2;change ! (sB _);simp only[List.toList_toArray,A9,r0,r1,r2,r3,r4,r5,w0,w1,w2,w3,w4,w5,Nat.zero_add,Nat.reduceAdd,List.length_cons,List.length_nil])
   |(split<;>rename_i hh<;>(try simp only[wS] at hh))
   |with_reducible refine iA ?_ ?_
   |fail)<;>(conv=>whnf)))
  all_goals try (
   have hz:x.2=(As,4):=by
    refine hfail fun r hm hw=>?_
    rw[hrd r hm hw,hm] at hh
    cases hh
   rw[hz]<;>rfl)
  refine⟨(⟨((sL (Aa 32 x.1)).getD 1 []),2,(An ((sL (Aa 32 x.1)).getD 2 [])).1,(numOf ((sL (Aa 32 x.1)).getD 3 [])).1,(An ((sL (Aa 32 x.1)).getD 4 [])).1,(statOf ((sL (Aa 32 x.1)).getD 5 [])),[],[],[],0,0,0⟩:Request),⟨Nat.zero_le _,Nat.zero_le _⟩,?_,?_⟩
  ·(conv=>whnf)
   (repeat' ((first|with_reducible exact⟨⟩|((with_reducible refine aI ?_ ?_);focus (exact tA))|with_reducible refine iA ?_ ?_|fail)<;>(conv=>whnf)))
   all_goals (try simp only[wQ])
   all_goals (simp only[w0,w1,w2,w3,w4,w5,Nat.zero_add,Nat.reduceAdd];rfl)
  (conv=>whnf)
  (repeat' ((first
   |with_reducible exact⟨⟩
   |((with_reducible refine aI ?_ ?_);focus (with_reducible rfl))
   |(split<;>rename_i hh<;>(try simp only[wS] at hh))
   |with_reducible refine iA ?_ ?_
   |fail)<;>(conv=>whnf)))
  all_goals (try (show _=_;simp only[wQ]))
  all_goals try (
   have hz:x.2=(As,4):=by
    refine hfail fun r hm hw=>?_
    rw[hrd r hm hw] at hh
    exact hh hw
   rw[hz]<;>rfl)
  all_goals (
   have hz:=hq.symm.trans (E5 (by assumption) (by assumption) hrd)
   try simp only[List.toList_toArray,w0,w1,w2,w3,w4,w5,Nat.zero_add,Nat.reduceAdd]
   rw[hz]<;>rfl)
 ·have hk2:kindOf ((Aa 32 x.1).getD 0 [])=3:=by rw[hsL] at hk;exact hk
  have hrd:∀ r,Ah r=true→Bq r=x.1→(⟨((sL (Aa 32 x.1)).getD 1 []),3,(An ((sL (Aa 32 x.1)).getD 2 [])).1,(numOf ((sL (Aa 32 x.1)).getD 3 [])).1,0,0,[],[],[],0,0,0⟩:Request)=r:=fun r hm hw=>by
   have hc:=Ai6 hm hw hk2
   rw[hsL,hc.1];simp only[List.getD_cons_zero,List.getD_cons_succ,hc.2.2.1,hc.2.2.2.1];exact hc.2.1.symm
  obtain⟨r0,w0⟩:=Ao (l:=[75,68,84]) 0 (by decide) (by decide)
  obtain⟨r1,w1⟩:=Ao (l:=[75,68,84]) 1 (by decide) (by decide)
  obtain⟨r2,w2⟩:=Ao (l:=[75,68,84]) 2 (by decide) (by decide)
  have r3:=True.intro
  have w3:=True.intro
  have r4:=True.intro
  have w4:=True.intro
  have r5:=True.intro
  have w5:=True.intro
  have v0:Ai (⟨#[75,68,84]⟩:ByteArray).data.toList 0=1:=w0
  have v1:Ai (⟨#[75,68,84]⟩:ByteArray).data.toList (0+Ai (⟨#[75,68,84]⟩:ByteArray).data.toList 0)=1:=by rw[v0];exact w1
  have v2:Ai (⟨#[75,68,84]⟩:ByteArray).data.toList ((0+Ai (⟨#[75,68,84]⟩:ByteArray).data.toList 0)+Ai (⟨#[75,68,84]⟩:ByteArray).data.toList (0+Ai (⟨#[75,68,84]⟩:ByteArray).data.toList 0))=1:=by rw[v1,v0];exact w2
  have hrow:(([75,68,84]:List UInt8).length:Int)=3:=rfl
  (conv=>whnf)
  (repeat' ((first
   |((with_reducible refine aI ?_ ?_);focus (omega))
   |fail)<;>(conv=>whnf)))
  refine⟨(((sL (Aa 32 x.1)).getD (Int.toNat 0) [],(3:Int)):List UInt8 × Int),hk,?_,?_⟩
  ·exact Aj _
  (conv=>whnf)
  (repeat' ((first
   |with_reducible exact⟨⟩
   |(with_reducible refine Ac ?_)
   |((with_reducible refine aI ?_ ?_);focus (first|with_reducible exact⟨⟩|exact tO|with_reducible rfl|omega|exact tK|(dsimp only at*;simp only[Ar,Go.Vc.lo,Go.Vc.hi];omega)))
   |(conv=>arg 2;(first|change eqI (Bb _ _) _|change decide (_+Ai _ _<_)|change ! (sB _));simp only[List.toList_toArray,A9,r0,r1,r2,r3,r4,r5,w0,w1,w2,w3,w4,w5,Nat.zero_add,Nat.reduceAdd,List.length_cons,List.length_nil])
   |(split<;>rename_i hh<;>(try simp only[wS] at hh))
   |with_reducible refine lnI fun hln=>?_
   |with_reducible refine iA ?_ ?_
   |fail)<;>(conv=>whnf)))
  all_goals try (
   have hz:x.2=(As,4):=by
    refine hfail fun r hm hw=>?_
    have hc:=Ai6 hm hw hk2
    try simp only[List.toList_toArray,w0,w1,w2,w3,w4,w5,Nat.zero_add,Nat.reduceAdd] at hh
    rw[hsL,hc.1] at hh
    first|exact hh rfl|(cases hh.symm.trans (congrArg Prod.snd hc.2.2.1))|(exact absurd (congrArg Prod.snd hc.2.2.2.1) hh)
   rw[hz]<;>rfl)
  refine⟨(⟨((sL (Aa 32 x.1)).getD 1 []),3,(An ((sL (Aa 32 x.1)).getD 2 [])).1,(numOf ((sL (Aa 32 x.1)).getD 3 [])).1,0,0,[],[],[],0,0,0⟩:Request),⟨Nat.zero_le _,Nat.zero_le _⟩,?_,?_⟩
  ·(conv=>whnf)
   (repeat' ((first|with_reducible exact⟨⟩|((with_reducible refine aI ?_ ?_);focus (exact tA))|with_reducible refine iA ?_ ?_|fail)<;>(conv=>whnf)))
   all_goals (try simp only[wQ])
   all_goals (simp only[w0,w1,w2,w3,w4,w5,Nat.zero_add,Nat.reduceAdd];rfl)
  (conv=>whnf)
  (repeat' ((first
   |with_reducible exact⟨⟩
   |((with_reducible refine aI ?_ ?_);focus (with_reducible rfl))
   |(conv=>arg 2;change ! (sB _);simp only[List.toList_toArray,A9,r0,r1,r2,r3,r4,r5,w0,w1,w2,w3,w4,w5,Nat.zero_add,Nat.reduceAdd,List.length_cons,List.length_nil])
   |(split<;>rename_i hh<;>(try simp only[wS] at hh))
   |with_reducible refine iA ?_ ?_
   |fail)<;>(conv=>whnf)))
  all_goals try (
   have hz:x.2=(As,4):=by
    refine hfail fun r hm hw=>?_
    rw[hrd r hm hw,hm] at hh
    cases hh
   rw[hz]<;>rfl)
  refine⟨(⟨((sL (Aa 32 x.1)).getD 1 []),3,(An ((sL (Aa 32 x.1)).getD 2 [])).1,(numOf ((sL (Aa 32 x.1)).getD 3 [])).1,0,0,[],[],[],0,0,0⟩:Request),⟨Nat.zero_le _,Nat.zero_le _⟩,?_,?_⟩
  ·(conv=>whnf)
   (repeat' ((first|with_reducible exact⟨⟩|((with_reducible refine aI ?_ ?_);focus (exact tA))|with_reducible refine iA ?_ ?_|fail)<;>(conv=>whnf)))
   all_goals (try simp only[wQ])
   all_goals (simp only[w0,w1,w2,w3,w4,w5,Nat.zero_add,Nat.reduceAdd];rfl)
  (conv=>whnf)
  (repeat' ((first
   |with_reducible exact⟨⟩
   |((with_reducible refine aI ?_ ?_);focus (with_reducible rfl))
   |(split<;>rename_i hh<;>(try simp only[wS] at hh))
   |with_reducible refine iA ?_ ?_
   |fail)<;>(conv=>whnf)))
  all_goals (try (show _=_;simp only[wQ]))
  all_goals try (
   have hz:x.2=(As,4):=by
    refine hfail fun r hm hw=>?_
    rw[hrd r hm hw] at hh
    exact hh hw
   rw[hz]<;>rfl)
  all_goals (
   have hz:=hq.symm.trans (E5 (by assumption) (by assumption) hrd)
   try simp only[List.toList_toArray,w0,w1,w2,w3,w4,w5,Nat.zero_add,Nat.reduceAdd]
   rw[hz]<;>rfl)
 ·have hk2:kindOf ((Aa 32 x.1).getD 0 [])=4:=by rw[hsL] at hk;exact hk
  have hrd:∀ r,Ah r=true→Bq r=x.1→(⟨((sL (Aa 32 x.1)).getD 1 []),4,(An ((sL (Aa 32 x.1)).getD 2 [])).1,(numOf ((sL (Aa 32 x.1)).getD 3 [])).1,0,0,[],[],[],(Di ((sL (Aa 32 x.1)).getD 4 [])).1,0,0⟩:Request)=r:=fun r hm hw=>by
   have hc:=Ai7 hm hw hk2
   rw[hsL,hc.1];simp only[List.getD_cons_zero,List.getD_cons_succ,hc.2.2.1,hc.2.2.2.1,hc.2.2.2.2.1];exact hc.2.1.symm
  obtain⟨r0,w0⟩:=Ao (l:=[75,68,84,65]) 0 (by decide) (by decide)
  obtain⟨r1,w1⟩:=Ao (l:=[75,68,84,65]) 1 (by decide) (by decide)
  obtain⟨r2,w2⟩:=Ao (l:=[75,68,84,65]) 2 (by decide) (by decide)
  obtain⟨r3,w3⟩:=Ao (l:=[75,68,84,65]) 3 (by decide) (by decide)
  have r4:=True.intro
  have w4:=True.intro
  have r5:=True.intro
  have w5:=True.intro
  have v0:Ai (⟨#[75,68,84,65]⟩:ByteArray).data.toList 0=1:=w0
  have v1:Ai (⟨#[75,68,84,65]⟩:ByteArray).data.toList (0+Ai (⟨#[75,68,84,65]⟩:ByteArray).data.toList 0)=1:=by rw[v0];exact w1
  have v2:Ai (⟨#[75,68,84,65]⟩:ByteArray).data.toList ((0+Ai (⟨#[75,68,84,65]⟩:ByteArray).data.toList 0)+Ai (⟨#[75,68,84,65]⟩:ByteArray).data.toList (0+Ai (⟨#[75,68,84,65]⟩:ByteArray).data.toList 0))=1:=by rw[v1,v0];exact w2
  have v3:Ai (⟨#[75,68,84,65]⟩:ByteArray).data.toList (((0+Ai (⟨#[75,68,84,65]⟩:ByteArray).data.toList 0)+Ai (⟨#[75,68,84,65]⟩:ByteArray).data.toList (0+Ai (⟨#[75,68,84,65]⟩:ByteArray).data.toList 0))+Ai (⟨#[75,68,84,65]⟩:ByteArray).data.toList ((0+Ai (⟨#[75,68,84,65]⟩:ByteArray).data.toList 0)+Ai (⟨#[75,68,84,65]⟩:ByteArray).data.toList (0+Ai (⟨#[75,68,84,65]⟩:ByteArray).data.toList 0)))=1:=by rw[v2,v1,v0];exact w3
  have hrow:(([75,68,84,65]:List UInt8).length:Int)=4:=rfl
  (conv=>whnf)
  (repeat' ((first
   |((with_reducible refine aI ?_ ?_);focus (omega))
   |fail)<;>(conv=>whnf)))
  refine⟨(((sL (Aa 32 x.1)).getD (Int.toNat 0) [],(4:Int)):List UInt8 × Int),hk,?_,?_⟩
  ·exact Aj _
  (conv=>whnf)
  (repeat' ((first
   |with_reducible exact⟨⟩
   |(with_reducible refine Ac ?_)
   |((with_reducible refine aI ?_ ?_);focus (exact Nat.le_trans (hmem _) ((nB rfl))))
   |((with_reducible refine aI ?_ ?_);focus (first|with_reducible exact⟨⟩|exact tO|with_reducible rfl|omega|exact tK|(dsimp only at*;simp only[Ar,Go.Vc.lo,Go.Vc.hi];omega)))
   |(conv=>arg 2;(first|change eqI (Bb _ _) _|change decide (_+Ai _ _<_)|change ! (sB _));simp only[List.toList_toArray,A9,r0,r1,r2,r3,r4,r5,w0,w1,w2,w3,w4,w5,Nat.zero_add,Nat.reduceAdd,List.length_cons,List.length_nil])
   |(split<;>rename_i hh<;>(try simp only[wS] at hh))
   |with_reducible refine lnI fun hln=>?_
   |with_reducible refine iA ?_ ?_
   |fail)<;>(conv=>whnf)))
  all_goals try (
   have hz:x.2=(As,4):=by
    refine hfail fun r hm hw=>?_
    have hc:=Ai7 hm hw hk2
    try simp only[List.toList_toArray,w0,w1,w2,w3,w4,w5,Nat.zero_add,Nat.reduceAdd] at hh
    rw[hsL,hc.1] at hh
    first|exact hh rfl|(cases hh.symm.trans (congrArg Prod.snd hc.2.2.1))|(exact absurd (congrArg Prod.snd hc.2.2.2.1) hh)|(exact absurd (congrArg Prod.snd hc.2.2.2.2.1) hh)
   rw[hz]<;>rfl)
  refine⟨(⟨((sL (Aa 32 x.1)).getD 1 []),4,(An ((sL (Aa 32 x.1)).getD 2 [])).1,(numOf ((sL (Aa 32 x.1)).getD 3 [])).1,0,0,[],[],[],(Di ((sL (Aa 32 x.1)).getD 4 [])).1,0,0⟩:Request),⟨Nat.zero_le _,Nat.zero_le _⟩,?_,?_⟩
  ·(conv=>whnf)
   (repeat' ((first|with_reducible exact⟨⟩|((with_reducible refine aI ?_ ?_);focus (exact tA))|with_reducible refine iA ?_ ?_|fail)<;>(conv=>whnf)))
   all_goals (try simp only[wQ])
   all_goals (simp only[w0,w1,w2,w3,w4,w5,Nat.zero_add,Nat.reduceAdd];rfl)
  (conv=>whnf)
  (repeat' ((first
   |with_reducible exact⟨⟩
   |((with_reducible refine aI ?_ ?_);focus (with_reducible rfl))
   |(conv=>arg 2;change ! (sB _);simp only[List.toList_toArray,A9,r0,r1,r2,r3,r4,r5,w0,w1,w2,w3,w4,w5,Nat.zero_add,Nat.reduceAdd,List.length_cons,List.length_nil])
   |(split<;>rename_i hh<;>(try simp only[wS] at hh))
   |with_reducible refine iA ?_ ?_
   |fail)<;>(conv=>whnf)))
  all_goals try (
   have hz:x.2=(As,4):=by
    refine hfail fun r hm hw=>?_
    rw[hrd r hm hw,hm] at hh
    cases hh
   rw[hz]<;>rfl)
  refine⟨(⟨((sL (Aa 32 x.1)).getD 1 []),4,(An ((sL (Aa 32 x.1)).getD 2 [])).1,(numOf ((sL (Aa 32 x.1)).getD 3 [])).1,0,0,[],[],[],(Di ((sL (Aa 32 x.1)).getD 4 [])).1,0,0⟩:Request),⟨Nat.zero_le _,Nat.zero_le _⟩,?_,?_⟩
  ·(conv=>whnf)
   (repeat' ((first|with_reducible exact⟨⟩|((with_reducible refine aI ?_ ?_);focus (exact tA))|with_reducible refine iA ?_ ?_|fail)<;>(conv=>whnf)))
   all_goals (try simp only[wQ])
   all_goals (simp only[w0,w1,w2,w3,w4,w5,Nat.zero_add,Nat.reduceAdd];rfl)
  (conv=>whnf)
  (repeat' ((first
   |with_reducible exact⟨⟩
   |((with_reducible refine aI ?_ ?_);focus (with_reducible rfl))
   |(split<;>rename_i hh<;>(try simp only[wS] at hh))
   |with_reducible refine iA ?_ ?_
   |fail)<;>(conv=>whnf)))
  all_goals (try (show _=_;simp only[wQ]))
  all_goals try (
   have hz:x.2=(As,4):=by
    refine hfail fun r hm hw=>?_
    rw[hrd r hm hw] at hh
    exact hh hw
   rw[hz]<;>rfl)
  all_goals (
   have hz:=hq.symm.trans (E5 (by assumption) (by assumption) hrd)
   try simp only[List.toList_toArray,w0,w1,w2,w3,w4,w5,Nat.zero_add,Nat.reduceAdd]
   rw[hz]<;>rfl)
 ·exact absurd hk hn5
 ·have hk2:kindOf ((Aa 32 x.1).getD 0 [])=6:=by rw[hsL] at hk;exact hk
  have hrd:∀ r,Ah r=true→Bq r=x.1→(⟨((sL (Aa 32 x.1)).getD 1 []),6,(An ((sL (Aa 32 x.1)).getD 2 [])).1,(numOf ((sL (Aa 32 x.1)).getD 3 [])).1,(An ((sL (Aa 32 x.1)).getD 4 [])).1,0,[],[],[],0,0,0⟩:Request)=r:=fun r hm hw=>by
   have hc:=Ai8 hm hw hk2
   rw[hsL,hc.1];simp only[List.getD_cons_zero,List.getD_cons_succ,hc.2.2.1,hc.2.2.2.1,hc.2.2.2.2.1];exact hc.2.1.symm
  obtain⟨r0,w0⟩:=Ao (l:=[75,68,84,78]) 0 (by decide) (by decide)
  obtain⟨r1,w1⟩:=Ao (l:=[75,68,84,78]) 1 (by decide) (by decide)
  obtain⟨r2,w2⟩:=Ao (l:=[75,68,84,78]) 2 (by decide) (by decide)
  obtain⟨r3,w3⟩:=Ao (l:=[75,68,84,78]) 3 (by decide) (by decide)
  have r4:=True.intro
  have w4:=True.intro
  have r5:=True.intro
  have w5:=True.intro
  have v0:Ai (⟨#[75,68,84,78]⟩:ByteArray).data.toList 0=1:=w0
  have v1:Ai (⟨#[75,68,84,78]⟩:ByteArray).data.toList (0+Ai (⟨#[75,68,84,78]⟩:ByteArray).data.toList 0)=1:=by rw[v0];exact w1
  have v2:Ai (⟨#[75,68,84,78]⟩:ByteArray).data.toList ((0+Ai (⟨#[75,68,84,78]⟩:ByteArray).data.toList 0)+Ai (⟨#[75,68,84,78]⟩:ByteArray).data.toList (0+Ai (⟨#[75,68,84,78]⟩:ByteArray).data.toList 0))=1:=by rw[v1,v0];exact w2
  have v3:Ai (⟨#[75,68,84,78]⟩:ByteArray).data.toList (((0+Ai (⟨#[75,68,84,78]⟩:ByteArray).data.toList 0)+Ai (⟨#[75,68,84,78]⟩:ByteArray).data.toList (0+Ai (⟨#[75,68,84,78]⟩:ByteArray).data.toList 0))+Ai (⟨#[75,68,84,78]⟩:ByteArray).data.toList ((0+Ai (⟨#[75,68,84,78]⟩:ByteArray).data.toList 0)+Ai (⟨#[75,68,84,78]⟩:ByteArray).data.toList (0+Ai (⟨#[75,68,84,78]⟩:ByteArray).data.toList 0)))=1:=by rw[v2,v1,v0];exact w3
  have hrow:(([75,68,84,78]:List UInt8).length:Int)=4:=rfl
  (conv=>whnf)
  (repeat' ((first
   |((with_reducible refine aI ?_ ?_);focus (omega))
   |fail)<;>(conv=>whnf)))
  refine⟨(((sL (Aa 32 x.1)).getD (Int.toNat 0) [],(6:Int)):List UInt8 × Int),hk,?_,?_⟩
  ·exact Aj _
  (conv=>whnf)
  (repeat' ((first
   |with_reducible exact⟨⟩
   |(with_reducible refine Ac ?_)
   |((with_reducible refine aI ?_ ?_);focus (first|with_reducible exact⟨⟩|exact tO|with_reducible rfl|omega|exact tK|(dsimp only at*;simp only[Ar,Go.Vc.lo,Go.Vc.hi];omega)))
   |(conv=>arg 2;(first|change eqI (Bb _ _) _|change decide (_+Ai _ _<_)|change ! (sB _));simp only[List.toList_toArray,A9,r0,r1,r2,r3,r4,r5,w0,w1,w2,w3,w4,w5,Nat.zero_add,Nat.reduceAdd,List.length_cons,List.length_nil])
   |(split<;>rename_i hh<;>(try simp only[wS] at hh))
   |with_reducible refine lnI fun hln=>?_
   |with_reducible refine iA ?_ ?_
   |fail)<;>(conv=>whnf)))
  all_goals try (
   have hz:x.2=(As,4):=by
    refine hfail fun r hm hw=>?_
    have hc:=Ai8 hm hw hk2
    try simp only[List.toList_toArray,w0,w1,w2,w3,w4,w5,Nat.zero_add,Nat.reduceAdd] at hh
    rw[hsL,hc.1] at hh
    first|exact hh rfl|(cases hh.symm.trans (congrArg Prod.snd hc.2.2.1))|(exact absurd (congrArg Prod.snd hc.2.2.2.1) hh)|(cases hh.symm.trans (congrArg Prod.snd hc.2.2.2.2.1))
   rw[hz]<;>rfl)
  refine⟨(⟨((sL (Aa 32 x.1)).getD 1 []),6,(An ((sL (Aa 32 x.1)).getD 2 [])).1,(numOf ((sL (Aa 32 x.1)).getD 3 [])).1,(An ((sL (Aa 32 x.1)).getD 4 [])).1,0,[],[],[],0,0,0⟩:Request),⟨Nat.zero_le _,Nat.zero_le _⟩,?_,?_⟩
  ·(conv=>whnf)
   (repeat' ((first|with_reducible exact⟨⟩|((with_reducible refine aI ?_ ?_);focus (exact tA))|with_reducible refine iA ?_ ?_|fail)<;>(conv=>whnf)))
   all_goals (try simp only[wQ])
   all_goals (simp only[w0,w1,w2,w3,w4,w5,Nat.zero_add,Nat.reduceAdd];rfl)
  (conv=>whnf)
  (repeat' ((first
   |with_reducible exact⟨⟩
   |((with_reducible refine aI ?_ ?_);focus (with_reducible rfl))
   |(conv=>arg 2;change ! (sB _);simp only[List.toList_toArray,A9,r0,r1,r2,r3,r4,r5,w0,w1,w2,w3,w4,w5,Nat.zero_add,Nat.reduceAdd,List.length_cons,List.length_nil])
   |(split<;>rename_i hh<;>(try simp only[wS] at hh))
   |with_reducible refine iA ?_ ?_
   |fail)<;>(conv=>whnf)))
  all_goals try (
   have hz:x.2=(As,4):=by
    refine hfail fun r hm hw=>?_
    rw[hrd r hm hw,hm] at hh
    cases hh
   rw[hz]<;>rfl)
  refine⟨(⟨((sL (Aa 32 x.1)).getD 1 []),6,(An ((sL (Aa 32 x.1)).getD 2 [])).1,(numOf ((sL (Aa 32 x.1)).getD 3 [])).1,(An ((sL (Aa 32 x.1)).getD 4 [])).1,0,[],[],[],0,0,0⟩:Request),⟨Nat.zero_le _,Nat.zero_le _⟩,?_,?_⟩
  ·(conv=>whnf)
   (repeat' ((first|with_reducible exact⟨⟩|((with_reducible refine aI ?_ ?_);focus (exact tA))|with_reducible refine iA ?_ ?_|fail)<;>(conv=>whnf)))
   all_goals (try simp only[wQ])
   all_goals (simp only[w0,w1,w2,w3,w4,w5,Nat.zero_add,Nat.reduceAdd];rfl)
  (conv=>whnf)
  (repeat' ((first
   |with_reducible exact⟨⟩
   |((with_reducible refine aI ?_ ?_);focus (with_reducible rfl))
   |(split<;>rename_i hh<;>(try simp only[wS] at hh))
   |with_reducible refine iA ?_ ?_
   |fail)<;>(conv=>whnf)))
  all_goals (try (show _=_;simp only[wQ]))
  all_goals try (
   have hz:x.2=(As,4):=by
    refine hfail fun r hm hw=>?_
    rw[hrd r hm hw] at hh
    exact hh hw
   rw[hz]<;>rfl)
  all_goals (
   have hz:=hq.symm.trans (E5 (by assumption) (by assumption) hrd)
   try simp only[List.toList_toArray,w0,w1,w2,w3,w4,w5,Nat.zero_add,Nat.reduceAdd]
   rw[hz]<;>rfl)
 ·have hk2:kindOf ((Aa 32 x.1).getD 0 [])=7:=by rw[hsL] at hk;exact hk
  have hrd:∀ r,Ah r=true→Bq r=x.1→(⟨((sL (Aa 32 x.1)).getD 1 []),7,(An ((sL (Aa 32 x.1)).getD 2 [])).1,(numOf ((sL (Aa 32 x.1)).getD 3 [])).1,(An ((sL (Aa 32 x.1)).getD 4 [])).1,0,[],[],[],0,0,0⟩:Request)=r:=fun r hm hw=>by
   have hc:=Ai9 hm hw hk2
   rw[hsL,hc.1];simp only[List.getD_cons_zero,List.getD_cons_succ,hc.2.2.1,hc.2.2.2.1,hc.2.2.2.2.1];exact hc.2.1.symm
  obtain⟨r0,w0⟩:=Ao (l:=[75,68,84,78]) 0 (by decide) (by decide)
  obtain⟨r1,w1⟩:=Ao (l:=[75,68,84,78]) 1 (by decide) (by decide)
  obtain⟨r2,w2⟩:=Ao (l:=[75,68,84,78]) 2 (by decide) (by decide)
  obtain⟨r3,w3⟩:=Ao (l:=[75,68,84,78]) 3 (by decide) (by decide)
  have r4:=True.intro
  have w4:=True.intro
  have r5:=True.intro
  have w5:=True.intro
  have v0:Ai (⟨#[75,68,84,78]⟩:ByteArray).data.toList 0=1:=w0
  have v1:Ai (⟨#[75,68,84,78]⟩:ByteArray).data.toList (0+Ai (⟨#[75,68,84,78]⟩:ByteArray).data.toList 0)=1:=by rw[v0];exact w1
  have v2:Ai (⟨#[75,68,84,78]⟩:ByteArray).data.toList ((0+Ai (⟨#[75,68,84,78]⟩:ByteArray).data.toList 0)+Ai (⟨#[75,68,84,78]⟩:ByteArray).data.toList (0+Ai (⟨#[75,68,84,78]⟩:ByteArray).data.toList 0))=1:=by rw[v1,v0];exact w2
  have v3:Ai (⟨#[75,68,84,78]⟩:ByteArray).data.toList (((0+Ai (⟨#[75,68,84,78]⟩:ByteArray).data.toList 0)+Ai (⟨#[75,68,84,78]⟩:ByteArray).data.toList (0+Ai (⟨#[75,68,84,78]⟩:ByteArray).data.toList 0))+Ai (⟨#[75,68,84,78]⟩:ByteArray).data.toList ((0+Ai (⟨#[75,68,84,78]⟩:ByteArray).data.toList 0)+Ai (⟨#[75,68,84,78]⟩:ByteArray).data.toList (0+Ai (⟨#[75,68,84,78]⟩:ByteArray).data.toList 0)))=1:=by rw[v2,v1,v0];exact w3
  have hrow:(([75,68,84,78]:List UInt8).length:Int)=4:=rfl
  (conv=>whnf)
  (repeat' ((first
   |((with_reducible refine aI ?_ ?_);focus (omega))
   |fail)<;>(conv=>whnf)))
  refine⟨(((sL (Aa 32 x.1)).getD (Int.toNat 0) [],(7:Int)):List UInt8 × Int),hk,?_,?_⟩
  ·exact Aj _
  (conv=>whnf)
  (repeat' ((first
   |with_reducible exact⟨⟩
   |(with_reducible refine Ac ?_)
   |((with_reducible refine aI ?_ ?_);focus (first|with_reducible exact⟨⟩|exact tO|with_reducible rfl|omega|exact tK|(dsimp only at*;simp only[Ar,Go.Vc.lo,Go.Vc.hi];omega)))
   |(conv=>arg 2;(first|change eqI (Bb _ _) _|change decide (_+Ai _ _<_)|change ! (sB _));simp only[List.toList_toArray,A9,r0,r1,r2,r3,r4,r5,w0,w1,w2,w3,w4,w5,Nat.zero_add,Nat.reduceAdd,List.length_cons,List.length_nil])
   |(split<;>rename_i hh<;>(try simp only[wS] at hh))
   |with_reducible refine lnI fun hln=>?_
   |with_reducible refine iA ?_ ?_
   |fail)<;>(conv=>whnf)))
  all_goals try (
   have hz:x.2=(As,4):=by
    refine hfail fun r hm hw=>?_
    have hc:=Ai9 hm hw hk2
    try simp only[List.toList_toArray,w0,w1,w2,w3,w4,w5,Nat.zero_add,Nat.reduceAdd] at hh
    rw[hsL,hc.1] at hh
    first|exact hh rfl|(cases hh.symm.trans (congrArg Prod.snd hc.2.2.1))|(exact absurd (congrArg Prod.snd hc.2.2.2.1) hh)|(cases hh.symm.trans (congrArg Prod.snd hc.2.2.2.2.1))
   rw[hz]<;>rfl)
  refine⟨(⟨((sL (Aa 32 x.1)).getD 1 []),7,(An ((sL (Aa 32 x.1)).getD 2 [])).1,(numOf ((sL (Aa 32 x.1)).getD 3 [])).1,(An ((sL (Aa 32 x.1)).getD 4 [])).1,0,[],[],[],0,0,0⟩:Request),⟨Nat.zero_le _,Nat.zero_le _⟩,?_,?_⟩
  ·(conv=>whnf)
   (repeat' ((first|with_reducible exact⟨⟩|((with_reducible refine aI ?_ ?_);focus (exact tA))|with_reducible refine iA ?_ ?_|fail)<;>(conv=>whnf)))
   all_goals (try simp only[wQ])
   all_goals (simp only[w0,w1,w2,w3,w4,w5,Nat.zero_add,Nat.reduceAdd];rfl)
  (conv=>whnf)
  (repeat' ((first
   |with_reducible exact⟨⟩
   |((with_reducible refine aI ?_ ?_);focus (with_reducible rfl))
   |(conv=>arg 2;change ! (sB _);simp only[List.toList_toArray,A9,r0,r1,r2,r3,r4,r5,w0,w1,w2,w3,w4,w5,Nat.zero_add,Nat.reduceAdd,List.length_cons,List.length_nil])
   |(split<;>rename_i hh<;>(try simp only[wS] at hh))
   |with_reducible refine iA ?_ ?_
   |fail)<;>(conv=>whnf)))
  all_goals try (
   have hz:x.2=(As,4):=by
    refine hfail fun r hm hw=>?_
    rw[hrd r hm hw,hm] at hh
    cases hh
   rw[hz]<;>rfl)
  refine⟨(⟨((sL (Aa 32 x.1)).getD 1 []),7,(An ((sL (Aa 32 x.1)).getD 2 [])).1,(numOf ((sL (Aa 32 x.1)).getD 3 [])).1,(An ((sL (Aa 32 x.1)).getD 4 [])).1,0,[],[],[],0,0,0⟩:Request),⟨Nat.zero_le _,Nat.zero_le _⟩,?_,?_⟩
  ·(conv=>whnf)
   (repeat' ((first|with_reducible exact⟨⟩|((with_reducible refine aI ?_ ?_);focus (exact tA))|with_reducible refine iA ?_ ?_|fail)<;>(conv=>whnf)))
   all_goals (try simp only[wQ])
   all_goals (simp only[w0,w1,w2,w3,w4,w5,Nat.zero_add,Nat.reduceAdd];rfl)
  (conv=>whnf)
  (repeat' ((first
   |with_reducible exact⟨⟩
   |((with_reducible refine aI ?_ ?_);focus (with_reducible rfl))
   |(split<;>rename_i hh<;>(try simp only[wS] at hh))
   |with_reducible refine iA ?_ ?_
   |fail)<;>(conv=>whnf)))
  all_goals (try (show _=_;simp only[wQ]))
  all_goals try (
   have hz:x.2=(As,4):=by
    refine hfail fun r hm hw=>?_
    rw[hrd r hm hw] at hh
    exact hh hw
   rw[hz]<;>rfl)
  all_goals (
   have hz:=hq.symm.trans (E5 (by assumption) (by assumption) hrd)
   try simp only[List.toList_toArray,w0,w1,w2,w3,w4,w5,Nat.zero_add,Nat.reduceAdd]
   rw[hz]<;>rfl)
 ·have hk2:kindOf ((Aa 32 x.1).getD 0 [])=8:=by rw[hsL] at hk;exact hk
  have hrd:∀ r,Ah r=true→Bq r=x.1→(⟨[],8,0,(numOf ((sL (Aa 32 x.1)).getD 1 [])).1,0,0,[],[],[],0,0,0⟩:Request)=r:=fun r hm hw=>by
   have hc:=Aja hm hw hk2
   rw[hsL,hc.1];simp only[List.getD_cons_zero,List.getD_cons_succ,hc.2.2.1];exact hc.2.1.symm
  obtain⟨r0,w0⟩:=Ao (l:=[84]) 0 (by decide) (by decide)
  have r1:=True.intro
  have w1:=True.intro
  have r2:=True.intro
  have w2:=True.intro
  have r3:=True.intro
  have w3:=True.intro
  have r4:=True.intro
  have w4:=True.intro
  have r5:=True.intro
  have w5:=True.intro
  have v0:Ai (⟨#[84]⟩:ByteArray).data.toList 0=1:=w0
  have hrow:(([84]:List UInt8).length:Int)=1:=rfl
  (conv=>whnf)
  (repeat' ((first
   |((with_reducible refine aI ?_ ?_);focus (omega))
   |fail)<;>(conv=>whnf)))
  refine⟨(((sL (Aa 32 x.1)).getD (Int.toNat 0) [],(8:Int)):List UInt8 × Int),hk,?_,?_⟩
  ·exact Aj _
  (conv=>whnf)
  (repeat' ((first
   |with_reducible exact⟨⟩
   |(with_reducible refine Ac ?_)
   |((with_reducible refine aI ?_ ?_);focus (first|with_reducible exact⟨⟩|exact tO|with_reducible rfl|omega|exact tK))
   |(conv=>arg 2;(first|change eqI (Bb _ _) _|change decide (_+Ai _ _<_));simp only[List.toList_toArray,A9,r0,r1,r2,r3,r4,r5,w0,w1,w2,w3,w4,w5,Nat.zero_add,Nat.reduceAdd,List.length_cons,List.length_nil])
   |(split<;>rename_i hh<;>(try simp only[wS] at hh))
   |with_reducible refine lnI fun hln=>?_
   |with_reducible refine iA ?_ ?_
   |fail)<;>(conv=>whnf)))
  all_goals try (
   have hz:x.2=(As,4):=by
    refine hfail fun r hm hw=>?_
    have hc:=Aja hm hw hk2
    try simp only[List.toList_toArray,w0,w1,w2,w3,w4,w5,Nat.zero_add,Nat.reduceAdd] at hh
    rw[hsL,hc.1] at hh
    first|exact hh rfl|(exact absurd (congrArg Prod.snd hc.2.2.1) hh)
   rw[hz]<;>rfl)
  refine⟨(⟨[],8,0,(numOf ((sL (Aa 32 x.1)).getD 1 [])).1,0,0,[],[],[],0,0,0⟩:Request),⟨Nat.zero_le _,Nat.zero_le _⟩,?_,?_⟩
  ·(conv=>whnf)
   (repeat' ((first|with_reducible exact⟨⟩|((with_reducible refine aI ?_ ?_);focus (exact tA))|with_reducible refine iA ?_ ?_|fail)<;>(conv=>whnf)))
   all_goals (try simp only[wQ])
   all_goals (try first|rfl)
   all_goals (simp only[w0,w1,w2,w3,w4,w5,Nat.zero_add,Nat.reduceAdd];rfl)
  (conv=>whnf)
  (repeat' ((first
   |with_reducible exact⟨⟩
   |((with_reducible refine aI ?_ ?_);focus (with_reducible rfl))
   |(conv=>arg 2;change ! (sB _);simp only[List.toList_toArray,A9,r0,r1,r2,r3,r4,r5,w0,w1,w2,w3,w4,w5,Nat.zero_add,Nat.reduceAdd,List.length_cons,List.length_nil])
   |(split<;>rename_i hh<;>(try simp only[wS] at hh))
   |with_reducible refine iA ?_ ?_
   |fail)<;>(conv=>whnf)))
  all_goals try (
   have hz:x.2=(As,4):=by
    refine hfail fun r hm hw=>?_
    rw[hrd r hm hw,hm] at hh
    cases hh
   rw[hz]<;>rfl)
  refine⟨(⟨[],8,0,(numOf ((sL (Aa 32 x.1)).getD 1 [])).1,0,0,[],[],[],0,0,0⟩:Request),⟨Nat.zero_le _,Nat.zero_le _⟩,?_,?_⟩
  ·(conv=>whnf)
   (repeat' ((first|with_reducible exact⟨⟩|((with_reducible refine aI ?_ ?_);focus (exact tA))|with_reducible refine iA ?_ ?_|fail)<;>(conv=>whnf)))
   all_goals (try simp only[wQ])
   all_goals (try first|rfl)
   all_goals (simp only[w0,w1,w2,w3,w4,w5,Nat.zero_add,Nat.reduceAdd];rfl)
  (conv=>whnf)
  (repeat' ((first
   |with_reducible exact⟨⟩
   |((with_reducible refine aI ?_ ?_);focus (with_reducible rfl))
   |(split<;>rename_i hh<;>(try simp only[wS] at hh))
   |with_reducible refine iA ?_ ?_
   |fail)<;>(conv=>whnf)))
  all_goals (try (show _=_;simp only[wQ]))
  all_goals try (
   have hz:x.2=(As,4):=by
    refine hfail fun r hm hw=>?_
    rw[hrd r hm hw] at hh
    exact hh hw
   rw[hz]<;>rfl)
  all_goals (
   have hz:=hq.symm.trans (E5 (by assumption) (by assumption) hrd)
   try simp only[List.toList_toArray,w0,w1,w2,w3,w4,w5,Nat.zero_add,Nat.reduceAdd]
   rw[hz]<;>rfl)
 ·have hk2:kindOf ((Aa 32 x.1).getD 0 [])=9:=by rw[hsL] at hk;exact hk
  have hrd:∀ r,Ah r=true→Bq r=x.1→(⟨[],9,0,0,0,0,((sL (Aa 32 x.1)).getD 1 []),[],[],0,0,0⟩:Request)=r:=fun r hm hw=>by
   have hc:=Ajb hm hw hk2
   rw[hsL,hc.1];simp only[List.getD_cons_zero,List.getD_cons_succ];exact hc.2.1.symm
  obtain⟨r0,w0⟩:=Ao (l:=[76]) 0 (by decide) (by decide)
  have r1:=True.intro
  have w1:=True.intro
  have r2:=True.intro
  have w2:=True.intro
  have r3:=True.intro
  have w3:=True.intro
  have r4:=True.intro
  have w4:=True.intro
  have r5:=True.intro
  have w5:=True.intro
  have v0:Ai (⟨#[76]⟩:ByteArray).data.toList 0=1:=w0
  have hrow:(([76]:List UInt8).length:Int)=1:=rfl
  (conv=>whnf)
  (repeat' ((first
   |((with_reducible refine aI ?_ ?_);focus (omega))
   |fail)<;>(conv=>whnf)))
  refine⟨(((sL (Aa 32 x.1)).getD (Int.toNat 0) [],(9:Int)):List UInt8 × Int),hk,?_,?_⟩
  ·exact Aj _
  (conv=>whnf)
  (repeat' ((first
   |with_reducible exact⟨⟩
   |(with_reducible refine Ac ?_)
   |((with_reducible refine aI ?_ ?_);focus (first|exact tO|with_reducible rfl|omega|exact tK))
   |(conv=>arg 2;(first|change eqI (Bb _ _) _|change decide (_+Ai _ _<_));simp only[List.toList_toArray,A9,r0,r1,r2,r3,r4,r5,w0,w1,w2,w3,w4,w5,Nat.zero_add,Nat.reduceAdd,List.length_cons,List.length_nil])
   |(split<;>rename_i hh<;>(try simp only[wS] at hh))
   |with_reducible refine lnI fun hln=>?_
   |with_reducible refine iA ?_ ?_
   |fail)<;>(conv=>whnf)))
  all_goals try (
   have hz:x.2=(As,4):=by
    refine hfail fun r hm hw=>?_
    have hc:=Ajb hm hw hk2
    try simp only[List.toList_toArray,w0,w1,w2,w3,w4,w5,Nat.zero_add,Nat.reduceAdd] at hh
    rw[hsL,hc.1] at hh
    first|exact hh rfl
   rw[hz]<;>rfl)
  refine⟨(⟨[],9,0,0,0,0,((sL (Aa 32 x.1)).getD 1 []),[],[],0,0,0⟩:Request),⟨Nat.zero_le _,Nat.zero_le _⟩,?_,?_⟩
  ·(conv=>whnf)
   (repeat' ((first|with_reducible exact⟨⟩|((with_reducible refine aI ?_ ?_);focus (exact tA))|with_reducible refine iA ?_ ?_|fail)<;>(conv=>whnf)))
   all_goals (simp only[w0,w1,w2,w3,w4,w5,Nat.zero_add,Nat.reduceAdd];rfl)
  (conv=>whnf)
  (repeat' ((first
   |with_reducible exact⟨⟩
   |((with_reducible refine aI ?_ ?_);focus (with_reducible rfl))
   |(conv=>arg 2;change ! (sB _);simp only[List.toList_toArray,A9,r0,r1,r2,r3,r4,r5,w0,w1,w2,w3,w4,w5,Nat.zero_add,Nat.reduceAdd,List.length_cons,List.length_nil])
   |(split<;>rename_i hh<;>(try simp only[wS] at hh))
   |with_reducible refine iA ?_ ?_
   |fail)<;>(conv=>whnf)))
  all_goals try (
   have hz:x.2=(As,4):=by
    refine hfail fun r hm hw=>?_
    rw[hrd r hm hw,hm] at hh
    cases hh
   rw[hz]<;>rfl)
  refine⟨(⟨[],9,0,0,0,0,((sL (Aa 32 x.1)).getD 1 []),[],[],0,0,0⟩:Request),⟨Nat.zero_le _,Nat.zero_le _⟩,?_,?_⟩
  ·(conv=>whnf)
   (repeat' ((first|with_reducible exact⟨⟩|((with_reducible refine aI ?_ ?_);focus (exact tA))|with_reducible refine iA ?_ ?_|fail)<;>(conv=>whnf)))
   all_goals (simp only[w0,w1,w2,w3,w4,w5,Nat.zero_add,Nat.reduceAdd];rfl)
  (conv=>whnf)
  (repeat' ((first
   |with_reducible exact⟨⟩
   |((with_reducible refine aI ?_ ?_);focus (with_reducible rfl))
   |(split<;>rename_i hh<;>(try simp only[wS] at hh))
   |with_reducible refine iA ?_ ?_
   |fail)<;>(conv=>whnf)))
  all_goals (try (show _=_;simp only[wQ]))
  all_goals try (
   have hz:x.2=(As,4):=by
    refine hfail fun r hm hw=>?_
    rw[hrd r hm hw] at hh
    exact hh hw
   rw[hz]<;>rfl)
  all_goals (
   have hz:=hq.symm.trans (E5 (by assumption) (by assumption) hrd)
   try simp only[List.toList_toArray,w0,w1,w2,w3,w4,w5,Nat.zero_add,Nat.reduceAdd]
   rw[hz]<;>rfl)
 ·have hk2:kindOf ((Aa 32 x.1).getD 0 [])=10:=by rw[hsL] at hk;exact hk
  have hrd:∀ r,Ah r=true→Bq r=x.1→(⟨[],10,0,0,0,0,[],[],[],0,(An ((sL (Aa 32 x.1)).getD 1 [])).1,(An ((sL (Aa 32 x.1)).getD 2 [])).1⟩:Request)=r:=fun r hm hw=>by
   have hc:=Abb hm hw hk2
   rw[hsL,hc.1];simp only[List.getD_cons_zero,List.getD_cons_succ,hc.2.2.1,hc.2.2.2.1];exact hc.2.1.symm
  obtain⟨r0,w0⟩:=Ao (l:=[70,85]) 0 (by decide) (by decide)
  obtain⟨r1,w1⟩:=Ao (l:=[70,85]) 1 (by decide) (by decide)
  have r2:=True.intro
  have w2:=True.intro
  have r3:=True.intro
  have w3:=True.intro
  have r4:=True.intro
  have w4:=True.intro
  have r5:=True.intro
  have w5:=True.intro
  have v0:Ai (⟨#[70,85]⟩:ByteArray).data.toList 0=1:=w0
  have v1:Ai (⟨#[70,85]⟩:ByteArray).data.toList (0+Ai (⟨#[70,85]⟩:ByteArray).data.toList 0)=1:=by rw[v0];exact w1
  have hrow:(([70,85]:List UInt8).length:Int)=2:=rfl
  (conv=>whnf)
  (repeat' ((first
   |((with_reducible refine aI ?_ ?_);focus (omega))
   |fail)<;>(conv=>whnf)))
  refine⟨(((sL (Aa 32 x.1)).getD (Int.toNat 0) [],(10:Int)):List UInt8 × Int),hk,?_,?_⟩
  ·exact Aj _
  (conv=>whnf)
  (repeat' ((first
   |with_reducible exact⟨⟩
   |(with_reducible refine Ac ?_)
   |((with_reducible refine aI ?_ ?_);focus (first|with_reducible exact⟨⟩|exact tO|with_reducible rfl|omega|exact tK))
   |(conv=>arg 2;(first|change eqI (Bb _ _) _|change decide (_+Ai _ _<_)|change ! (sB _));simp only[List.toList_toArray,A9,r0,r1,r2,r3,r4,r5,w0,w1,w2,w3,w4,w5,Nat.zero_add,Nat.reduceAdd,List.length_cons,List.length_nil])
   |(split<;>rename_i hh<;>(try simp only[wS] at hh))
   |with_reducible refine lnI fun hln=>?_
   |with_reducible refine iA ?_ ?_
   |fail)<;>(conv=>whnf)))
  all_goals try (
   have hz:x.2=(As,4):=by
    refine hfail fun r hm hw=>?_
    have hc:=Abb hm hw hk2
    try simp only[List.toList_toArray,w0,w1,w2,w3,w4,w5,Nat.zero_add,Nat.reduceAdd] at hh
    rw[hsL,hc.1] at hh
    first|exact hh rfl|(cases hh.symm.trans (congrArg Prod.snd hc.2.2.1))|(cases hh.symm.trans (congrArg Prod.snd hc.2.2.2.1))
   rw[hz]<;>rfl)
  refine⟨(⟨[],10,0,0,0,0,[],[],[],0,(An ((sL (Aa 32 x.1)).getD 1 [])).1,(An ((sL (Aa 32 x.1)).getD 2 [])).1⟩:Request),⟨Nat.zero_le _,Nat.zero_le _⟩,?_,?_⟩
  ·(conv=>whnf)
   (repeat' ((first|with_reducible exact⟨⟩|((with_reducible refine aI ?_ ?_);focus (exact tA))|with_reducible refine iA ?_ ?_|fail)<;>(conv=>whnf)))
   all_goals (try simp only[wQ])
   all_goals (try first|rfl)
   all_goals (simp only[w0,w1,w2,w3,w4,w5,Nat.zero_add,Nat.reduceAdd];rfl)
  (conv=>whnf)
  (repeat' ((first
   |with_reducible exact⟨⟩
   |((with_reducible refine aI ?_ ?_);focus (with_reducible rfl))
   |(conv=>arg 2;change ! (sB _);simp only[List.toList_toArray,A9,r0,r1,r2,r3,r4,r5,w0,w1,w2,w3,w4,w5,Nat.zero_add,Nat.reduceAdd,List.length_cons,List.length_nil])
   |(split<;>rename_i hh<;>(try simp only[wS] at hh))
   |with_reducible refine iA ?_ ?_
   |fail)<;>(conv=>whnf)))
  all_goals try (
   have hz:x.2=(As,4):=by
    refine hfail fun r hm hw=>?_
    rw[hrd r hm hw,hm] at hh
    cases hh
   rw[hz]<;>rfl)
  refine⟨(⟨[],10,0,0,0,0,[],[],[],0,(An ((sL (Aa 32 x.1)).getD 1 [])).1,(An ((sL (Aa 32 x.1)).getD 2 [])).1⟩:Request),⟨Nat.zero_le _,Nat.zero_le _⟩,?_,?_⟩
  ·(conv=>whnf)
   (repeat' ((first|with_reducible exact⟨⟩|((with_reducible refine aI ?_ ?_);focus (exact tA))|with_reducible refine iA ?_ ?_|fail)<;>(conv=>whnf)))
   all_goals (try simp only[wQ])
   all_goals (try first|rfl)
   all_goals (simp only[w0,w1,w2,w3,w4,w5,Nat.zero_add,Nat.reduceAdd];rfl)
  (conv=>whnf)
  (repeat' ((first
   |with_reducible exact⟨⟩
   |((with_reducible refine aI ?_ ?_);focus (with_reducible rfl))
   |(split<;>rename_i hh<;>(try simp only[wS] at hh))
   |with_reducible refine iA ?_ ?_
   |fail)<;>(conv=>whnf)))
  all_goals (try (show _=_;simp only[wQ]))
  all_goals try (
   have hz:x.2=(As,4):=by
    refine hfail fun r hm hw=>?_
    rw[hrd r hm hw] at hh
    exact hh hw
   rw[hz]<;>rfl)
  all_goals (
   have hz:=hq.symm.trans (E5 (by assumption) (by assumption) hrd)
   try simp only[List.toList_toArray,w0,w1,w2,w3,w4,w5,Nat.zero_add,Nat.reduceAdd]
   rw[hz]<;>rfl)
end
end Go.Vc.Z
