/- script.RequestOf: the request of a line, the program's. -/
import Derived.Test.YtpmpclbdnakniaaGreatDoorV28
import Derived.Test.YtpmpclbdnakniaaGreatDoorV15
import Derived.Test.YtpmpclbdnakniaaGreatDoorV20
set_option linter.all false
set_option linter.unusedVariables false
set_option linter.unusedSimpArgs false
namespace Go.Vc.Z
open Go Go.Vc Go.Proofs Go.RowKit Go.Pl Go.Lib
noncomputable section
set_option maxRecDepth 100000
attribute [local irreducible] inK Utf8.decode Utf8.encode Lib.itoa Pl.worth Pl.allDig
attribute [local irreducible] Lib.join Ca Aa
def Ac6:PC:=PC.of (fun x:List UInt8 × Int=>[.str x.1]) (fun x=>kindOf x.1=x.2) (fun x=>.int .i64 x.2)
theorem Ams{W:World}(hW:Tabs W):GoodP (Fw W) Tryz.prog 79 Ac6:=by
 refine(nH hW).imp fun cs Q h=>?_
 obtain⟨⟨s,k⟩,h1,h2,h3⟩:=h
 have h1:kindOf s=k:=h1
 subst h1
 have hcs:cs=[.str s]:=by
  match cs,h2 with
  |[c],h2=>
   have h4:leA (fun i=>i) c (.str s):=h2.1
   cases c with
   |str t=>have h5:t=s:=h4;rw[h5]
   |_=>exact h4.elim
 subst hcs
 show True∧Q _
 rw[Cm]
 exact⟨trivial,h3⟩
def A2a(l:List Coupon):Blk:=match l with
 |[]=>.dead
 |c::l=>.row 6 (l.length+1) (fun e=>((c::l).getD e default).enc)
def A2b(id:Nat):List Coupon→AV
 |[]=>.nilsl
 |_::l=>.osl id 6 0 (l.length+1) none
def A2c(l:List Tax):Blk:=match l with
 |[]=>.dead
 |c::l=>.row 2 (l.length+1) (fun e=>((c::l).getD e default).enc)
def A2d(id:Nat):List Tax→AV
 |[]=>.nilsl
 |_::l=>.osl id 2 0 (l.length+1) none
def Atu(p:Nat)(s:List UInt8)(H:List Blk):LoopSpec:={
 α:=List Coupon
 keep:=[0,10,11,12]
 vals L:=[.ptr p 0,slS (sL (Aa 44 s)),.int .i64 (sL (Aa 44 s)).length,.int .i64 L.length]
 heap L:=setCell H p 7 (A2b H.length L)++[A2a L]
 ok L:=L.length≤(sL (Aa 44 s)).length∧L=((sL (Aa 44 s)).take L.length).map (fun w=>(Eu w).1)∧∀ w ∈ (sL (Aa 44 s)).take L.length,(Eu w).2=true
 μ L:=(sL (Aa 44 s)).length - L.length }
def A2e(cs:List AV)(H:List Blk):LoopSpec:=match cs with
 |[.ptr p _,.str s]=>Atu p s H
 |_=>Atu 0 [] H
def Atv(p:Nat)(s:List UInt8)(H:List Blk):LoopSpec:={
 α:=List Tax
 keep:=[0,15,16,17]
 vals L:=[.ptr p 0,slS (sL (Aa 44 s)),.int .i64 (sL (Aa 44 s)).length,.int .i64 L.length]
 heap L:=setCell H p 8 (A2d H.length L)++[A2c L]
 ok L:=L.length≤(sL (Aa 44 s)).length∧L=((sL (Aa 44 s)).take L.length).map (fun w=>(Dq w).1)∧∀ w ∈ (sL (Aa 44 s)).take L.length,(Dq w).2=true
 μ L:=(sL (Aa 44 s)).length - L.length }
def A2f(cs:List AV)(H:List Blk):LoopSpec:=match cs with
 |[.ptr p _,.str s]=>Atv p s H
 |_=>Atv 0 [] H
def Amt:PC:=PC.of (fun x:List UInt8 × Request × Int=>[.str x.1]) (fun x=>R6 x.1=x.2∧x.1.length≤1000000∧(kindOf ((Aa 32 x.1).getD 0 [])≠1∧kindOf ((Aa 32 x.1).getD 0 [])≠5)) (fun x=>.tup [.agg x.2.1.enc,.int .i64 x.2.2])
def Bw:PT:=C8 [(24,Ur),(71,iW),(78,xZ),(79,Ac6),(93,cP),(153,Atb),(156,Atf),(159,fK),(223,Alr),(224,Aff)]
theorem Dr{W:World}(hW:Tabs W):Ct (Fw W) Tryz.prog Bw:=(Ab Tryz.call24 (Z1 hW) (Ab Tryz.call71 (Yd hW) (Ab Tryz.call78 (Ais hW) (Ab Tryz.call79 (Ams hW) (Ab Tryz.call93 (M7 hW) (Ab Tryz.call153 (Aag hW) (Ab Tryz.call156 (Abb hW) (Ab Tryz.call159 (pG hW) (Ab Tryz.call223 (Xt hW) (Ab Tryz.call224 (Vr hW) Av))))))))))
def Ac7:FuncId→Option Ctr:=Az Bw []
theorem Ac8{W:World}(hW:Tabs W):Ad (Fw W) Tryz.prog Ac7:=(Aw (Dr hW))
def uK:List (FuncId × Ctr):=(74,inl TY Ac7 Bw (fun _=>false) (fun _ _ _=>none) Tryz.f74)::[]
def uL:FuncId→Option Ctr:=Az Bw uK
theorem uM{W:World}(hW:Tabs W):Ad (Fw W) Tryz.prog uL:=Ae Tryz.call74 (Ag rfl Ao (Dr hW) (Ac8 hW) Tryz.func74 (fun _ _ _=>none)) (Ac8 hW)
def uN:List (FuncId × Ctr):=(144,inl TY uL Bw (fun _=>false) (fun _ _ _=>none) Tryz.f144)::uK
def uO:FuncId→Option Ctr:=Az Bw uN
theorem uP{W:World}(hW:Tabs W):Ad (Fw W) Tryz.prog uO:=Ae Tryz.call144 (Ag rfl Ao (Dr hW) (uM hW) Tryz.func144 (fun _ _ _=>none)) (uM hW)
def uQ:List (FuncId × Ctr):=(145,inl TY uO Bw (fun _=>false) (fun _ _ _=>none) Tryz.f145)::uN
def uR:FuncId→Option Ctr:=Az Bw uQ
theorem uS{W:World}(hW:Tabs W):Ad (Fw W) Tryz.prog uR:=Ae Tryz.call145 (Ag rfl Ao (Dr hW) (uP hW) Tryz.func145 (fun _ _ _=>none)) (uP hW)
def uT:List (FuncId × Ctr):=(147,inl TY uR Bw (fun _=>false) (fun _ _ _=>none) Tryz.f147)::uQ
def uU:FuncId→Option Ctr:=Az Bw uT
theorem uV{W:World}(hW:Tabs W):Ad (Fw W) Tryz.prog uU:=Ae Tryz.call147 (Ag rfl Ao (Dr hW) (uS hW) Tryz.func147 (fun _ _ _=>none)) (uS hW)
def uW:List (FuncId × Ctr):=(148,inl TY uU Bw (fun _=>false) (fun _ _ _=>none) Tryz.f148)::uT
def uX:FuncId→Option Ctr:=Az Bw uW
theorem uY{W:World}(hW:Tabs W):Ad (Fw W) Tryz.prog uX:=Ae Tryz.call148 (Ag rfl Ao (Dr hW) (uV hW) Tryz.func148 (fun _ _ _=>none)) (uV hW)
def uZ:List (FuncId × Ctr):=(149,inl TY uX Bw (fun _=>false) (fun _ _ _=>none) Tryz.f149)::uW
def vA:FuncId→Option Ctr:=Az Bw uZ
theorem vB{W:World}(hW:Tabs W):Ad (Fw W) Tryz.prog vA:=Ae Tryz.call149 (Ag rfl Ao (Dr hW) (uY hW) Tryz.func149 (fun _ _ _=>none)) (uY hW)
def vC:List (FuncId × Ctr):=(150,inl TY vA Bw (fun _=>false) (fun _ _ _=>none) Tryz.f150)::uZ
def vD:FuncId→Option Ctr:=Az Bw vC
theorem vE{W:World}(hW:Tabs W):Ad (Fw W) Tryz.prog vD:=Ae Tryz.call150 (Ag rfl Ao (Dr hW) (vB hW) Tryz.func150 (fun _ _ _=>none)) (vB hW)
def vF:List (FuncId × Ctr):=(152,inl TY vD Bw (fun _=>false) (fun _ _ _=>none) Tryz.f152)::vC
def vG:FuncId→Option Ctr:=Az Bw vF
theorem vH{W:World}(hW:Tabs W):Ad (Fw W) Tryz.prog vG:=Ae Tryz.call152 (Ag rfl Ao (Dr hW) (vE hW) Tryz.func152 (fun _ _ _=>none)) (vE hW)
def vI:List (FuncId × Ctr):=(155,inl TY vG Bw (fun _=>false) (fun _ _ _=>none) Tryz.f155)::vF
def vJ:FuncId→Option Ctr:=Az Bw vI
theorem vK{W:World}(hW:Tabs W):Ad (Fw W) Tryz.prog vJ:=Ae Tryz.call155 (Ag rfl Ao (Dr hW) (vH hW) Tryz.func155 (fun _ _ _=>none)) (vH hW)
def kC:List (FuncId × Ctr):=(158,inl TY vJ Bw (fun _=>false) (fun _ _ _=>none) Tryz.f158)::vI
def kD:FuncId→Option Ctr:=Az Bw kC
theorem kE{W:World}(hW:Tabs W):Ad (Fw W) Tryz.prog kD:=Ae Tryz.call158 (Ag rfl Ao (Dr hW) (vK hW) Tryz.func158 (fun _ _ _=>none)) (vK hW)
def kF:List (FuncId × Ctr):=(217,inl TY kD Bw (fun _=>false) (fun _ _ _=>none) Tryz.f217)::kC
def kG:FuncId→Option Ctr:=Az Bw kF
theorem kH{W:World}(hW:Tabs W):Ad (Fw W) Tryz.prog kG:=Ae Tryz.call217 (Ag rfl Ao (Dr hW) (kE hW) Tryz.func217 (fun _ _ _=>none)) (kE hW)
def kI:List (FuncId × Ctr):=(219,inl TY kG Bw (fun _=>false) (fun _ _ _=>none) Tryz.f219)::kF
def kJ:FuncId→Option Ctr:=Az Bw kI
theorem kK{W:World}(hW:Tabs W):Ad (Fw W) Tryz.prog kJ:=Ae Tryz.call219 (Ag rfl Ao (Dr hW) (kH hW) Tryz.func219 (fun _ _ _=>none)) (kH hW)
def kL:List (FuncId × Ctr):=(143,inl TY kJ Bw (fun _=>false) (fun _ _ _=>none) Tryz.f143)::kI
def kM:FuncId→Option Ctr:=Az Bw kL
theorem kN{W:World}(hW:Tabs W):Ad (Fw W) Tryz.prog kM:=Ae Tryz.call143 (Ag rfl Ao (Dr hW) (kK hW) Tryz.func143 (fun _ _ _=>none)) (kK hW)
def kO:List (FuncId × Ctr):=(146,inl TY kM Bw (fun _=>false) (fun _ _ _=>none) Tryz.f146)::kL
def kP:FuncId→Option Ctr:=Az Bw kO
theorem kQ{W:World}(hW:Tabs W):Ad (Fw W) Tryz.prog kP:=Ae Tryz.call146 (Ag rfl Ao (Dr hW) (kN hW) Tryz.func146 (fun _ _ _=>none)) (kN hW)
def bR:List AV→List Blk→Nat→Option LR:=fun cs H i=>cond (Nat.beq i 7) (some (.order [0,1,2,3,4,5,6,7,8,9,10])) ((fun cs H i=>cond (Nat.beq i 2) (some (.inv (A2e cs H))) none) cs H i)
def kR:List (FuncId × Ctr):=(161,inl TY kP Bw (fun _=>false) (bR) Tryz.f161)::kO
def kS:FuncId→Option Ctr:=Az Bw kR
theorem kT{W:World}(hW:Tabs W):Ad (Fw W) Tryz.prog kS:=Ae Tryz.call161 (Ag rfl Ao (Dr hW) (kQ hW) Tryz.func161 (bR)) (kQ hW)
def bS:List AV→List Blk→Nat→Option LR:=fun cs H i=>cond (Nat.beq i 4) (some (.inv (A2f cs H))) none
def kU:List (FuncId × Ctr):=(163,inl TY kS Bw (fun _=>false) (bS) Tryz.f163)::kR
def kV:FuncId→Option Ctr:=Az Bw kU
theorem kW{W:World}(hW:Tabs W):Ad (Fw W) Tryz.prog kV:=Ae Tryz.call163 (Ag rfl Ao (Dr hW) (kT hW) Tryz.func163 (bS)) (kT hW)
def Afm:List (FuncId × Ctr):=(72,inl TY kV Bw (fun _=>false) (fun _ _ _=>none) Tryz.f72)::kU
def Iz:FuncId→Option Ctr:=Az Bw Afm
theorem Wp{W:World}(hW:Tabs W):Ad (Fw W) Tryz.prog Iz:=Ae Tryz.call72 (Ag rfl Ao (Dr hW) (kW hW) Tryz.func72 (fun _ _ _=>none)) (kW hW)
def Amu:List UInt8 × Request × Int→Nat→Option LR:=fun x i=>cond (Nat.beq i 8) (some (.unroll 7)) (none)
set_option maxHeartbeats 4000000 in
theorem Amv{W:World}(hW:Tabs W):GoodP (Fw W) Tryz.prog 26 Amt:=by
 have hD:=Dr hW
 have hC0:∀ x:List UInt8 × Request × Int,Ad (Fw W) Tryz.prog Iz:=fun x=>(Wp hW)
 refine As (D:=Bw) (C:=fun x=>Iz) (wr:=(fun _=>false)) rfl Ao hD hC0 Tryz.func26 (Amu) (fun _=>rfl) ?_
 intro x hf hp
 clear hf
 obtain⟨hq,hs,hn1,hn5⟩:=hp
 have hcut:=Ik 32 x.1
 have hlen1:=Ei 32 x.1
 have hsL:=Do (Aa 32 x.1)
 have hl1:1≤(sL (Aa 32 x.1)).length:=by rw[hsL];exact hlen1
 have hmem:∀ i,((sL (Aa 32 x.1)).getD i []).length≤1000000:=fun i=>by
  rw[hsL,List.getD_eq_getElem?_getD]
  cases h:(Aa 32 x.1)[i]? with
  |none=>simp
  |some w=>have:=(Qb x.1 w (List.mem_of_getElem? h)).1;simp;omega
 have hfail:(∀ r,Af r=true→Bf r=x.1→False)→x.2=(An,4):=fun h=>by rw[←hq];exact X5 h
 rw[←hsL] at hn1 hn5
 rcases(J2 ((sL (Aa 32 x.1)).getD (Int.toNat 0) [])) with hk|hk|hk|hk|hk|hk|hk|hk|hk|hk|hk
 ·have hk2:kindOf ((Aa 32 x.1).getD 0 [])=0:=by rw[hsL] at hk;exact hk
  have hno:x.2=(An,4):=hfail fun r hm hw=>by
   have h1:=Dy hm hw hk2
   rcases Gh hm with h|h|h|h|h|h|h|h|h|h<;>omega
  obtain⟨r0,w0⟩:=Au (l:=[70,85]) 0 (by decide) (by decide)
  obtain⟨r1,w1⟩:=Au (l:=[70,85]) 1 (by decide) (by decide)
  have r2:=True.intro
  have w2:=True.intro
  have r3:=True.intro
  have w3:=True.intro
  have r4:=True.intro
  have w4:=True.intro
  have r5:=True.intro
  have w5:=True.intro
  have v0:Ai (⟨#[70,85]⟩:ByteArray).data.toList 0=1:=w0
  have v1:Ai (⟨#[70,85]⟩:ByteArray).data.toList (0+Ai (⟨#[70,85]⟩:ByteArray).data.toList 0)=1:=by rw[v0];exact w1
  have hrow:(([70,85]:List UInt8).length:Int)=2:=rfl
  (conv=>whnf)
  (repeat' ((first
   |((with_reducible refine aI ?_ ?_);focus (omega))
   |fail)<;>(conv=>whnf)))
  refine⟨(((sL (Aa 32 x.1)).getD (Int.toNat 0) [],(0:Int)):List UInt8 × Int),hk,?_,?_⟩
  ·exact Ac _
  (conv=>whnf)
  (repeat' ((first
   |with_reducible exact⟨⟩
   |(with_reducible refine Ar ?_)
   |((with_reducible refine aI ?_ ?_);focus (first|with_reducible exact⟨⟩|exact tO|with_reducible rfl|omega|exact tK))
   |(conv=>arg 2;(first|change eqI (Bj _ _) _|change decide (_+Ai _ _<_)|change ! (sB _));simp only[List.toList_toArray,Bh,r0,r1,r2,r3,r4,r5,w0,w1,w2,w3,w4,w5,Nat.zero_add,Nat.reduceAdd,List.length_cons,List.length_nil])
   |(split<;>rename_i hh<;>(try simp only[wS] at hh))
   |with_reducible refine lnI fun hln=>?_
   |with_reducible refine iA ?_ ?_
   |fail)<;>(conv=>whnf)))
  all_goals try (rw[hno]<;>rfl)
  refine⟨(⟨[],0,0,0,0,0,[],[],[],0,(Aq ((sL (Aa 32 x.1)).getD 1 [])).1,(Aq ((sL (Aa 32 x.1)).getD 2 [])).1⟩:Request),⟨Nat.zero_le _,Nat.zero_le _⟩,?_,?_⟩
  ·(conv=>whnf)
   (repeat' ((first|with_reducible exact⟨⟩|((with_reducible refine aI ?_ ?_);focus (exact tA))|with_reducible refine iA ?_ ?_|fail)<;>(conv=>whnf)))
   all_goals (try simp only[wQ])
   all_goals (try first|rfl)
   all_goals (simp only[w0,w1,w2,w3,w4,w5,Nat.zero_add,Nat.reduceAdd];rfl)
  (conv=>whnf)
  (repeat' ((first
   |with_reducible exact⟨⟩
   |((with_reducible refine aI ?_ ?_);focus (with_reducible rfl))
   |(conv=>arg 2;change ! (sB _);simp only[List.toList_toArray,Bh,r0,r1,r2,r3,r4,r5,w0,w1,w2,w3,w4,w5,Nat.zero_add,Nat.reduceAdd,List.length_cons,List.length_nil])
   |(split<;>rename_i hh<;>(try simp only[wS] at hh))
   |with_reducible refine iA ?_ ?_
   |fail)<;>(conv=>whnf)))
  all_goals first|(rw[hno]<;>rfl)|(exfalso;rw[Qe (show¬(1≤(0:Int)∧(0:Int)≤10) by decide)] at hh;cases hh)
 ·exact absurd hk hn1
 ·have hk2:kindOf ((Aa 32 x.1).getD 0 [])=2:=by rw[hsL] at hk;exact hk
  have hrd:∀ r,Af r=true→Bf r=x.1→(⟨((sL (Aa 32 x.1)).getD 1 []),2,(Aq ((sL (Aa 32 x.1)).getD 2 [])).1,(numOf ((sL (Aa 32 x.1)).getD 3 [])).1,(Aq ((sL (Aa 32 x.1)).getD 4 [])).1,(statOf ((sL (Aa 32 x.1)).getD 5 [])),[],[],[],0,0,0⟩:Request)=r:=fun r hm hw=>by
   have hc:=Al4 hm hw hk2
   rw[hsL,hc.1];simp only[List.getD_cons_zero,List.getD_cons_succ,hc.2.2.1,hc.2.2.2.1,hc.2.2.2.2.1,hc.2.2.2.2.2.1.1];exact hc.2.1.symm
  obtain⟨r0,w0⟩:=Au (l:=[75,68,84,78,83]) 0 (by decide) (by decide)
  obtain⟨r1,w1⟩:=Au (l:=[75,68,84,78,83]) 1 (by decide) (by decide)
  obtain⟨r2,w2⟩:=Au (l:=[75,68,84,78,83]) 2 (by decide) (by decide)
  obtain⟨r3,w3⟩:=Au (l:=[75,68,84,78,83]) 3 (by decide) (by decide)
  obtain⟨r4,w4⟩:=Au (l:=[75,68,84,78,83]) 4 (by decide) (by decide)
  have r5:=True.intro
  have w5:=True.intro
  have v0:Ai (⟨#[75,68,84,78,83]⟩:ByteArray).data.toList 0=1:=w0
  have v1:Ai (⟨#[75,68,84,78,83]⟩:ByteArray).data.toList (0+Ai (⟨#[75,68,84,78,83]⟩:ByteArray).data.toList 0)=1:=by rw[v0];exact w1
  have v2:Ai (⟨#[75,68,84,78,83]⟩:ByteArray).data.toList ((0+Ai (⟨#[75,68,84,78,83]⟩:ByteArray).data.toList 0)+Ai (⟨#[75,68,84,78,83]⟩:ByteArray).data.toList (0+Ai (⟨#[75,68,84,78,83]⟩:ByteArray).data.toList 0))=1:=by rw[v1,v0];exact w2
  have v3:Ai (⟨#[75,68,84,78,83]⟩:ByteArray).data.toList (((0+Ai (⟨#[75,68,84,78,83]⟩:ByteArray).data.toList 0)+Ai (⟨#[75,68,84,78,83]⟩:ByteArray).data.toList (0+Ai (⟨#[75,68,84,78,83]⟩:ByteArray).data.toList 0))+Ai (⟨#[75,68,84,78,83]⟩:ByteArray).data.toList ((0+Ai (⟨#[75,68,84,78,83]⟩:ByteArray).data.toList 0)+Ai (⟨#[75,68,84,78,83]⟩:ByteArray).data.toList (0+Ai (⟨#[75,68,84,78,83]⟩:ByteArray).data.toList 0)))=1:=by rw[v2,v1,v0];exact w3
  have v4:Ai (⟨#[75,68,84,78,83]⟩:ByteArray).data.toList ((((0+Ai (⟨#[75,68,84,78,83]⟩:ByteArray).data.toList 0)+Ai (⟨#[75,68,84,78,83]⟩:ByteArray).data.toList (0+Ai (⟨#[75,68,84,78,83]⟩:ByteArray).data.toList 0))+Ai (⟨#[75,68,84,78,83]⟩:ByteArray).data.toList ((0+Ai (⟨#[75,68,84,78,83]⟩:ByteArray).data.toList 0)+Ai (⟨#[75,68,84,78,83]⟩:ByteArray).data.toList (0+Ai (⟨#[75,68,84,78,83]⟩:ByteArray).data.toList 0)))+Ai (⟨#[75,68,84,78,83]⟩:ByteArray).data.toList (((0+Ai (⟨#[75,68,84,78,83]⟩:ByteArray).data.toList 0)+Ai (⟨#[75,68,84,78,83]⟩:ByteArray).data.toList (0+Ai (⟨#[75,68,84,78,83]⟩:ByteArray).data.toList 0))+Ai (⟨#[75,68,84,78,83]⟩:ByteArray).data.toList ((0+Ai (⟨#[75,68,84,78,83]⟩:ByteArray).data.toList 0)+Ai (⟨#[75,68,84,78,83]⟩:ByteArray).data.toList (0+Ai (⟨#[75,68,84,78,83]⟩:ByteArray).data.toList 0))))=1:=by rw[v3,v2,v1,v0];exact w4
  have hrow:(([75,68,84,78,83]:List UInt8).length:Int)=5:=rfl
  (conv=>whnf)
  (repeat' ((first
   |((with_reducible refine aI ?_ ?_);focus (omega))
   |fail)<;>(conv=>whnf)))
  refine⟨(((sL (Aa 32 x.1)).getD (Int.toNat 0) [],(2:Int)):List UInt8 × Int),hk,?_,?_⟩
  ·exact Ac _
  (conv=>whnf)
  (repeat' ((first
   |with_reducible exact⟨⟩
   |(with_reducible refine Ar ?_)
   |((with_reducible refine aI ?_ ?_);focus (first|with_reducible exact⟨⟩|exact tO|with_reducible rfl|omega|exact tK|(dsimp only at*;simp only[Ak,Go.Vc.lo,Go.Vc.hi];omega)))
   |(conv=>arg 2;(first|change eqI (Bj _ _) _|change decide (_+Ai _ _<_)|change ! (sB _));simp only[List.toList_toArray,Bh,r0,r1,r2,r3,r4,r5,w0,w1,w2,w3,w4,w5,Nat.zero_add,Nat.reduceAdd,List.length_cons,List.length_nil])
   |(split<;>rename_i hh<;>(try simp only[wS] at hh))
   |with_reducible refine lnI fun hln=>?_
   |with_reducible refine iA ?_ ?_
   |fail)<;>(conv=>whnf)))
  all_goals try (
   have hz:x.2=(An,4):=by
    refine hfail fun r hm hw=>?_
    have hc:=Al4 hm hw hk2
    try simp only[List.toList_toArray,w0,w1,w2,w3,w4,w5,Nat.zero_add,Nat.reduceAdd] at hh
    rw[hsL,hc.1] at hh
    first|exact hh rfl|(cases hh.symm.trans (congrArg Prod.snd hc.2.2.1))|(exact absurd (congrArg Prod.snd hc.2.2.2.1) hh)|(cases hh.symm.trans (congrArg Prod.snd hc.2.2.2.2.1))|(exact hh ((fJ (C2 r.status)).elim (fun h=>absurd (hc.2.2.2.2.2.1.1.symm.trans h.1) hc.2.2.2.2.2.1.2) (fun h=>h.2)))
   rw[hz]<;>rfl)
  refine⟨(⟨((sL (Aa 32 x.1)).getD 1 []),2,(Aq ((sL (Aa 32 x.1)).getD 2 [])).1,(numOf ((sL (Aa 32 x.1)).getD 3 [])).1,(Aq ((sL (Aa 32 x.1)).getD 4 [])).1,(statOf ((sL (Aa 32 x.1)).getD 5 [])),[],[],[],0,0,0⟩:Request),⟨Nat.zero_le _,Nat.zero_le _⟩,?_,?_⟩
  ·(conv=>whnf)
   (repeat' ((first|with_reducible exact⟨⟩|((with_reducible refine aI ?_ ?_);focus (exact tA))|with_reducible refine iA ?_ ?_|fail)<;>(conv=>whnf)))
   all_goals (try simp only[wQ])
   all_goals (simp only[w0,w1,w2,w3,w4,w5,Nat.zero_add,Nat.reduceAdd];rfl)
  (conv=>whnf)
  (repeat' ((first
   |with_reducible exact⟨⟩
   |((with_reducible refine aI ?_ ?_);focus (with_reducible rfl))
   |(conv=>arg 2;change ! (sB _);simp only[List.toList_toArray,Bh,r0,r1,r2,r3,r4,r5,w0,w1,w2,w3,w4,w5,Nat.zero_add,Nat.reduceAdd,List.length_cons,List.length_nil])
   |(split<;>rename_i hh<;>(try simp only[wS] at hh))
   |with_reducible refine iA ?_ ?_
   |fail)<;>(conv=>whnf)))
  all_goals try (
   have hz:x.2=(An,4):=by
    refine hfail fun r hm hw=>?_
    rw[hrd r hm hw,hm] at hh
    cases hh
   rw[hz]<;>rfl)
  refine⟨(⟨((sL (Aa 32 x.1)).getD 1 []),2,(Aq ((sL (Aa 32 x.1)).getD 2 [])).1,(numOf ((sL (Aa 32 x.1)).getD 3 [])).1,(Aq ((sL (Aa 32 x.1)).getD 4 [])).1,(statOf ((sL (Aa 32 x.1)).getD 5 [])),[],[],[],0,0,0⟩:Request),⟨Nat.zero_le _,Nat.zero_le _⟩,?_,?_⟩
  ·(conv=>whnf)
   (repeat' ((first|with_reducible exact⟨⟩|((with_reducible refine aI ?_ ?_);focus (exact tA))|with_reducible refine iA ?_ ?_|fail)<;>(conv=>whnf)))
   all_goals (try simp only[wQ])
   all_goals (simp only[w0,w1,w2,w3,w4,w5,Nat.zero_add,Nat.reduceAdd];rfl)
  (conv=>whnf)
  (repeat' ((first
   |with_reducible exact⟨⟩
   |((with_reducible refine aI ?_ ?_);focus (with_reducible rfl))
   |(split<;>rename_i hh<;>(try simp only[wS] at hh))
   |with_reducible refine iA ?_ ?_
   |fail)<;>(conv=>whnf)))
  all_goals (try (show _=_;simp only[wQ]))
  all_goals try (
   have hz:x.2=(An,4):=by
    refine hfail fun r hm hw=>?_
    rw[hrd r hm hw] at hh
    exact hh hw
   rw[hz]<;>rfl)
  all_goals (
   have hz:=hq.symm.trans (Df (by assumption) (by assumption) hrd)
   try simp only[List.toList_toArray,w0,w1,w2,w3,w4,w5,Nat.zero_add,Nat.reduceAdd]
   rw[hz]<;>rfl)
 ·have hk2:kindOf ((Aa 32 x.1).getD 0 [])=3:=by rw[hsL] at hk;exact hk
  have hrd:∀ r,Af r=true→Bf r=x.1→(⟨((sL (Aa 32 x.1)).getD 1 []),3,(Aq ((sL (Aa 32 x.1)).getD 2 [])).1,(numOf ((sL (Aa 32 x.1)).getD 3 [])).1,0,0,[],[],[],0,0,0⟩:Request)=r:=fun r hm hw=>by
   have hc:=Al5 hm hw hk2
   rw[hsL,hc.1];simp only[List.getD_cons_zero,List.getD_cons_succ,hc.2.2.1,hc.2.2.2.1];exact hc.2.1.symm
  obtain⟨r0,w0⟩:=Au (l:=[75,68,84]) 0 (by decide) (by decide)
  obtain⟨r1,w1⟩:=Au (l:=[75,68,84]) 1 (by decide) (by decide)
  obtain⟨r2,w2⟩:=Au (l:=[75,68,84]) 2 (by decide) (by decide)
  have r3:=True.intro
  have w3:=True.intro
  have r4:=True.intro
  have w4:=True.intro
  have r5:=True.intro
  have w5:=True.intro
  have v0:Ai (⟨#[75,68,84]⟩:ByteArray).data.toList 0=1:=w0
  have v1:Ai (⟨#[75,68,84]⟩:ByteArray).data.toList (0+Ai (⟨#[75,68,84]⟩:ByteArray).data.toList 0)=1:=by rw[v0];exact w1
  have v2:Ai (⟨#[75,68,84]⟩:ByteArray).data.toList ((0+Ai (⟨#[75,68,84]⟩:ByteArray).data.toList 0)+Ai (⟨#[75,68,84]⟩:ByteArray).data.toList (0+Ai (⟨#[75,68,84]⟩:ByteArray).data.toList 0))=1:=by rw[v1,v0];exact w2
  have hrow:(([75,68,84]:List UInt8).length:Int)=3:=rfl
  (conv=>whnf)
  (repeat' ((first
   |((with_reducible refine aI ?_ ?_);focus (omega))
   |fail)<;>(conv=>whnf)))
  refine⟨(((sL (Aa 32 x.1)).getD (Int.toNat 0) [],(3:Int)):List UInt8 × Int),hk,?_,?_⟩
  ·exact Ac _
  (conv=>whnf)
  (repeat' ((first
   |with_reducible exact⟨⟩
   |(with_reducible refine Ar ?_)
   |((with_reducible refine aI ?_ ?_);focus (first|with_reducible exact⟨⟩|exact tO|with_reducible rfl|omega|exact tK|(dsimp only at*;simp only[Ak,Go.Vc.lo,Go.Vc.hi];omega)))
   |(conv=>arg 2;(first|change eqI (Bj _ _) _|change decide (_+Ai _ _<_)|change ! (sB _));simp only[List.toList_toArray,Bh,r0,r1,r2,r3,r4,r5,w0,w1,w2,w3,w4,w5,Nat.zero_add,Nat.reduceAdd,List.length_cons,List.length_nil])
   |(split<;>rename_i hh<;>(try simp only[wS] at hh))
   |with_reducible refine lnI fun hln=>?_
   |with_reducible refine iA ?_ ?_
   |fail)<;>(conv=>whnf)))
  all_goals try (
   have hz:x.2=(An,4):=by
    refine hfail fun r hm hw=>?_
    have hc:=Al5 hm hw hk2
    try simp only[List.toList_toArray,w0,w1,w2,w3,w4,w5,Nat.zero_add,Nat.reduceAdd] at hh
    rw[hsL,hc.1] at hh
    first|exact hh rfl|(cases hh.symm.trans (congrArg Prod.snd hc.2.2.1))|(exact absurd (congrArg Prod.snd hc.2.2.2.1) hh)
   rw[hz]<;>rfl)
  refine⟨(⟨((sL (Aa 32 x.1)).getD 1 []),3,(Aq ((sL (Aa 32 x.1)).getD 2 [])).1,(numOf ((sL (Aa 32 x.1)).getD 3 [])).1,0,0,[],[],[],0,0,0⟩:Request),⟨Nat.zero_le _,Nat.zero_le _⟩,?_,?_⟩
  ·(conv=>whnf)
   (repeat' ((first|with_reducible exact⟨⟩|((with_reducible refine aI ?_ ?_);focus (exact tA))|with_reducible refine iA ?_ ?_|fail)<;>(conv=>whnf)))
   all_goals (try simp only[wQ])
   all_goals (simp only[w0,w1,w2,w3,w4,w5,Nat.zero_add,Nat.reduceAdd];rfl)
  (conv=>whnf)
  (repeat' ((first
   |with_reducible exact⟨⟩
   |((with_reducible refine aI ?_ ?_);focus (with_reducible rfl))
   |(conv=>arg 2;change ! (sB _);simp only[List.toList_toArray,Bh,r0,r1,r2,r3,r4,r5,w0,w1,w2,w3,w4,w5,Nat.zero_add,Nat.reduceAdd,List.length_cons,List.length_nil])
   |(split<;>rename_i hh<;>(try simp only[wS] at hh))
   |with_reducible refine iA ?_ ?_
   |fail)<;>(conv=>whnf)))
  all_goals try (
   have hz:x.2=(An,4):=by
    refine hfail fun r hm hw=>?_
    rw[hrd r hm hw,hm] at hh
    cases hh
   rw[hz]<;>rfl)
  refine⟨(⟨((sL (Aa 32 x.1)).getD 1 []),3,(Aq ((sL (Aa 32 x.1)).getD 2 [])).1,(numOf ((sL (Aa 32 x.1)).getD 3 [])).1,0,0,[],[],[],0,0,0⟩:Request),⟨Nat.zero_le _,Nat.zero_le _⟩,?_,?_⟩
  ·(conv=>whnf)
   (repeat' ((first|with_reducible exact⟨⟩|((with_reducible refine aI ?_ ?_);focus (exact tA))|with_reducible refine iA ?_ ?_|fail)<;>(conv=>whnf)))
   all_goals (try simp only[wQ])
   all_goals (simp only[w0,w1,w2,w3,w4,w5,Nat.zero_add,Nat.reduceAdd];rfl)
  (conv=>whnf)
  (repeat' ((first
   |with_reducible exact⟨⟩
   |((with_reducible refine aI ?_ ?_);focus (with_reducible rfl))
   |(split<;>rename_i hh<;>(try simp only[wS] at hh))
   |with_reducible refine iA ?_ ?_
   |fail)<;>(conv=>whnf)))
  all_goals (try (show _=_;simp only[wQ]))
  all_goals try (
   have hz:x.2=(An,4):=by
    refine hfail fun r hm hw=>?_
    rw[hrd r hm hw] at hh
    exact hh hw
   rw[hz]<;>rfl)
  all_goals (
   have hz:=hq.symm.trans (Df (by assumption) (by assumption) hrd)
   try simp only[List.toList_toArray,w0,w1,w2,w3,w4,w5,Nat.zero_add,Nat.reduceAdd]
   rw[hz]<;>rfl)
 ·have hk2:kindOf ((Aa 32 x.1).getD 0 [])=4:=by rw[hsL] at hk;exact hk
  have hrd:∀ r,Af r=true→Bf r=x.1→(⟨((sL (Aa 32 x.1)).getD 1 []),4,(Aq ((sL (Aa 32 x.1)).getD 2 [])).1,(numOf ((sL (Aa 32 x.1)).getD 3 [])).1,0,0,[],[],[],(Ds ((sL (Aa 32 x.1)).getD 4 [])).1,0,0⟩:Request)=r:=fun r hm hw=>by
   have hc:=Al6 hm hw hk2
   rw[hsL,hc.1];simp only[List.getD_cons_zero,List.getD_cons_succ,hc.2.2.1,hc.2.2.2.1,hc.2.2.2.2.1];exact hc.2.1.symm
  obtain⟨r0,w0⟩:=Au (l:=[75,68,84,65]) 0 (by decide) (by decide)
  obtain⟨r1,w1⟩:=Au (l:=[75,68,84,65]) 1 (by decide) (by decide)
  obtain⟨r2,w2⟩:=Au (l:=[75,68,84,65]) 2 (by decide) (by decide)
  obtain⟨r3,w3⟩:=Au (l:=[75,68,84,65]) 3 (by decide) (by decide)
  have r4:=True.intro
  have w4:=True.intro
  have r5:=True.intro
  have w5:=True.intro
  have v0:Ai (⟨#[75,68,84,65]⟩:ByteArray).data.toList 0=1:=w0
  have v1:Ai (⟨#[75,68,84,65]⟩:ByteArray).data.toList (0+Ai (⟨#[75,68,84,65]⟩:ByteArray).data.toList 0)=1:=by rw[v0];exact w1
  have v2:Ai (⟨#[75,68,84,65]⟩:ByteArray).data.toList ((0+Ai (⟨#[75,68,84,65]⟩:ByteArray).data.toList 0)+Ai (⟨#[75,68,84,65]⟩:ByteArray).data.toList (0+Ai (⟨#[75,68,84,65]⟩:ByteArray).data.toList 0))=1:=by rw[v1,v0];exact w2
  have v3:Ai (⟨#[75,68,84,65]⟩:ByteArray).data.toList (((0+Ai (⟨#[75,68,84,65]⟩:ByteArray).data.toList 0)+Ai (⟨#[75,68,84,65]⟩:ByteArray).data.toList (0+Ai (⟨#[75,68,84,65]⟩:ByteArray).data.toList 0))+Ai (⟨#[75,68,84,65]⟩:ByteArray).data.toList ((0+Ai (⟨#[75,68,84,65]⟩:ByteArray).data.toList 0)+Ai (⟨#[75,68,84,65]⟩:ByteArray).data.toList (0+Ai (⟨#[75,68,84,65]⟩:ByteArray).data.toList 0)))=1:=by rw[v2,v1,v0];exact w3
  have hrow:(([75,68,84,65]:List UInt8).length:Int)=4:=rfl
  (conv=>whnf)
  (repeat' ((first
   |((with_reducible refine aI ?_ ?_);focus (omega))
   |fail)<;>(conv=>whnf)))
  refine⟨(((sL (Aa 32 x.1)).getD (Int.toNat 0) [],(4:Int)):List UInt8 × Int),hk,?_,?_⟩
  ·exact Ac _
  (conv=>whnf)
  (repeat' ((first
   |with_reducible exact⟨⟩
   |(with_reducible refine Ar ?_)
   |((with_reducible refine aI ?_ ?_);focus (exact Nat.le_trans (hmem _) ((nB rfl))))
   |((with_reducible refine aI ?_ ?_);focus (first|with_reducible exact⟨⟩|exact tO|with_reducible rfl|omega|exact tK|(dsimp only at*;simp only[Ak,Go.Vc.lo,Go.Vc.hi];omega)))
   |(conv=>arg 2;(first|change eqI (Bj _ _) _|change decide (_+Ai _ _<_)|change ! (sB _));simp only[List.toList_toArray,Bh,r0,r1,r2,r3,r4,r5,w0,w1,w2,w3,w4,w5,Nat.zero_add,Nat.reduceAdd,List.length_cons,List.length_nil])
   |(split<;>rename_i hh<;>(try simp only[wS] at hh))
   |with_reducible refine lnI fun hln=>?_
   |with_reducible refine iA ?_ ?_
   |fail)<;>(conv=>whnf)))
  all_goals try (
   have hz:x.2=(An,4):=by
    refine hfail fun r hm hw=>?_
    have hc:=Al6 hm hw hk2
    try simp only[List.toList_toArray,w0,w1,w2,w3,w4,w5,Nat.zero_add,Nat.reduceAdd] at hh
    rw[hsL,hc.1] at hh
    first|exact hh rfl|(cases hh.symm.trans (congrArg Prod.snd hc.2.2.1))|(exact absurd (congrArg Prod.snd hc.2.2.2.1) hh)|(exact absurd (congrArg Prod.snd hc.2.2.2.2.1) hh)
   rw[hz]<;>rfl)
  refine⟨(⟨((sL (Aa 32 x.1)).getD 1 []),4,(Aq ((sL (Aa 32 x.1)).getD 2 [])).1,(numOf ((sL (Aa 32 x.1)).getD 3 [])).1,0,0,[],[],[],(Ds ((sL (Aa 32 x.1)).getD 4 [])).1,0,0⟩:Request),⟨Nat.zero_le _,Nat.zero_le _⟩,?_,?_⟩
  ·(conv=>whnf)
   (repeat' ((first|with_reducible exact⟨⟩|((with_reducible refine aI ?_ ?_);focus (exact tA))|with_reducible refine iA ?_ ?_|fail)<;>(conv=>whnf)))
   all_goals (try simp only[wQ])
   all_goals (simp only[w0,w1,w2,w3,w4,w5,Nat.zero_add,Nat.reduceAdd];rfl)
  (conv=>whnf)
  (repeat' ((first
   |with_reducible exact⟨⟩
   |((with_reducible refine aI ?_ ?_);focus (with_reducible rfl))
   |(conv=>arg 2;change ! (sB _);simp only[List.toList_toArray,Bh,r0,r1,r2,r3,r4,r5,w0,w1,w2,w3,w4,w5,Nat.zero_add,Nat.reduceAdd,List.length_cons,List.length_nil])
   |(split<;>rename_i hh<;>(try simp only[wS] at hh))
   |with_reducible refine iA ?_ ?_
   |fail)<;>(conv=>whnf)))
  all_goals try (
   have hz:x.2=(An,4):=by
    refine hfail fun r hm hw=>?_
    rw[hrd r hm hw,hm] at hh
    cases hh
   rw[hz]<;>rfl)
  refine⟨(⟨((sL (Aa 32 x.1)).getD 1 []),4,(Aq ((sL (Aa 32 x.1)).getD 2 [])).1,(numOf ((sL (Aa 32 x.1)).getD 3 [])).1,0,0,[],[],[],(Ds ((sL (Aa 32 x.1)).getD 4 [])).1,0,0⟩:Request),⟨Nat.zero_le _,Nat.zero_le _⟩,?_,?_⟩
  ·(conv=>whnf)
   (repeat' ((first|with_reducible exact⟨⟩|((with_reducible refine aI ?_ ?_);focus (exact tA))|with_reducible refine iA ?_ ?_|fail)<;>(conv=>whnf)))
   all_goals (try simp only[wQ])
   all_goals (simp only[w0,w1,w2,w3,w4,w5,Nat.zero_add,Nat.reduceAdd];rfl)
  (conv=>whnf)
  (repeat' ((first
   |with_reducible exact⟨⟩
   |((with_reducible refine aI ?_ ?_);focus (with_reducible rfl))
   |(split<;>rename_i hh<;>(try simp only[wS] at hh))
   |with_reducible refine iA ?_ ?_
   |fail)<;>(conv=>whnf)))
  all_goals (try (show _=_;simp only[wQ]))
  all_goals try (
   have hz:x.2=(An,4):=by
    refine hfail fun r hm hw=>?_
    rw[hrd r hm hw] at hh
    exact hh hw
   rw[hz]<;>rfl)
  all_goals (
   have hz:=hq.symm.trans (Df (by assumption) (by assumption) hrd)
   try simp only[List.toList_toArray,w0,w1,w2,w3,w4,w5,Nat.zero_add,Nat.reduceAdd]
   rw[hz]<;>rfl)
 ·exact absurd hk hn5
 ·have hk2:kindOf ((Aa 32 x.1).getD 0 [])=6:=by rw[hsL] at hk;exact hk
  have hrd:∀ r,Af r=true→Bf r=x.1→(⟨((sL (Aa 32 x.1)).getD 1 []),6,(Aq ((sL (Aa 32 x.1)).getD 2 [])).1,(numOf ((sL (Aa 32 x.1)).getD 3 [])).1,(Aq ((sL (Aa 32 x.1)).getD 4 [])).1,0,[],[],[],0,0,0⟩:Request)=r:=fun r hm hw=>by
   have hc:=Al7 hm hw hk2
   rw[hsL,hc.1];simp only[List.getD_cons_zero,List.getD_cons_succ,hc.2.2.1,hc.2.2.2.1,hc.2.2.2.2.1];exact hc.2.1.symm
  obtain⟨r0,w0⟩:=Au (l:=[75,68,84,78]) 0 (by decide) (by decide)
  obtain⟨r1,w1⟩:=Au (l:=[75,68,84,78]) 1 (by decide) (by decide)
  obtain⟨r2,w2⟩:=Au (l:=[75,68,84,78]) 2 (by decide) (by decide)
  obtain⟨r3,w3⟩:=Au (l:=[75,68,84,78]) 3 (by decide) (by decide)
  have r4:=True.intro
  have w4:=True.intro
  have r5:=True.intro
  have w5:=True.intro
  have v0:Ai (⟨#[75,68,84,78]⟩:ByteArray).data.toList 0=1:=w0
  have v1:Ai (⟨#[75,68,84,78]⟩:ByteArray).data.toList (0+Ai (⟨#[75,68,84,78]⟩:ByteArray).data.toList 0)=1:=by rw[v0];exact w1
  have v2:Ai (⟨#[75,68,84,78]⟩:ByteArray).data.toList ((0+Ai (⟨#[75,68,84,78]⟩:ByteArray).data.toList 0)+Ai (⟨#[75,68,84,78]⟩:ByteArray).data.toList (0+Ai (⟨#[75,68,84,78]⟩:ByteArray).data.toList 0))=1:=by rw[v1,v0];exact w2
  have v3:Ai (⟨#[75,68,84,78]⟩:ByteArray).data.toList (((0+Ai (⟨#[75,68,84,78]⟩:ByteArray).data.toList 0)+Ai (⟨#[75,68,84,78]⟩:ByteArray).data.toList (0+Ai (⟨#[75,68,84,78]⟩:ByteArray).data.toList 0))+Ai (⟨#[75,68,84,78]⟩:ByteArray).data.toList ((0+Ai (⟨#[75,68,84,78]⟩:ByteArray).data.toList 0)+Ai (⟨#[75,68,84,78]⟩:ByteArray).data.toList (0+Ai (⟨#[75,68,84,78]⟩:ByteArray).data.toList 0)))=1:=by rw[v2,v1,v0];exact w3
  have hrow:(([75,68,84,78]:List UInt8).length:Int)=4:=rfl
  (conv=>whnf)
  (repeat' ((first
   |((with_reducible refine aI ?_ ?_);focus (omega))
   |fail)<;>(conv=>whnf)))
  refine⟨(((sL (Aa 32 x.1)).getD (Int.toNat 0) [],(6:Int)):List UInt8 × Int),hk,?_,?_⟩
  ·exact Ac _
  (conv=>whnf)
  (repeat' ((first
   |with_reducible exact⟨⟩
   |(with_reducible refine Ar ?_)
   |((with_reducible refine aI ?_ ?_);focus (first|with_reducible exact⟨⟩|exact tO|with_reducible rfl|omega|exact tK|(dsimp only at*;simp only[Ak,Go.Vc.lo,Go.Vc.hi];omega)))
   |(conv=>arg 2;(first|change eqI (Bj _ _) _|change decide (_+Ai _ _<_)|change ! (sB _));simp only[List.toList_toArray,Bh,r0,r1,r2,r3,r4,r5,w0,w1,w2,w3,w4,w5,Nat.zero_add,Nat.reduceAdd,List.length_cons,List.length_nil])
   |(split<;>rename_i hh<;>(try simp only[wS] at hh))
   |with_reducible refine lnI fun hln=>?_
   |with_reducible refine iA ?_ ?_
   |fail)<;>(conv=>whnf)))
  all_goals try (
   have hz:x.2=(An,4):=by
    refine hfail fun r hm hw=>?_
    have hc:=Al7 hm hw hk2
    try simp only[List.toList_toArray,w0,w1,w2,w3,w4,w5,Nat.zero_add,Nat.reduceAdd] at hh
    rw[hsL,hc.1] at hh
    first|exact hh rfl|(cases hh.symm.trans (congrArg Prod.snd hc.2.2.1))|(exact absurd (congrArg Prod.snd hc.2.2.2.1) hh)|(cases hh.symm.trans (congrArg Prod.snd hc.2.2.2.2.1))
   rw[hz]<;>rfl)
  refine⟨(⟨((sL (Aa 32 x.1)).getD 1 []),6,(Aq ((sL (Aa 32 x.1)).getD 2 [])).1,(numOf ((sL (Aa 32 x.1)).getD 3 [])).1,(Aq ((sL (Aa 32 x.1)).getD 4 [])).1,0,[],[],[],0,0,0⟩:Request),⟨Nat.zero_le _,Nat.zero_le _⟩,?_,?_⟩
  ·(conv=>whnf)
   (repeat' ((first|with_reducible exact⟨⟩|((with_reducible refine aI ?_ ?_);focus (exact tA))|with_reducible refine iA ?_ ?_|fail)<;>(conv=>whnf)))
   all_goals (try simp only[wQ])
   all_goals (simp only[w0,w1,w2,w3,w4,w5,Nat.zero_add,Nat.reduceAdd];rfl)
  (conv=>whnf)
  (repeat' ((first
   |with_reducible exact⟨⟩
   |((with_reducible refine aI ?_ ?_);focus (with_reducible rfl))
   |(conv=>arg 2;change ! (sB _);simp only[List.toList_toArray,Bh,r0,r1,r2,r3,r4,r5,w0,w1,w2,w3,w4,w5,Nat.zero_add,Nat.reduceAdd,List.length_cons,List.length_nil])
   |(split<;>rename_i hh<;>(try simp only[wS] at hh))
   |with_reducible refine iA ?_ ?_
   |fail)<;>(conv=>whnf)))
  all_goals try (
   have hz:x.2=(An,4):=by
    refine hfail fun r hm hw=>?_
    rw[hrd r hm hw,hm] at hh
    cases hh
   rw[hz]<;>rfl)
  refine⟨(⟨((sL (Aa 32 x.1)).getD 1 []),6,(Aq ((sL (Aa 32 x.1)).getD 2 [])).1,(numOf ((sL (Aa 32 x.1)).getD 3 [])).1,(Aq ((sL (Aa 32 x.1)).getD 4 [])).1,0,[],[],[],0,0,0⟩:Request),⟨Nat.zero_le _,Nat.zero_le _⟩,?_,?_⟩
  ·(conv=>whnf)
   (repeat' ((first|with_reducible exact⟨⟩|((with_reducible refine aI ?_ ?_);focus (exact tA))|with_reducible refine iA ?_ ?_|fail)<;>(conv=>whnf)))
   all_goals (try simp only[wQ])
   all_goals (simp only[w0,w1,w2,w3,w4,w5,Nat.zero_add,Nat.reduceAdd];rfl)
  (conv=>whnf)
  (repeat' ((first
   |with_reducible exact⟨⟩
   |((with_reducible refine aI ?_ ?_);focus (with_reducible rfl))
   |(split<;>rename_i hh<;>(try simp only[wS] at hh))
   |with_reducible refine iA ?_ ?_
   |fail)<;>(conv=>whnf)))
  all_goals (try (show _=_;simp only[wQ]))
  all_goals try (
   have hz:x.2=(An,4):=by
    refine hfail fun r hm hw=>?_
    rw[hrd r hm hw] at hh
    exact hh hw
   rw[hz]<;>rfl)
  all_goals (
   have hz:=hq.symm.trans (Df (by assumption) (by assumption) hrd)
   try simp only[List.toList_toArray,w0,w1,w2,w3,w4,w5,Nat.zero_add,Nat.reduceAdd]
   rw[hz]<;>rfl)
 ·have hk2:kindOf ((Aa 32 x.1).getD 0 [])=7:=by rw[hsL] at hk;exact hk
  have hrd:∀ r,Af r=true→Bf r=x.1→(⟨((sL (Aa 32 x.1)).getD 1 []),7,(Aq ((sL (Aa 32 x.1)).getD 2 [])).1,(numOf ((sL (Aa 32 x.1)).getD 3 [])).1,(Aq ((sL (Aa 32 x.1)).getD 4 [])).1,0,[],[],[],0,0,0⟩:Request)=r:=fun r hm hw=>by
   have hc:=Al8 hm hw hk2
   rw[hsL,hc.1];simp only[List.getD_cons_zero,List.getD_cons_succ,hc.2.2.1,hc.2.2.2.1,hc.2.2.2.2.1];exact hc.2.1.symm
  obtain⟨r0,w0⟩:=Au (l:=[75,68,84,78]) 0 (by decide) (by decide)
  obtain⟨r1,w1⟩:=Au (l:=[75,68,84,78]) 1 (by decide) (by decide)
  obtain⟨r2,w2⟩:=Au (l:=[75,68,84,78]) 2 (by decide) (by decide)
  obtain⟨r3,w3⟩:=Au (l:=[75,68,84,78]) 3 (by decide) (by decide)
  have r4:=True.intro
  have w4:=True.intro
  have r5:=True.intro
  have w5:=True.intro
  have v0:Ai (⟨#[75,68,84,78]⟩:ByteArray).data.toList 0=1:=w0
  have v1:Ai (⟨#[75,68,84,78]⟩:ByteArray).data.toList (0+Ai (⟨#[75,68,84,78]⟩:ByteArray).data.toList 0)=1:=by rw[v0];exact w1
  have v2:Ai (⟨#[75,68,84,78]⟩:ByteArray).data.toList ((0+Ai (⟨#[75,68,84,78]⟩:ByteArray).data.toList 0)+Ai (⟨#[75,68,84,78]⟩:ByteArray).data.toList (0+Ai (⟨#[75,68,84,78]⟩:ByteArray).data.toList 0))=1:=by rw[v1,v0];exact w2
  have v3:Ai (⟨#[75,68,84,78]⟩:ByteArray).data.toList (((0+Ai (⟨#[75,68,84,78]⟩:ByteArray).data.toList 0)+Ai (⟨#[75,68,84,78]⟩:ByteArray).data.toList (0+Ai (⟨#[75,68,84,78]⟩:ByteArray).data.toList 0))+Ai (⟨#[75,68,84,78]⟩:ByteArray).data.toList ((0+Ai (⟨#[75,68,84,78]⟩:ByteArray).data.toList 0)+Ai (⟨#[75,68,84,78]⟩:ByteArray).data.toList (0+Ai (⟨#[75,68,84,78]⟩:ByteArray).data.toList 0)))=1:=by rw[v2,v1,v0];exact w3
  have hrow:(([75,68,84,78]:List UInt8).length:Int)=4:=rfl
  (conv=>whnf)
  (repeat' ((first
   |((with_reducible refine aI ?_ ?_);focus (omega))
   |fail)<;>(conv=>whnf)))
  refine⟨(((sL (Aa 32 x.1)).getD (Int.toNat 0) [],(7:Int)):List UInt8 × Int),hk,?_,?_⟩
  ·exact Ac _
  (conv=>whnf)
  (repeat' ((first
   |with_reducible exact⟨⟩
   |(with_reducible refine Ar ?_)
   |((with_reducible refine aI ?_ ?_);focus (first|with_reducible exact⟨⟩|exact tO|with_reducible rfl|omega|exact tK|(dsimp only at*;simp only[Ak,Go.Vc.lo,Go.Vc.hi];omega)))
   |(conv=>arg 2;(first|change eqI (Bj _ _) _|change decide (_+Ai _ _<_)|change ! (sB _));simp only[List.toList_toArray,Bh,r0,r1,r2,r3,r4,r5,w0,w1,w2,w3,w4,w5,Nat.zero_add,Nat.reduceAdd,List.length_cons,List.length_nil])
   |(split<;>rename_i hh<;>(try simp only[wS] at hh))
   |with_reducible refine lnI fun hln=>?_
   |with_reducible refine iA ?_ ?_
   |fail)<;>(conv=>whnf)))
  all_goals try (
   have hz:x.2=(An,4):=by
    refine hfail fun r hm hw=>?_
    have hc:=Al8 hm hw hk2
    try simp only[List.toList_toArray,w0,w1,w2,w3,w4,w5,Nat.zero_add,Nat.reduceAdd] at hh
    rw[hsL,hc.1] at hh
    first|exact hh rfl|(cases hh.symm.trans (congrArg Prod.snd hc.2.2.1))|(exact absurd (congrArg Prod.snd hc.2.2.2.1) hh)|(cases hh.symm.trans (congrArg Prod.snd hc.2.2.2.2.1))
   rw[hz]<;>rfl)
  refine⟨(⟨((sL (Aa 32 x.1)).getD 1 []),7,(Aq ((sL (Aa 32 x.1)).getD 2 [])).1,(numOf ((sL (Aa 32 x.1)).getD 3 [])).1,(Aq ((sL (Aa 32 x.1)).getD 4 [])).1,0,[],[],[],0,0,0⟩:Request),⟨Nat.zero_le _,Nat.zero_le _⟩,?_,?_⟩
  ·(conv=>whnf)
   (repeat' ((first|with_reducible exact⟨⟩|((with_reducible refine aI ?_ ?_);focus (exact tA))|with_reducible refine iA ?_ ?_|fail)<;>(conv=>whnf)))
   all_goals (try simp only[wQ])
   all_goals (simp only[w0,w1,w2,w3,w4,w5,Nat.zero_add,Nat.reduceAdd];rfl)
  (conv=>whnf)
  (repeat' ((first
   |with_reducible exact⟨⟩
   |((with_reducible refine aI ?_ ?_);focus (with_reducible rfl))
   |(conv=>arg 2;change ! (sB _);simp only[List.toList_toArray,Bh,r0,r1,r2,r3,r4,r5,w0,w1,w2,w3,w4,w5,Nat.zero_add,Nat.reduceAdd,List.length_cons,List.length_nil])
   |(split<;>rename_i hh<;>(try simp only[wS] at hh))
   |with_reducible refine iA ?_ ?_
   |fail)<;>(conv=>whnf)))
  all_goals try (
   have hz:x.2=(An,4):=by
    refine hfail fun r hm hw=>?_
    rw[hrd r hm hw,hm] at hh
    cases hh
   rw[hz]<;>rfl)
  refine⟨(⟨((sL (Aa 32 x.1)).getD 1 []),7,(Aq ((sL (Aa 32 x.1)).getD 2 [])).1,(numOf ((sL (Aa 32 x.1)).getD 3 [])).1,(Aq ((sL (Aa 32 x.1)).getD 4 [])).1,0,[],[],[],0,0,0⟩:Request),⟨Nat.zero_le _,Nat.zero_le _⟩,?_,?_⟩
  ·(conv=>whnf)
   (repeat' ((first|with_reducible exact⟨⟩|((with_reducible refine aI ?_ ?_);focus (exact tA))|with_reducible refine iA ?_ ?_|fail)<;>(conv=>whnf)))
   all_goals (try simp only[wQ])
   all_goals (simp only[w0,w1,w2,w3,w4,w5,Nat.zero_add,Nat.reduceAdd];rfl)
  (conv=>whnf)
  (repeat' ((first
   |with_reducible exact⟨⟩
   |((with_reducible refine aI ?_ ?_);focus (with_reducible rfl))
   |(split<;>rename_i hh<;>(try simp only[wS] at hh))
   |with_reducible refine iA ?_ ?_
   |fail)<;>(conv=>whnf)))
  all_goals (try (show _=_;simp only[wQ]))
  all_goals try (
   have hz:x.2=(An,4):=by
    refine hfail fun r hm hw=>?_
    rw[hrd r hm hw] at hh
    exact hh hw
   rw[hz]<;>rfl)
  all_goals (
   have hz:=hq.symm.trans (Df (by assumption) (by assumption) hrd)
   try simp only[List.toList_toArray,w0,w1,w2,w3,w4,w5,Nat.zero_add,Nat.reduceAdd]
   rw[hz]<;>rfl)
 ·have hk2:kindOf ((Aa 32 x.1).getD 0 [])=8:=by rw[hsL] at hk;exact hk
  have hrd:∀ r,Af r=true→Bf r=x.1→(⟨[],8,0,(numOf ((sL (Aa 32 x.1)).getD 1 [])).1,0,0,[],[],[],0,0,0⟩:Request)=r:=fun r hm hw=>by
   have hc:=Al9 hm hw hk2
   rw[hsL,hc.1];simp only[List.getD_cons_zero,List.getD_cons_succ,hc.2.2.1];exact hc.2.1.symm
  obtain⟨r0,w0⟩:=Au (l:=[84]) 0 (by decide) (by decide)
  have r1:=True.intro
  have w1:=True.intro
  have r2:=True.intro
  have w2:=True.intro
  have r3:=True.intro
  have w3:=True.intro
  have r4:=True.intro
  have w4:=True.intro
  have r5:=True.intro
  have w5:=True.intro
  have v0:Ai (⟨#[84]⟩:ByteArray).data.toList 0=1:=w0
  have hrow:(([84]:List UInt8).length:Int)=1:=rfl
  (conv=>whnf)
  (repeat' ((first
   |((with_reducible refine aI ?_ ?_);focus (omega))
   |fail)<;>(conv=>whnf)))
  refine⟨(((sL (Aa 32 x.1)).getD (Int.toNat 0) [],(8:Int)):List UInt8 × Int),hk,?_,?_⟩
  ·exact Ac _
  (conv=>whnf)
  (repeat' ((first
   |with_reducible exact⟨⟩
   |(with_reducible refine Ar ?_)
   |((with_reducible refine aI ?_ ?_);focus (first|with_reducible exact⟨⟩|exact tO|with_reducible rfl|omega|exact tK))
   |(conv=>arg 2;(first|change eqI (Bj _ _) _|change decide (_+Ai _ _<_));simp only[List.toList_toArray,Bh,r0,r1,r2,r3,r4,r5,w0,w1,w2,w3,w4,w5,Nat.zero_add,Nat.reduceAdd,List.length_cons,List.length_nil])
   |(split<;>rename_i hh<;>(try simp only[wS] at hh))
   |with_reducible refine lnI fun hln=>?_
   |with_reducible refine iA ?_ ?_
   |fail)<;>(conv=>whnf)))
  all_goals try (
   have hz:x.2=(An,4):=by
    refine hfail fun r hm hw=>?_
    have hc:=Al9 hm hw hk2
    try simp only[List.toList_toArray,w0,w1,w2,w3,w4,w5,Nat.zero_add,Nat.reduceAdd] at hh
    rw[hsL,hc.1] at hh
    first|exact hh rfl|(exact absurd (congrArg Prod.snd hc.2.2.1) hh)
   rw[hz]<;>rfl)
  refine⟨(⟨[],8,0,(numOf ((sL (Aa 32 x.1)).getD 1 [])).1,0,0,[],[],[],0,0,0⟩:Request),⟨Nat.zero_le _,Nat.zero_le _⟩,?_,?_⟩
  ·(conv=>whnf)
   (repeat' ((first|with_reducible exact⟨⟩|((with_reducible refine aI ?_ ?_);focus (exact tA))|with_reducible refine iA ?_ ?_|fail)<;>(conv=>whnf)))
   all_goals (try simp only[wQ])
   all_goals (try first|rfl)
   all_goals (simp only[w0,w1,w2,w3,w4,w5,Nat.zero_add,Nat.reduceAdd];rfl)
  (conv=>whnf)
  (repeat' ((first
   |with_reducible exact⟨⟩
   |((with_reducible refine aI ?_ ?_);focus (with_reducible rfl))
   |(conv=>arg 2;change ! (sB _);simp only[List.toList_toArray,Bh,r0,r1,r2,r3,r4,r5,w0,w1,w2,w3,w4,w5,Nat.zero_add,Nat.reduceAdd,List.length_cons,List.length_nil])
   |(split<;>rename_i hh<;>(try simp only[wS] at hh))
   |with_reducible refine iA ?_ ?_
   |fail)<;>(conv=>whnf)))
  all_goals try (
   have hz:x.2=(An,4):=by
    refine hfail fun r hm hw=>?_
    rw[hrd r hm hw,hm] at hh
    cases hh
   rw[hz]<;>rfl)
  refine⟨(⟨[],8,0,(numOf ((sL (Aa 32 x.1)).getD 1 [])).1,0,0,[],[],[],0,0,0⟩:Request),⟨Nat.zero_le _,Nat.zero_le _⟩,?_,?_⟩
  ·(conv=>whnf)
   (repeat' ((first|with_reducible exact⟨⟩|((with_reducible refine aI ?_ ?_);focus (exact tA))|with_reducible refine iA ?_ ?_|fail)<;>(conv=>whnf)))
   all_goals (try simp only[wQ])
   all_goals (try first|rfl)
   all_goals (simp only[w0,w1,w2,w3,w4,w5,Nat.zero_add,Nat.reduceAdd];rfl)
  (conv=>whnf)
  (repeat' ((first
   |with_reducible exact⟨⟩
   |((with_reducible refine aI ?_ ?_);focus (with_reducible rfl))
   |(split<;>rename_i hh<;>(try simp only[wS] at hh))
   |with_reducible refine iA ?_ ?_
   |fail)<;>(conv=>whnf)))
  all_goals (try (show _=_;simp only[wQ]))
  all_goals try (
   have hz:x.2=(An,4):=by
    refine hfail fun r hm hw=>?_
    rw[hrd r hm hw] at hh
    exact hh hw
   rw[hz]<;>rfl)
  all_goals (
   have hz:=hq.symm.trans (Df (by assumption) (by assumption) hrd)
   try simp only[List.toList_toArray,w0,w1,w2,w3,w4,w5,Nat.zero_add,Nat.reduceAdd]
   rw[hz]<;>rfl)
 ·have hk2:kindOf ((Aa 32 x.1).getD 0 [])=9:=by rw[hsL] at hk;exact hk
  have hrd:∀ r,Af r=true→Bf r=x.1→(⟨[],9,0,0,0,0,((sL (Aa 32 x.1)).getD 1 []),[],[],0,0,0⟩:Request)=r:=fun r hm hw=>by
   have hc:=Ama hm hw hk2
   rw[hsL,hc.1];simp only[List.getD_cons_zero,List.getD_cons_succ];exact hc.2.1.symm
  obtain⟨r0,w0⟩:=Au (l:=[76]) 0 (by decide) (by decide)
  have r1:=True.intro
  have w1:=True.intro
  have r2:=True.intro
  have w2:=True.intro
  have r3:=True.intro
  have w3:=True.intro
  have r4:=True.intro
  have w4:=True.intro
  have r5:=True.intro
  have w5:=True.intro
  have v0:Ai (⟨#[76]⟩:ByteArray).data.toList 0=1:=w0
  have hrow:(([76]:List UInt8).length:Int)=1:=rfl
  (conv=>whnf)
  (repeat' ((first
   |((with_reducible refine aI ?_ ?_);focus (omega))
   |fail)<;>(conv=>whnf)))
  refine⟨(((sL (Aa 32 x.1)).getD (Int.toNat 0) [],(9:Int)):List UInt8 × Int),hk,?_,?_⟩
  ·exact Ac _
  (conv=>whnf)
  (repeat' ((first
   |with_reducible exact⟨⟩
   |(with_reducible refine Ar ?_)
   |((with_reducible refine aI ?_ ?_);focus (first|exact tO|with_reducible rfl|omega|exact tK))
   |(conv=>arg 2;(first|change eqI (Bj _ _) _|change decide (_+Ai _ _<_));simp only[List.toList_toArray,Bh,r0,r1,r2,r3,r4,r5,w0,w1,w2,w3,w4,w5,Nat.zero_add,Nat.reduceAdd,List.length_cons,List.length_nil])
   |(split<;>rename_i hh<;>(try simp only[wS] at hh))
   |with_reducible refine lnI fun hln=>?_
   |with_reducible refine iA ?_ ?_
   |fail)<;>(conv=>whnf)))
  all_goals try (
   have hz:x.2=(An,4):=by
    refine hfail fun r hm hw=>?_
    have hc:=Ama hm hw hk2
    try simp only[List.toList_toArray,w0,w1,w2,w3,w4,w5,Nat.zero_add,Nat.reduceAdd] at hh
    rw[hsL,hc.1] at hh
    first|exact hh rfl
   rw[hz]<;>rfl)
  refine⟨(⟨[],9,0,0,0,0,((sL (Aa 32 x.1)).getD 1 []),[],[],0,0,0⟩:Request),⟨Nat.zero_le _,Nat.zero_le _⟩,?_,?_⟩
  ·(conv=>whnf)
   (repeat' ((first|with_reducible exact⟨⟩|((with_reducible refine aI ?_ ?_);focus (exact tA))|with_reducible refine iA ?_ ?_|fail)<;>(conv=>whnf)))
   all_goals (simp only[w0,w1,w2,w3,w4,w5,Nat.zero_add,Nat.reduceAdd];rfl)
  (conv=>whnf)
  (repeat' ((first
   |with_reducible exact⟨⟩
   |((with_reducible refine aI ?_ ?_);focus (with_reducible rfl))
   |(conv=>arg 2;change ! (sB _);simp only[List.toList_toArray,Bh,r0,r1,r2,r3,r4,r5,w0,w1,w2,w3,w4,w5,Nat.zero_add,Nat.reduceAdd,List.length_cons,List.length_nil])
   |(split<;>rename_i hh<;>(try simp only[wS] at hh))
   |with_reducible refine iA ?_ ?_
   |fail)<;>(conv=>whnf)))
  all_goals try (
   have hz:x.2=(An,4):=by
    refine hfail fun r hm hw=>?_
    rw[hrd r hm hw,hm] at hh
    cases hh
   rw[hz]<;>rfl)
  refine⟨(⟨[],9,0,0,0,0,((sL (Aa 32 x.1)).getD 1 []),[],[],0,0,0⟩:Request),⟨Nat.zero_le _,Nat.zero_le _⟩,?_,?_⟩
  ·(conv=>whnf)
   (repeat' ((first|with_reducible exact⟨⟩|((with_reducible refine aI ?_ ?_);focus (exact tA))|with_reducible refine iA ?_ ?_|fail)<;>(conv=>whnf)))
   all_goals (simp only[w0,w1,w2,w3,w4,w5,Nat.zero_add,Nat.reduceAdd];rfl)
  (conv=>whnf)
  (repeat' ((first
   |with_reducible exact⟨⟩
   |((with_reducible refine aI ?_ ?_);focus (with_reducible rfl))
   |(split<;>rename_i hh<;>(try simp only[wS] at hh))
   |with_reducible refine iA ?_ ?_
   |fail)<;>(conv=>whnf)))
  all_goals (try (show _=_;simp only[wQ]))
  all_goals try (
   have hz:x.2=(An,4):=by
    refine hfail fun r hm hw=>?_
    rw[hrd r hm hw] at hh
    exact hh hw
   rw[hz]<;>rfl)
  all_goals (
   have hz:=hq.symm.trans (Df (by assumption) (by assumption) hrd)
   try simp only[List.toList_toArray,w0,w1,w2,w3,w4,w5,Nat.zero_add,Nat.reduceAdd]
   rw[hz]<;>rfl)
 ·have hk2:kindOf ((Aa 32 x.1).getD 0 [])=10:=by rw[hsL] at hk;exact hk
  have hrd:∀ r,Af r=true→Bf r=x.1→(⟨[],10,0,0,0,0,[],[],[],0,(Aq ((sL (Aa 32 x.1)).getD 1 [])).1,(Aq ((sL (Aa 32 x.1)).getD 2 [])).1⟩:Request)=r:=fun r hm hw=>by
   have hc:=Abh hm hw hk2
   rw[hsL,hc.1];simp only[List.getD_cons_zero,List.getD_cons_succ,hc.2.2.1,hc.2.2.2.1];exact hc.2.1.symm
  obtain⟨r0,w0⟩:=Au (l:=[70,85]) 0 (by decide) (by decide)
  obtain⟨r1,w1⟩:=Au (l:=[70,85]) 1 (by decide) (by decide)
  have r2:=True.intro
  have w2:=True.intro
  have r3:=True.intro
  have w3:=True.intro
  have r4:=True.intro
  have w4:=True.intro
  have r5:=True.intro
  have w5:=True.intro
  have v0:Ai (⟨#[70,85]⟩:ByteArray).data.toList 0=1:=w0
  have v1:Ai (⟨#[70,85]⟩:ByteArray).data.toList (0+Ai (⟨#[70,85]⟩:ByteArray).data.toList 0)=1:=by rw[v0];exact w1
  have hrow:(([70,85]:List UInt8).length:Int)=2:=rfl
  (conv=>whnf)
  (repeat' ((first
   |((with_reducible refine aI ?_ ?_);focus (omega))
   |fail)<;>(conv=>whnf)))
  refine⟨(((sL (Aa 32 x.1)).getD (Int.toNat 0) [],(10:Int)):List UInt8 × Int),hk,?_,?_⟩
  ·exact Ac _
  (conv=>whnf)
  (repeat' ((first
   |with_reducible exact⟨⟩
   |(with_reducible refine Ar ?_)
   |((with_reducible refine aI ?_ ?_);focus (first|with_reducible exact⟨⟩|exact tO|with_reducible rfl|omega|exact tK))
   |(conv=>arg 2;(first|change eqI (Bj _ _) _|change decide (_+Ai _ _<_)|change ! (sB _));simp only[List.toList_toArray,Bh,r0,r1,r2,r3,r4,r5,w0,w1,w2,w3,w4,w5,Nat.zero_add,Nat.reduceAdd,List.length_cons,List.length_nil])
   |(split<;>rename_i hh<;>(try simp only[wS] at hh))
   |with_reducible refine lnI fun hln=>?_
   |with_reducible refine iA ?_ ?_
   |fail)<;>(conv=>whnf)))
  all_goals try (
   have hz:x.2=(An,4):=by
    refine hfail fun r hm hw=>?_
    have hc:=Abh hm hw hk2
    try simp only[List.toList_toArray,w0,w1,w2,w3,w4,w5,Nat.zero_add,Nat.reduceAdd] at hh
    rw[hsL,hc.1] at hh
    first|exact hh rfl|(cases hh.symm.trans (congrArg Prod.snd hc.2.2.1))|(cases hh.symm.trans (congrArg Prod.snd hc.2.2.2.1))
   rw[hz]<;>rfl)
  refine⟨(⟨[],10,0,0,0,0,[],[],[],0,(Aq ((sL (Aa 32 x.1)).getD 1 [])).1,(Aq ((sL (Aa 32 x.1)).getD 2 [])).1⟩:Request),⟨Nat.zero_le _,Nat.zero_le _⟩,?_,?_⟩
  ·(conv=>whnf)
   (repeat' ((first|with_reducible exact⟨⟩|((with_reducible refine aI ?_ ?_);focus (exact tA))|with_reducible refine iA ?_ ?_|fail)<;>(conv=>whnf)))
   all_goals (try simp only[wQ])
   all_goals (try first|rfl)
   all_goals (simp only[w0,w1,w2,w3,w4,w5,Nat.zero_add,Nat.reduceAdd];rfl)
  (conv=>whnf)
  (repeat' ((first
   |with_reducible exact⟨⟩
   |((with_reducible refine aI ?_ ?_);focus (with_reducible rfl))
   |(conv=>arg 2;change ! (sB _);simp only[List.toList_toArray,Bh,r0,r1,r2,r3,r4,r5,w0,w1,w2,w3,w4,w5,Nat.zero_add,Nat.reduceAdd,List.length_cons,List.length_nil])
   |(split<;>rename_i hh<;>(try simp only[wS] at hh))
   |with_reducible refine iA ?_ ?_
   |fail)<;>(conv=>whnf)))
  all_goals try (
   have hz:x.2=(An,4):=by
    refine hfail fun r hm hw=>?_
    rw[hrd r hm hw,hm] at hh
    cases hh
   rw[hz]<;>rfl)
  refine⟨(⟨[],10,0,0,0,0,[],[],[],0,(Aq ((sL (Aa 32 x.1)).getD 1 [])).1,(Aq ((sL (Aa 32 x.1)).getD 2 [])).1⟩:Request),⟨Nat.zero_le _,Nat.zero_le _⟩,?_,?_⟩
  ·(conv=>whnf)
   (repeat' ((first|with_reducible exact⟨⟩|((with_reducible refine aI ?_ ?_);focus (exact tA))|with_reducible refine iA ?_ ?_|fail)<;>(conv=>whnf)))
   all_goals (try simp only[wQ])
   all_goals (try first|rfl)
   all_goals (simp only[w0,w1,w2,w3,w4,w5,Nat.zero_add,Nat.reduceAdd];rfl)
  (conv=>whnf)
  (repeat' ((first
   |with_reducible exact⟨⟩
   |((with_reducible refine aI ?_ ?_);focus (with_reducible rfl))
   |(split<;>rename_i hh<;>(try simp only[wS] at hh))
   |with_reducible refine iA ?_ ?_
   |fail)<;>(conv=>whnf)))
  all_goals (try (show _=_;simp only[wQ]))
  all_goals try (
   have hz:x.2=(An,4):=by
    refine hfail fun r hm hw=>?_
    rw[hrd r hm hw] at hh
    exact hh hw
   rw[hz]<;>rfl)
  all_goals (
   have hz:=hq.symm.trans (Df (by assumption) (by assumption) hrd)
   try simp only[List.toList_toArray,w0,w1,w2,w3,w4,w5,Nat.zero_add,Nat.reduceAdd]
   rw[hz]<;>rfl)
end
end Go.Vc.Z
