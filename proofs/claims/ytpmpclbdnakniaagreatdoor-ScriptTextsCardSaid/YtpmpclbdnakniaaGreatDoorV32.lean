/- script.RequestOf: the request of a line, the program's. -/
import Derived.Test.YtpmpclbdnakniaaGreatDoorV23
import Derived.Test.YtpmpclbdnakniaaGreatDoorV27
import Derived.Test.YtpmpclbdnakniaaGreatDoorV28
set_option linter.all false
set_option maxHeartbeats 8000000
namespace Go.Vc.Z
open Go Go.Vc Go.Proofs Go.RowKit Go.Pl Go.Lib
noncomputable section
set_option maxRecDepth 100000
attribute [local irreducible] inK Utf8.decode Utf8.encode Lib.itoa Pl.worth Pl.allDig
attribute [local irreducible] Lib.join Bp Aa
def Ahr:PC:=PC.of (fun x:List UInt8 × Int=>[.str x.1]) (fun x=>kindOf x.1=x.2) (fun x=>.int .i64 x.2)
theorem Ar5{W:World}(hW:Tabs W):GoodP (Fw W) Tryz.prog 79 Ahr:=by
 refine(rW hW).imp fun cs Q h=>?_;obtain⟨⟨s,k⟩,h1,h2,h3⟩:=h;have h1:kindOf s=k:=h1;subst h1;have hcs:cs=[.str s]:=by
  match cs,h2 with
  |[c],h2=>
   have h4:leA (fun i=>i) c (.str s):=h2.1;cases c with
   |str t=>have h5:t=s:=h4;rw[h5]
   |_=>exact h4.elim
 subst hcs;show True∧Q _;rw[De];exact⟨trivial,h3⟩
def A8v(l:List Coupon):Blk:=match l with
 |[]=>.dead
 |c::l=>.row 6 (l.length+1) (fun e=>((c::l).getD e default).enc)
def A8w(id:Nat):List Coupon→AV
 |[]=>.nilsl
 |_::l=>.osl id 6 0 (l.length+1) none
def A8x(l:List Tax):Blk:=match l with
 |[]=>.dead
 |c::l=>.row 2 (l.length+1) (fun e=>((c::l).getD e default).enc)
def A8y(id:Nat):List Tax→AV
 |[]=>.nilsl
 |_::l=>.osl id 2 0 (l.length+1) none
def Azu(p:Nat)(s:List UInt8)(H:List Blk):LoopSpec:={
 α:=List Coupon
 keep:=[0,10,11,12]
 vals L:=[.ptr p 0,slS (sL (Aa 44 s)),.int .i64 (sL (Aa 44 s)).length,.int .i64 L.length]
 heap L:=setCell H p 7 (A8w H.length L)++[A8v L]
 ok L:=L.length≤(sL (Aa 44 s)).length∧L=((sL (Aa 44 s)).take L.length).map (fun w=>(Ef w).1)∧∀ w ∈ (sL (Aa 44 s)).take L.length,(Ef w).2=true
 μ L:=(sL (Aa 44 s)).length - L.length }
def A8z(cs:List AV)(H:List Blk):LoopSpec:=match cs with
 |[.ptr p _,.str s]=>Azu p s H
 |_=>Azu 0 [] H
def Azv(p:Nat)(s:List UInt8)(H:List Blk):LoopSpec:={
 α:=List Tax
 keep:=[0,15,16,17]
 vals L:=[.ptr p 0,slS (sL (Aa 44 s)),.int .i64 (sL (Aa 44 s)).length,.int .i64 L.length]
 heap L:=setCell H p 8 (A8y H.length L)++[A8x L]
 ok L:=L.length≤(sL (Aa 44 s)).length∧L=((sL (Aa 44 s)).take L.length).map (fun w=>(C7 w).1)∧∀ w ∈ (sL (Aa 44 s)).take L.length,(C7 w).2=true
 μ L:=(sL (Aa 44 s)).length - L.length }
def A80(cs:List AV)(H:List Blk):LoopSpec:=match cs with
 |[.ptr p _,.str s]=>Azv p s H
 |_=>Azv 0 [] H
def Ar6:PC:=PC.of (fun x:List UInt8 × Request × Int=>[.str x.1]) (fun x=>Ve x.1=x.2∧x.1.length≤1000000∧(kindOf ((Aa 32 x.1).getD 0 [])≠1∧kindOf ((Aa 32 x.1).getD 0 [])≠5)) (fun x=>.tup [.agg x.2.1.enc,.int .i64 x.2.2])
def Bo:PT:=Cg [(24,Wl),(71,nI),(78,Acw),(79,Ahr),(93,Wa),(153,Aza),(156,Azk),(159,pA),(223,Arm),(224,Aj0)]
theorem C8{W:World}(hW:Tabs W):Cb (Fw W) Tryz.prog Bo:=(Ab Tryz.call24 (cW hW) (Ab Tryz.call71 (aB hW) (Ab Tryz.call78 (An8 hW) (Ab Tryz.call79 (Ar5 hW) (Ab Tryz.call93 (G5 hW) (Ab Tryz.call153 (Aeh hW) (Ab Tryz.call156 (Ahm hW) (Ab Tryz.call159 (zX hW) (Ab Tryz.call223 (aO hW) (Ab Tryz.call224 (Xt hW) Aq))))))))))
def Ahs:FuncId→Option Ctr:=Av Bo []
theorem Aht{W:World}(hW:Tabs W):Ad (Fw W) Tryz.prog Ahs:=(Ar (C8 hW))
def Aac:List (FuncId × Ctr):=(74,inl TY Ahs Bo (fun _=>false) (fun _ _ _=>none) Tryz.f74)::[]
def Aad:FuncId→Option Ctr:=Av Bo Aac
theorem Aae{W:World}(hW:Tabs W):Ad (Fw W) Tryz.prog Aad:=Ae Tryz.call74 (Ah rfl Ao (C8 hW) (Aht hW) Tryz.func74 (fun _ _ _=>none)) (Aht hW)
def Aaf:List (FuncId × Ctr):=(144,inl TY Aad Bo (fun _=>false) (fun _ _ _=>none) Tryz.f144)::Aac
def Aag:FuncId→Option Ctr:=Av Bo Aaf
theorem Aah{W:World}(hW:Tabs W):Ad (Fw W) Tryz.prog Aag:=Ae Tryz.call144 (Ah rfl Ao (C8 hW) (Aae hW) Tryz.func144 (fun _ _ _=>none)) (Aae hW)
def Aai:List (FuncId × Ctr):=(145,inl TY Aag Bo (fun _=>false) (fun _ _ _=>none) Tryz.f145)::Aaf
def Aaj:FuncId→Option Ctr:=Av Bo Aai
theorem Aak{W:World}(hW:Tabs W):Ad (Fw W) Tryz.prog Aaj:=Ae Tryz.call145 (Ah rfl Ao (C8 hW) (Aah hW) Tryz.func145 (fun _ _ _=>none)) (Aah hW)
def Aal:List (FuncId × Ctr):=(147,inl TY Aaj Bo (fun _=>false) (fun _ _ _=>none) Tryz.f147)::Aai
def Aam:FuncId→Option Ctr:=Av Bo Aal
theorem Aan{W:World}(hW:Tabs W):Ad (Fw W) Tryz.prog Aam:=Ae Tryz.call147 (Ah rfl Ao (C8 hW) (Aak hW) Tryz.func147 (fun _ _ _=>none)) (Aak hW)
def Aao:List (FuncId × Ctr):=(148,inl TY Aam Bo (fun _=>false) (fun _ _ _=>none) Tryz.f148)::Aal
def Aap:FuncId→Option Ctr:=Av Bo Aao
theorem Aaq{W:World}(hW:Tabs W):Ad (Fw W) Tryz.prog Aap:=Ae Tryz.call148 (Ah rfl Ao (C8 hW) (Aan hW) Tryz.func148 (fun _ _ _=>none)) (Aan hW)
def Aar:List (FuncId × Ctr):=(149,inl TY Aap Bo (fun _=>false) (fun _ _ _=>none) Tryz.f149)::Aao
def Aas:FuncId→Option Ctr:=Av Bo Aar
theorem Aat{W:World}(hW:Tabs W):Ad (Fw W) Tryz.prog Aas:=Ae Tryz.call149 (Ah rfl Ao (C8 hW) (Aaq hW) Tryz.func149 (fun _ _ _=>none)) (Aaq hW)
def Aau:List (FuncId × Ctr):=(150,inl TY Aas Bo (fun _=>false) (fun _ _ _=>none) Tryz.f150)::Aar
def Aav:FuncId→Option Ctr:=Av Bo Aau
theorem Aaw{W:World}(hW:Tabs W):Ad (Fw W) Tryz.prog Aav:=Ae Tryz.call150 (Ah rfl Ao (C8 hW) (Aat hW) Tryz.func150 (fun _ _ _=>none)) (Aat hW)
def Aax:List (FuncId × Ctr):=(152,inl TY Aav Bo (fun _=>false) (fun _ _ _=>none) Tryz.f152)::Aau
def Aay:FuncId→Option Ctr:=Av Bo Aax
theorem Aaz{W:World}(hW:Tabs W):Ad (Fw W) Tryz.prog Aay:=Ae Tryz.call152 (Ah rfl Ao (C8 hW) (Aaw hW) Tryz.func152 (fun _ _ _=>none)) (Aaw hW)
def Aa0:List (FuncId × Ctr):=(155,inl TY Aay Bo (fun _=>false) (fun _ _ _=>none) Tryz.f155)::Aax
def Aa1:FuncId→Option Ctr:=Av Bo Aa0
theorem Aa2{W:World}(hW:Tabs W):Ad (Fw W) Tryz.prog Aa1:=Ae Tryz.call155 (Ah rfl Ao (C8 hW) (Aaz hW) Tryz.func155 (fun _ _ _=>none)) (Aaz hW)
def pN:List (FuncId × Ctr):=(158,inl TY Aa1 Bo (fun _=>false) (fun _ _ _=>none) Tryz.f158)::Aa0
def pO:FuncId→Option Ctr:=Av Bo pN
theorem pP{W:World}(hW:Tabs W):Ad (Fw W) Tryz.prog pO:=Ae Tryz.call158 (Ah rfl Ao (C8 hW) (Aa2 hW) Tryz.func158 (fun _ _ _=>none)) (Aa2 hW)
def pQ:List (FuncId × Ctr):=(217,inl TY pO Bo (fun _=>false) (fun _ _ _=>none) Tryz.f217)::pN
def pR:FuncId→Option Ctr:=Av Bo pQ
theorem pS{W:World}(hW:Tabs W):Ad (Fw W) Tryz.prog pR:=Ae Tryz.call217 (Ah rfl Ao (C8 hW) (pP hW) Tryz.func217 (fun _ _ _=>none)) (pP hW)
def pT:List (FuncId × Ctr):=(219,inl TY pR Bo (fun _=>false) (fun _ _ _=>none) Tryz.f219)::pQ
def pU:FuncId→Option Ctr:=Av Bo pT
theorem pV{W:World}(hW:Tabs W):Ad (Fw W) Tryz.prog pU:=Ae Tryz.call219 (Ah rfl Ao (C8 hW) (pS hW) Tryz.func219 (fun _ _ _=>none)) (pS hW)
def pW:List (FuncId × Ctr):=(143,inl TY pU Bo (fun _=>false) (fun _ _ _=>none) Tryz.f143)::pT
def pX:FuncId→Option Ctr:=Av Bo pW
theorem pY{W:World}(hW:Tabs W):Ad (Fw W) Tryz.prog pX:=Ae Tryz.call143 (Ah rfl Ao (C8 hW) (pV hW) Tryz.func143 (fun _ _ _=>none)) (pV hW)
def pZ:List (FuncId × Ctr):=(146,inl TY pX Bo (fun _=>false) (fun _ _ _=>none) Tryz.f146)::pW
def qA:FuncId→Option Ctr:=Av Bo pZ
theorem qB{W:World}(hW:Tabs W):Ad (Fw W) Tryz.prog qA:=Ae Tryz.call146 (Ah rfl Ao (C8 hW) (pY hW) Tryz.func146 (fun _ _ _=>none)) (pY hW)
def fY:List AV→List Blk→Nat→Option LR:=fun cs H i=>cond (Nat.beq i 7) (some (.order [0,1,2,3,4,5,6,7,8,9,10])) ((fun cs H i=>cond (Nat.beq i 2) (some (.inv (A8z cs H))) none) cs H i)
def qC:List (FuncId × Ctr):=(161,inl TY qA Bo (fun _=>false) (fY) Tryz.f161)::pZ
def qD:FuncId→Option Ctr:=Av Bo qC
theorem qE{W:World}(hW:Tabs W):Ad (Fw W) Tryz.prog qD:=Ae Tryz.call161 (Ah rfl Ao (C8 hW) (qB hW) Tryz.func161 (fY)) (qB hW)
def fZ:List AV→List Blk→Nat→Option LR:=fun cs H i=>cond (Nat.beq i 4) (some (.inv (A80 cs H))) none
def qF:List (FuncId × Ctr):=(163,inl TY qD Bo (fun _=>false) (fZ) Tryz.f163)::qC
def qG:FuncId→Option Ctr:=Av Bo qF
theorem qH{W:World}(hW:Tabs W):Ad (Fw W) Tryz.prog qG:=Ae Tryz.call163 (Ah rfl Ao (C8 hW) (qE hW) Tryz.func163 (fZ)) (qE hW)
def Aj3:List (FuncId × Ctr):=(72,inl TY qG Bo (fun _=>false) (fun _ _ _=>none) Tryz.f72)::qF
def I4:FuncId→Option Ctr:=Av Bo Aj3
theorem Yv{W:World}(hW:Tabs W):Ad (Fw W) Tryz.prog I4:=Ae Tryz.call72 (Ah rfl Ao (C8 hW) (qH hW) Tryz.func72 (fun _ _ _=>none)) (qH hW)
def Ar7:List UInt8 × Request × Int→Nat→Option LR:=fun x i=>cond (Nat.beq i 8) (some (.unroll 7)) (none)
theorem Ar8{W:World}(hW:Tabs W):GoodP (Fw W) Tryz.prog 26 Ar6:=by
 have hD:=C8 hW;have hC0:∀ x:List UInt8 × Request × Int,Ad (Fw W) Tryz.prog I4:=fun x=>(Yv hW);refine As (D:=Bo) (C:=fun x=>I4) (wr:=(fun _=>false)) rfl Ao hD hC0 Tryz.func26 (Ar7) (fun _=>rfl) ?_;intro x hf hp;clear hf;obtain⟨hq,hs,hn1,hn5⟩:=hp;have hcut:=Gw 32 x.1;have hlen1:=Di 32 x.1;have hsL:=Ck (Aa 32 x.1);have hl1:1≤(sL (Aa 32 x.1)).length:=by rw[hsL];exact hlen1
 have hmem:∀ i,((sL (Aa 32 x.1)).getD i []).length≤1000000:=fun i=>by
  rw[hsL,List.getD_eq_getElem?_getD];cases h:(Aa 32 x.1)[i]? with
  |none=>simp
  |some w=>have:=(Ri x.1 w (List.mem_of_getElem? h)).1;simp;omega
 have hfail:(∀ r,Af r=true→Be r=x.1→False)→x.2=(An,4):=fun h=>by rw[←hq];exact aP h
 rw[←hsL] at hn1 hn5;rcases(J8 ((sL (Aa 32 x.1)).getD (Int.toNat 0) [])) with hk|hk|hk|hk|hk|hk|hk|hk|hk|hk|hk
 ·have hk2:kindOf ((Aa 32 x.1).getD 0 [])=0:=by rw[hsL] at hk;exact hk
  have hno:x.2=(An,4):=hfail fun r hm hw=>by
   have h1:=Dj hm hw hk2;rcases Fg hm with h|h|h|h|h|h|h|h|h|h<;>omega
  obtain⟨r0,w0⟩:=Ax (l:=[70,85]) 0 (by decide) (by decide)
  obtain⟨r1,w1⟩:=Ax (l:=[70,85]) 1 (by decide) (by decide)
  have r2:=True.intro;have w2:=True.intro;have r3:=True.intro;have w3:=True.intro;have r4:=True.intro;have w4:=True.intro;have r5:=True.intro;have w5:=True.intro;have v0:Ai (⟨#[70,85]⟩:ByteArray).data.toList 0=1:=w0;have v1:Ai (⟨#[70,85]⟩:ByteArray).data.toList (0+Ai (⟨#[70,85]⟩:ByteArray).data.toList 0)=1:=by rw[v0];exact w1
  have hrow:(([70,85]:List UInt8).length:Int)=2:=rfl
  (conv=>whnf)
  (repeat' (first|refine⟨tU,?_⟩)<;>conv=>whnf)
  refine⟨(((sL (Aa 32 x.1)).getD (Int.toNat 0) [],(0:Int)):List UInt8 × Int),hk,?_,?_⟩
  ·exact Ac _
  (conv=>whnf)
  (repeat' (first|with_reducible exact⟨⟩|(with_reducible refine Ap ?_)|refine⟨tU,?_⟩|(conv=>arg 2;(first|change eqI (Bg _ _) _|change decide (_+Ai _ _<_)|change ! (sB _));simp only[List.toList_toArray,Bt,r0,r1,r2,r3,r4,r5,w0,w1,w2,w3,w4,w5,Nat.zero_add,Nat.reduceAdd,List.length_cons,List.length_nil])|split<;>rename_i hh<;>try simp only[wS] at hh|with_reducible refine lnI fun hln=>?_|with_reducible refine iA ?_ ?_)<;>conv=>whnf)
  all_goals try (rw[hno]<;>rfl)
  refine⟨(⟨[],0,0,0,0,0,[],[],[],0,(Aj ((sL (Aa 32 x.1)).getD 1 [])).1,(Aj ((sL (Aa 32 x.1)).getD 2 [])).1⟩:Request),⟨Nat.zero_le _,Nat.zero_le _⟩,?_,?_⟩
  ·(conv=>whnf)
   (repeat' (first|with_reducible exact⟨⟩|refine⟨tA,?_⟩|with_reducible refine iA ?_ ?_)<;>conv=>whnf)
   all_goals try simp only[wQ]
   all_goals (try first|rfl)
   all_goals (simp only[w0,w1,w2,w3,w4,w5,Nat.zero_add,Nat.reduceAdd];rfl)
  (conv=>whnf)
  (repeat' (first|with_reducible exact⟨⟩|refine⟨tU,?_⟩|(conv=>arg 2;change ! (sB _);simp only[List.toList_toArray,Bt,r0,r1,r2,r3,r4,r5,w0,w1,w2,w3,w4,w5,Nat.zero_add,Nat.reduceAdd,List.length_cons,List.length_nil])|split<;>rename_i hh<;>try simp only[wS] at hh|with_reducible refine iA ?_ ?_)<;>conv=>whnf)
  all_goals first|(rw[hno]<;>rfl)|(exfalso;rw[Rf (show¬(1≤(0:Int)∧(0:Int)≤10) by decide)] at hh;cases hh)
 ·exact absurd hk hn1
 ·have hk2:kindOf ((Aa 32 x.1).getD 0 [])=2:=by rw[hsL] at hk;exact hk
  have hrd:∀ r,Af r=true→Be r=x.1→(⟨((sL (Aa 32 x.1)).getD 1 []),2,(Aj ((sL (Aa 32 x.1)).getD 2 [])).1,(numOf ((sL (Aa 32 x.1)).getD 3 [])).1,(Aj ((sL (Aa 32 x.1)).getD 4 [])).1,(statOf ((sL (Aa 32 x.1)).getD 5 [])),[],[],[],0,0,0⟩:Request)=r:=fun r hm hw=>by
   have hc:=Arn hm hw hk2;rw[hsL,hc.1];simp only[List.getD_cons_zero,List.getD_cons_succ,hc.2.2.1,hc.2.2.2.1,hc.2.2.2.2.1,hc.2.2.2.2.2.1.1];exact hc.2.1.symm
  obtain⟨r0,w0⟩:=Ax (l:=[75,68,84,78,83]) 0 (by decide) (by decide)
  obtain⟨r1,w1⟩:=Ax (l:=[75,68,84,78,83]) 1 (by decide) (by decide)
  obtain⟨r2,w2⟩:=Ax (l:=[75,68,84,78,83]) 2 (by decide) (by decide)
  obtain⟨r3,w3⟩:=Ax (l:=[75,68,84,78,83]) 3 (by decide) (by decide)
  obtain⟨r4,w4⟩:=Ax (l:=[75,68,84,78,83]) 4 (by decide) (by decide)
  have r5:=True.intro;have w5:=True.intro;have v0:Ai (⟨#[75,68,84,78,83]⟩:ByteArray).data.toList 0=1:=w0;have v1:Ai (⟨#[75,68,84,78,83]⟩:ByteArray).data.toList (0+Ai (⟨#[75,68,84,78,83]⟩:ByteArray).data.toList 0)=1:=by rw[v0];exact w1
  have v2:Ai (⟨#[75,68,84,78,83]⟩:ByteArray).data.toList ((0+Ai (⟨#[75,68,84,78,83]⟩:ByteArray).data.toList 0)+Ai (⟨#[75,68,84,78,83]⟩:ByteArray).data.toList (0+Ai (⟨#[75,68,84,78,83]⟩:ByteArray).data.toList 0))=1:=by rw[v1,v0];exact w2
  have v3:Ai (⟨#[75,68,84,78,83]⟩:ByteArray).data.toList (((0+Ai (⟨#[75,68,84,78,83]⟩:ByteArray).data.toList 0)+Ai (⟨#[75,68,84,78,83]⟩:ByteArray).data.toList (0+Ai (⟨#[75,68,84,78,83]⟩:ByteArray).data.toList 0))+Ai (⟨#[75,68,84,78,83]⟩:ByteArray).data.toList ((0+Ai (⟨#[75,68,84,78,83]⟩:ByteArray).data.toList 0)+Ai (⟨#[75,68,84,78,83]⟩:ByteArray).data.toList (0+Ai (⟨#[75,68,84,78,83]⟩:ByteArray).data.toList 0)))=1:=by rw[v2,v1,v0];exact w3
  have v4:Ai (⟨#[75,68,84,78,83]⟩:ByteArray).data.toList ((((0+Ai (⟨#[75,68,84,78,83]⟩:ByteArray).data.toList 0)+Ai (⟨#[75,68,84,78,83]⟩:ByteArray).data.toList (0+Ai (⟨#[75,68,84,78,83]⟩:ByteArray).data.toList 0))+Ai (⟨#[75,68,84,78,83]⟩:ByteArray).data.toList ((0+Ai (⟨#[75,68,84,78,83]⟩:ByteArray).data.toList 0)+Ai (⟨#[75,68,84,78,83]⟩:ByteArray).data.toList (0+Ai (⟨#[75,68,84,78,83]⟩:ByteArray).data.toList 0)))+Ai (⟨#[75,68,84,78,83]⟩:ByteArray).data.toList (((0+Ai (⟨#[75,68,84,78,83]⟩:ByteArray).data.toList 0)+Ai (⟨#[75,68,84,78,83]⟩:ByteArray).data.toList (0+Ai (⟨#[75,68,84,78,83]⟩:ByteArray).data.toList 0))+Ai (⟨#[75,68,84,78,83]⟩:ByteArray).data.toList ((0+Ai (⟨#[75,68,84,78,83]⟩:ByteArray).data.toList 0)+Ai (⟨#[75,68,84,78,83]⟩:ByteArray).data.toList (0+Ai (⟨#[75,68,84,78,83]⟩:ByteArray).data.toList 0))))=1:=by rw[v3,v2,v1,v0];exact w4
  have hrow:(([75,68,84,78,83]:List UInt8).length:Int)=5:=rfl
  (conv=>whnf)
  (repeat' (first|refine⟨tU,?_⟩)<;>conv=>whnf)
  refine⟨(((sL (Aa 32 x.1)).getD (Int.toNat 0) [],(2:Int)):List UInt8 × Int),hk,?_,?_⟩
  ·exact Ac _
  (conv=>whnf)
  (repeat' (first|with_reducible exact⟨⟩|(with_reducible refine Ap ?_)|refine⟨tU,?_⟩|(conv=>arg 2;(first|change eqI (Bg _ _) _|change decide (_+Ai _ _<_)|change ! (sB _));simp only[List.toList_toArray,Bt,r0,r1,r2,r3,r4,r5,w0,w1,w2,w3,w4,w5,Nat.zero_add,Nat.reduceAdd,List.length_cons,List.length_nil])|split<;>rename_i hh<;>try simp only[wS] at hh|with_reducible refine lnI fun hln=>?_|with_reducible refine iA ?_ ?_)<;>conv=>whnf)
  all_goals try (
   have hz:x.2=(An,4):=by
    refine hfail fun r hm hw=>?_;have hc:=Arn hm hw hk2;try simp only[List.toList_toArray,w0,w1,w2,w3,w4,w5,Nat.zero_add,Nat.reduceAdd] at hh
    rw[hsL,hc.1] at hh;first|exact hh rfl|(cases hh.symm.trans (congrArg Prod.snd hc.2.2.1))|(exact absurd (congrArg Prod.snd hc.2.2.2.1) hh)|(cases hh.symm.trans (congrArg Prod.snd hc.2.2.2.2.1))|(exact hh ((oZ (Cr r.status)).elim (fun h=>absurd (hc.2.2.2.2.2.1.1.symm.trans h.1) hc.2.2.2.2.2.1.2) (fun h=>h.2)))
   rw[hz]<;>rfl)
  refine⟨(⟨((sL (Aa 32 x.1)).getD 1 []),2,(Aj ((sL (Aa 32 x.1)).getD 2 [])).1,(numOf ((sL (Aa 32 x.1)).getD 3 [])).1,(Aj ((sL (Aa 32 x.1)).getD 4 [])).1,(statOf ((sL (Aa 32 x.1)).getD 5 [])),[],[],[],0,0,0⟩:Request),⟨Nat.zero_le _,Nat.zero_le _⟩,?_,?_⟩
  ·(conv=>whnf)
   (repeat' (first|with_reducible exact⟨⟩|refine⟨tA,?_⟩|with_reducible refine iA ?_ ?_)<;>conv=>whnf)
   all_goals try simp only[wQ]
   all_goals (simp only[w0,w1,w2,w3,w4,w5,Nat.zero_add,Nat.reduceAdd];rfl)
  (conv=>whnf)
  (repeat' (first|with_reducible exact⟨⟩|refine⟨tU,?_⟩|(conv=>arg 2;change ! (sB _);simp only[List.toList_toArray,Bt,r0,r1,r2,r3,r4,r5,w0,w1,w2,w3,w4,w5,Nat.zero_add,Nat.reduceAdd,List.length_cons,List.length_nil])|split<;>rename_i hh<;>try simp only[wS] at hh|with_reducible refine iA ?_ ?_)<;>conv=>whnf)
  all_goals try (
   have hz:x.2=(An,4):=by
    refine hfail fun r hm hw=>?_;rw[hrd r hm hw,hm] at hh;cases hh
   rw[hz]<;>rfl)
  refine⟨(⟨((sL (Aa 32 x.1)).getD 1 []),2,(Aj ((sL (Aa 32 x.1)).getD 2 [])).1,(numOf ((sL (Aa 32 x.1)).getD 3 [])).1,(Aj ((sL (Aa 32 x.1)).getD 4 [])).1,(statOf ((sL (Aa 32 x.1)).getD 5 [])),[],[],[],0,0,0⟩:Request),⟨Nat.zero_le _,Nat.zero_le _⟩,?_,?_⟩
  ·(conv=>whnf)
   (repeat' (first|with_reducible exact⟨⟩|refine⟨tA,?_⟩|with_reducible refine iA ?_ ?_)<;>conv=>whnf)
   all_goals try simp only[wQ]
   all_goals (simp only[w0,w1,w2,w3,w4,w5,Nat.zero_add,Nat.reduceAdd];rfl)
  (conv=>whnf)
  (repeat' (first|with_reducible exact⟨⟩|refine⟨tU,?_⟩|split<;>rename_i hh<;>try simp only[wS] at hh|with_reducible refine iA ?_ ?_)<;>conv=>whnf)
  all_goals try(show _=_;simp only[wQ])
  all_goals try (
   have hz:x.2=(An,4):=by
    refine hfail fun r hm hw=>?_;rw[hrd r hm hw] at hh;exact hh hw
   rw[hz]<;>rfl)
  all_goals (
   have hz:=hq.symm.trans (Cw (by assumption) (by assumption) hrd)
   try simp only[List.toList_toArray,w0,w1,w2,w3,w4,w5,Nat.zero_add,Nat.reduceAdd]
   rw[hz]<;>rfl)
 ·have hk2:kindOf ((Aa 32 x.1).getD 0 [])=3:=by rw[hsL] at hk;exact hk
  have hrd:∀ r,Af r=true→Be r=x.1→(⟨((sL (Aa 32 x.1)).getD 1 []),3,(Aj ((sL (Aa 32 x.1)).getD 2 [])).1,(numOf ((sL (Aa 32 x.1)).getD 3 [])).1,0,0,[],[],[],0,0,0⟩:Request)=r:=fun r hm hw=>by
   have hc:=Aro hm hw hk2;rw[hsL,hc.1];simp only[List.getD_cons_zero,List.getD_cons_succ,hc.2.2.1,hc.2.2.2.1];exact hc.2.1.symm
  obtain⟨r0,w0⟩:=Ax (l:=[75,68,84]) 0 (by decide) (by decide)
  obtain⟨r1,w1⟩:=Ax (l:=[75,68,84]) 1 (by decide) (by decide)
  obtain⟨r2,w2⟩:=Ax (l:=[75,68,84]) 2 (by decide) (by decide)
  have r3:=True.intro;have w3:=True.intro;have r4:=True.intro;have w4:=True.intro;have r5:=True.intro;have w5:=True.intro;have v0:Ai (⟨#[75,68,84]⟩:ByteArray).data.toList 0=1:=w0;have v1:Ai (⟨#[75,68,84]⟩:ByteArray).data.toList (0+Ai (⟨#[75,68,84]⟩:ByteArray).data.toList 0)=1:=by rw[v0];exact w1
  have v2:Ai (⟨#[75,68,84]⟩:ByteArray).data.toList ((0+Ai (⟨#[75,68,84]⟩:ByteArray).data.toList 0)+Ai (⟨#[75,68,84]⟩:ByteArray).data.toList (0+Ai (⟨#[75,68,84]⟩:ByteArray).data.toList 0))=1:=by rw[v1,v0];exact w2
  have hrow:(([75,68,84]:List UInt8).length:Int)=3:=rfl
  (conv=>whnf)
  (repeat' (first|refine⟨tU,?_⟩)<;>conv=>whnf)
  refine⟨(((sL (Aa 32 x.1)).getD (Int.toNat 0) [],(3:Int)):List UInt8 × Int),hk,?_,?_⟩
  ·exact Ac _
  (conv=>whnf)
  (repeat' (first|with_reducible exact⟨⟩|(with_reducible refine Ap ?_)|refine⟨tU,?_⟩|(conv=>arg 2;(first|change eqI (Bg _ _) _|change decide (_+Ai _ _<_)|change ! (sB _));simp only[List.toList_toArray,Bt,r0,r1,r2,r3,r4,r5,w0,w1,w2,w3,w4,w5,Nat.zero_add,Nat.reduceAdd,List.length_cons,List.length_nil])|split<;>rename_i hh<;>try simp only[wS] at hh|with_reducible refine lnI fun hln=>?_|with_reducible refine iA ?_ ?_)<;>conv=>whnf)
  all_goals try (
   have hz:x.2=(An,4):=by
    refine hfail fun r hm hw=>?_;have hc:=Aro hm hw hk2;try simp only[List.toList_toArray,w0,w1,w2,w3,w4,w5,Nat.zero_add,Nat.reduceAdd] at hh
    rw[hsL,hc.1] at hh;first|exact hh rfl|(cases hh.symm.trans (congrArg Prod.snd hc.2.2.1))|(exact absurd (congrArg Prod.snd hc.2.2.2.1) hh)
   rw[hz]<;>rfl)
  refine⟨(⟨((sL (Aa 32 x.1)).getD 1 []),3,(Aj ((sL (Aa 32 x.1)).getD 2 [])).1,(numOf ((sL (Aa 32 x.1)).getD 3 [])).1,0,0,[],[],[],0,0,0⟩:Request),⟨Nat.zero_le _,Nat.zero_le _⟩,?_,?_⟩
  ·(conv=>whnf)
   (repeat' (first|with_reducible exact⟨⟩|refine⟨tA,?_⟩|with_reducible refine iA ?_ ?_)<;>conv=>whnf)
   all_goals try simp only[wQ]
   all_goals (simp only[w0,w1,w2,w3,w4,w5,Nat.zero_add,Nat.reduceAdd];rfl)
  (conv=>whnf)
  (repeat' (first|with_reducible exact⟨⟩|refine⟨tU,?_⟩|(conv=>arg 2;change ! (sB _);simp only[List.toList_toArray,Bt,r0,r1,r2,r3,r4,r5,w0,w1,w2,w3,w4,w5,Nat.zero_add,Nat.reduceAdd,List.length_cons,List.length_nil])|split<;>rename_i hh<;>try simp only[wS] at hh|with_reducible refine iA ?_ ?_)<;>conv=>whnf)
  all_goals try (
   have hz:x.2=(An,4):=by
    refine hfail fun r hm hw=>?_;rw[hrd r hm hw,hm] at hh;cases hh
   rw[hz]<;>rfl)
  refine⟨(⟨((sL (Aa 32 x.1)).getD 1 []),3,(Aj ((sL (Aa 32 x.1)).getD 2 [])).1,(numOf ((sL (Aa 32 x.1)).getD 3 [])).1,0,0,[],[],[],0,0,0⟩:Request),⟨Nat.zero_le _,Nat.zero_le _⟩,?_,?_⟩
  ·(conv=>whnf)
   (repeat' (first|with_reducible exact⟨⟩|refine⟨tA,?_⟩|with_reducible refine iA ?_ ?_)<;>conv=>whnf)
   all_goals try simp only[wQ]
   all_goals (simp only[w0,w1,w2,w3,w4,w5,Nat.zero_add,Nat.reduceAdd];rfl)
  (conv=>whnf)
  (repeat' (first|with_reducible exact⟨⟩|refine⟨tU,?_⟩|split<;>rename_i hh<;>try simp only[wS] at hh|with_reducible refine iA ?_ ?_)<;>conv=>whnf)
  all_goals try(show _=_;simp only[wQ])
  all_goals try (
   have hz:x.2=(An,4):=by
    refine hfail fun r hm hw=>?_;rw[hrd r hm hw] at hh;exact hh hw
   rw[hz]<;>rfl)
  all_goals (
   have hz:=hq.symm.trans (Cw (by assumption) (by assumption) hrd)
   try simp only[List.toList_toArray,w0,w1,w2,w3,w4,w5,Nat.zero_add,Nat.reduceAdd]
   rw[hz]<;>rfl)
 ·have hk2:kindOf ((Aa 32 x.1).getD 0 [])=4:=by rw[hsL] at hk;exact hk
  have hrd:∀ r,Af r=true→Be r=x.1→(⟨((sL (Aa 32 x.1)).getD 1 []),4,(Aj ((sL (Aa 32 x.1)).getD 2 [])).1,(numOf ((sL (Aa 32 x.1)).getD 3 [])).1,0,0,[],[],[],(Da ((sL (Aa 32 x.1)).getD 4 [])).1,0,0⟩:Request)=r:=fun r hm hw=>by
   have hc:=Arp hm hw hk2;rw[hsL,hc.1];simp only[List.getD_cons_zero,List.getD_cons_succ,hc.2.2.1,hc.2.2.2.1,hc.2.2.2.2.1];exact hc.2.1.symm
  obtain⟨r0,w0⟩:=Ax (l:=[75,68,84,65]) 0 (by decide) (by decide)
  obtain⟨r1,w1⟩:=Ax (l:=[75,68,84,65]) 1 (by decide) (by decide)
  obtain⟨r2,w2⟩:=Ax (l:=[75,68,84,65]) 2 (by decide) (by decide)
  obtain⟨r3,w3⟩:=Ax (l:=[75,68,84,65]) 3 (by decide) (by decide)
  have r4:=True.intro;have w4:=True.intro;have r5:=True.intro;have w5:=True.intro;have v0:Ai (⟨#[75,68,84,65]⟩:ByteArray).data.toList 0=1:=w0;have v1:Ai (⟨#[75,68,84,65]⟩:ByteArray).data.toList (0+Ai (⟨#[75,68,84,65]⟩:ByteArray).data.toList 0)=1:=by rw[v0];exact w1
  have v2:Ai (⟨#[75,68,84,65]⟩:ByteArray).data.toList ((0+Ai (⟨#[75,68,84,65]⟩:ByteArray).data.toList 0)+Ai (⟨#[75,68,84,65]⟩:ByteArray).data.toList (0+Ai (⟨#[75,68,84,65]⟩:ByteArray).data.toList 0))=1:=by rw[v1,v0];exact w2
  have v3:Ai (⟨#[75,68,84,65]⟩:ByteArray).data.toList (((0+Ai (⟨#[75,68,84,65]⟩:ByteArray).data.toList 0)+Ai (⟨#[75,68,84,65]⟩:ByteArray).data.toList (0+Ai (⟨#[75,68,84,65]⟩:ByteArray).data.toList 0))+Ai (⟨#[75,68,84,65]⟩:ByteArray).data.toList ((0+Ai (⟨#[75,68,84,65]⟩:ByteArray).data.toList 0)+Ai (⟨#[75,68,84,65]⟩:ByteArray).data.toList (0+Ai (⟨#[75,68,84,65]⟩:ByteArray).data.toList 0)))=1:=by rw[v2,v1,v0];exact w3
  have hrow:(([75,68,84,65]:List UInt8).length:Int)=4:=rfl
  (conv=>whnf)
  (repeat' (first|refine⟨tU,?_⟩)<;>conv=>whnf)
  refine⟨(((sL (Aa 32 x.1)).getD (Int.toNat 0) [],(4:Int)):List UInt8 × Int),hk,?_,?_⟩
  ·exact Ac _
  (conv=>whnf)
  (repeat' (first|with_reducible exact⟨⟩|(with_reducible refine Ap ?_)|((with_reducible refine aI ?_ ?_);focus (exact Nat.le_trans (hmem _) ((nB rfl))))|refine⟨tU,?_⟩|(conv=>arg 2;(first|change eqI (Bg _ _) _|change decide (_+Ai _ _<_)|change ! (sB _));simp only[List.toList_toArray,Bt,r0,r1,r2,r3,r4,r5,w0,w1,w2,w3,w4,w5,Nat.zero_add,Nat.reduceAdd,List.length_cons,List.length_nil])|split<;>rename_i hh<;>try simp only[wS] at hh|with_reducible refine lnI fun hln=>?_|with_reducible refine iA ?_ ?_)<;>conv=>whnf)
  all_goals try (
   have hz:x.2=(An,4):=by
    refine hfail fun r hm hw=>?_;have hc:=Arp hm hw hk2;try simp only[List.toList_toArray,w0,w1,w2,w3,w4,w5,Nat.zero_add,Nat.reduceAdd] at hh
    rw[hsL,hc.1] at hh;first|exact hh rfl|(cases hh.symm.trans (congrArg Prod.snd hc.2.2.1))|(exact absurd (congrArg Prod.snd hc.2.2.2.1) hh)|(exact absurd (congrArg Prod.snd hc.2.2.2.2.1) hh)
   rw[hz]<;>rfl)
  refine⟨(⟨((sL (Aa 32 x.1)).getD 1 []),4,(Aj ((sL (Aa 32 x.1)).getD 2 [])).1,(numOf ((sL (Aa 32 x.1)).getD 3 [])).1,0,0,[],[],[],(Da ((sL (Aa 32 x.1)).getD 4 [])).1,0,0⟩:Request),⟨Nat.zero_le _,Nat.zero_le _⟩,?_,?_⟩
  ·(conv=>whnf)
   (repeat' (first|with_reducible exact⟨⟩|refine⟨tA,?_⟩|with_reducible refine iA ?_ ?_)<;>conv=>whnf)
   all_goals try simp only[wQ]
   all_goals (simp only[w0,w1,w2,w3,w4,w5,Nat.zero_add,Nat.reduceAdd];rfl)
  (conv=>whnf)
  (repeat' (first|with_reducible exact⟨⟩|refine⟨tU,?_⟩|(conv=>arg 2;change ! (sB _);simp only[List.toList_toArray,Bt,r0,r1,r2,r3,r4,r5,w0,w1,w2,w3,w4,w5,Nat.zero_add,Nat.reduceAdd,List.length_cons,List.length_nil])|split<;>rename_i hh<;>try simp only[wS] at hh|with_reducible refine iA ?_ ?_)<;>conv=>whnf)
  all_goals try (
   have hz:x.2=(An,4):=by
    refine hfail fun r hm hw=>?_;rw[hrd r hm hw,hm] at hh;cases hh
   rw[hz]<;>rfl)
  refine⟨(⟨((sL (Aa 32 x.1)).getD 1 []),4,(Aj ((sL (Aa 32 x.1)).getD 2 [])).1,(numOf ((sL (Aa 32 x.1)).getD 3 [])).1,0,0,[],[],[],(Da ((sL (Aa 32 x.1)).getD 4 [])).1,0,0⟩:Request),⟨Nat.zero_le _,Nat.zero_le _⟩,?_,?_⟩
  ·(conv=>whnf)
   (repeat' (first|with_reducible exact⟨⟩|refine⟨tA,?_⟩|with_reducible refine iA ?_ ?_)<;>conv=>whnf)
   all_goals try simp only[wQ]
   all_goals (simp only[w0,w1,w2,w3,w4,w5,Nat.zero_add,Nat.reduceAdd];rfl)
  (conv=>whnf)
  (repeat' (first|with_reducible exact⟨⟩|refine⟨tU,?_⟩|split<;>rename_i hh<;>try simp only[wS] at hh|with_reducible refine iA ?_ ?_)<;>conv=>whnf)
  all_goals try(show _=_;simp only[wQ])
  all_goals try (
   have hz:x.2=(An,4):=by
    refine hfail fun r hm hw=>?_;rw[hrd r hm hw] at hh;exact hh hw
   rw[hz]<;>rfl)
  all_goals (
   have hz:=hq.symm.trans (Cw (by assumption) (by assumption) hrd)
   try simp only[List.toList_toArray,w0,w1,w2,w3,w4,w5,Nat.zero_add,Nat.reduceAdd]
   rw[hz]<;>rfl)
 ·exact absurd hk hn5
 ·have hk2:kindOf ((Aa 32 x.1).getD 0 [])=6:=by rw[hsL] at hk;exact hk
  have hrd:∀ r,Af r=true→Be r=x.1→(⟨((sL (Aa 32 x.1)).getD 1 []),6,(Aj ((sL (Aa 32 x.1)).getD 2 [])).1,(numOf ((sL (Aa 32 x.1)).getD 3 [])).1,(Aj ((sL (Aa 32 x.1)).getD 4 [])).1,0,[],[],[],0,0,0⟩:Request)=r:=fun r hm hw=>by
   have hc:=Arq hm hw hk2;rw[hsL,hc.1];simp only[List.getD_cons_zero,List.getD_cons_succ,hc.2.2.1,hc.2.2.2.1,hc.2.2.2.2.1];exact hc.2.1.symm
  obtain⟨r0,w0⟩:=Ax (l:=[75,68,84,78]) 0 (by decide) (by decide)
  obtain⟨r1,w1⟩:=Ax (l:=[75,68,84,78]) 1 (by decide) (by decide)
  obtain⟨r2,w2⟩:=Ax (l:=[75,68,84,78]) 2 (by decide) (by decide)
  obtain⟨r3,w3⟩:=Ax (l:=[75,68,84,78]) 3 (by decide) (by decide)
  have r4:=True.intro;have w4:=True.intro;have r5:=True.intro;have w5:=True.intro;have v0:Ai (⟨#[75,68,84,78]⟩:ByteArray).data.toList 0=1:=w0;have v1:Ai (⟨#[75,68,84,78]⟩:ByteArray).data.toList (0+Ai (⟨#[75,68,84,78]⟩:ByteArray).data.toList 0)=1:=by rw[v0];exact w1
  have v2:Ai (⟨#[75,68,84,78]⟩:ByteArray).data.toList ((0+Ai (⟨#[75,68,84,78]⟩:ByteArray).data.toList 0)+Ai (⟨#[75,68,84,78]⟩:ByteArray).data.toList (0+Ai (⟨#[75,68,84,78]⟩:ByteArray).data.toList 0))=1:=by rw[v1,v0];exact w2
  have v3:Ai (⟨#[75,68,84,78]⟩:ByteArray).data.toList (((0+Ai (⟨#[75,68,84,78]⟩:ByteArray).data.toList 0)+Ai (⟨#[75,68,84,78]⟩:ByteArray).data.toList (0+Ai (⟨#[75,68,84,78]⟩:ByteArray).data.toList 0))+Ai (⟨#[75,68,84,78]⟩:ByteArray).data.toList ((0+Ai (⟨#[75,68,84,78]⟩:ByteArray).data.toList 0)+Ai (⟨#[75,68,84,78]⟩:ByteArray).data.toList (0+Ai (⟨#[75,68,84,78]⟩:ByteArray).data.toList 0)))=1:=by rw[v2,v1,v0];exact w3
  have hrow:(([75,68,84,78]:List UInt8).length:Int)=4:=rfl
  (conv=>whnf)
  (repeat' (first|refine⟨tU,?_⟩)<;>conv=>whnf)
  refine⟨(((sL (Aa 32 x.1)).getD (Int.toNat 0) [],(6:Int)):List UInt8 × Int),hk,?_,?_⟩
  ·exact Ac _
  (conv=>whnf)
  (repeat' (first|with_reducible exact⟨⟩|(with_reducible refine Ap ?_)|refine⟨tU,?_⟩|(conv=>arg 2;(first|change eqI (Bg _ _) _|change decide (_+Ai _ _<_)|change ! (sB _));simp only[List.toList_toArray,Bt,r0,r1,r2,r3,r4,r5,w0,w1,w2,w3,w4,w5,Nat.zero_add,Nat.reduceAdd,List.length_cons,List.length_nil])|split<;>rename_i hh<;>try simp only[wS] at hh|with_reducible refine lnI fun hln=>?_|with_reducible refine iA ?_ ?_)<;>conv=>whnf)
  all_goals try (
   have hz:x.2=(An,4):=by
    refine hfail fun r hm hw=>?_;have hc:=Arq hm hw hk2;try simp only[List.toList_toArray,w0,w1,w2,w3,w4,w5,Nat.zero_add,Nat.reduceAdd] at hh
    rw[hsL,hc.1] at hh;first|exact hh rfl|(cases hh.symm.trans (congrArg Prod.snd hc.2.2.1))|(exact absurd (congrArg Prod.snd hc.2.2.2.1) hh)|(cases hh.symm.trans (congrArg Prod.snd hc.2.2.2.2.1))
   rw[hz]<;>rfl)
  refine⟨(⟨((sL (Aa 32 x.1)).getD 1 []),6,(Aj ((sL (Aa 32 x.1)).getD 2 [])).1,(numOf ((sL (Aa 32 x.1)).getD 3 [])).1,(Aj ((sL (Aa 32 x.1)).getD 4 [])).1,0,[],[],[],0,0,0⟩:Request),⟨Nat.zero_le _,Nat.zero_le _⟩,?_,?_⟩
  ·(conv=>whnf)
   (repeat' (first|with_reducible exact⟨⟩|refine⟨tA,?_⟩|with_reducible refine iA ?_ ?_)<;>conv=>whnf)
   all_goals try simp only[wQ]
   all_goals (simp only[w0,w1,w2,w3,w4,w5,Nat.zero_add,Nat.reduceAdd];rfl)
  (conv=>whnf)
  (repeat' (first|with_reducible exact⟨⟩|refine⟨tU,?_⟩|(conv=>arg 2;change ! (sB _);simp only[List.toList_toArray,Bt,r0,r1,r2,r3,r4,r5,w0,w1,w2,w3,w4,w5,Nat.zero_add,Nat.reduceAdd,List.length_cons,List.length_nil])|split<;>rename_i hh<;>try simp only[wS] at hh|with_reducible refine iA ?_ ?_)<;>conv=>whnf)
  all_goals try (
   have hz:x.2=(An,4):=by
    refine hfail fun r hm hw=>?_;rw[hrd r hm hw,hm] at hh;cases hh
   rw[hz]<;>rfl)
  refine⟨(⟨((sL (Aa 32 x.1)).getD 1 []),6,(Aj ((sL (Aa 32 x.1)).getD 2 [])).1,(numOf ((sL (Aa 32 x.1)).getD 3 [])).1,(Aj ((sL (Aa 32 x.1)).getD 4 [])).1,0,[],[],[],0,0,0⟩:Request),⟨Nat.zero_le _,Nat.zero_le _⟩,?_,?_⟩
  ·(conv=>whnf)
   (repeat' (first|with_reducible exact⟨⟩|refine⟨tA,?_⟩|with_reducible refine iA ?_ ?_)<;>conv=>whnf)
   all_goals try simp only[wQ]
   all_goals (simp only[w0,w1,w2,w3,w4,w5,Nat.zero_add,Nat.reduceAdd];rfl)
  (conv=>whnf)
  (repeat' (first|with_reducible exact⟨⟩|refine⟨tU,?_⟩|split<;>rename_i hh<;>try simp only[wS] at hh|with_reducible refine iA ?_ ?_)<;>conv=>whnf)
  all_goals try(show _=_;simp only[wQ])
  all_goals try (
   have hz:x.2=(An,4):=by
    refine hfail fun r hm hw=>?_;rw[hrd r hm hw] at hh;exact hh hw
   rw[hz]<;>rfl)
  all_goals (
   have hz:=hq.symm.trans (Cw (by assumption) (by assumption) hrd)
   try simp only[List.toList_toArray,w0,w1,w2,w3,w4,w5,Nat.zero_add,Nat.reduceAdd]
   rw[hz]<;>rfl)
 ·have hk2:kindOf ((Aa 32 x.1).getD 0 [])=7:=by rw[hsL] at hk;exact hk
  have hrd:∀ r,Af r=true→Be r=x.1→(⟨((sL (Aa 32 x.1)).getD 1 []),7,(Aj ((sL (Aa 32 x.1)).getD 2 [])).1,(numOf ((sL (Aa 32 x.1)).getD 3 [])).1,(Aj ((sL (Aa 32 x.1)).getD 4 [])).1,0,[],[],[],0,0,0⟩:Request)=r:=fun r hm hw=>by
   have hc:=Arr hm hw hk2;rw[hsL,hc.1];simp only[List.getD_cons_zero,List.getD_cons_succ,hc.2.2.1,hc.2.2.2.1,hc.2.2.2.2.1];exact hc.2.1.symm
  obtain⟨r0,w0⟩:=Ax (l:=[75,68,84,78]) 0 (by decide) (by decide)
  obtain⟨r1,w1⟩:=Ax (l:=[75,68,84,78]) 1 (by decide) (by decide)
  obtain⟨r2,w2⟩:=Ax (l:=[75,68,84,78]) 2 (by decide) (by decide)
  obtain⟨r3,w3⟩:=Ax (l:=[75,68,84,78]) 3 (by decide) (by decide)
  have r4:=True.intro;have w4:=True.intro;have r5:=True.intro;have w5:=True.intro;have v0:Ai (⟨#[75,68,84,78]⟩:ByteArray).data.toList 0=1:=w0;have v1:Ai (⟨#[75,68,84,78]⟩:ByteArray).data.toList (0+Ai (⟨#[75,68,84,78]⟩:ByteArray).data.toList 0)=1:=by rw[v0];exact w1
  have v2:Ai (⟨#[75,68,84,78]⟩:ByteArray).data.toList ((0+Ai (⟨#[75,68,84,78]⟩:ByteArray).data.toList 0)+Ai (⟨#[75,68,84,78]⟩:ByteArray).data.toList (0+Ai (⟨#[75,68,84,78]⟩:ByteArray).data.toList 0))=1:=by rw[v1,v0];exact w2
  have v3:Ai (⟨#[75,68,84,78]⟩:ByteArray).data.toList (((0+Ai (⟨#[75,68,84,78]⟩:ByteArray).data.toList 0)+Ai (⟨#[75,68,84,78]⟩:ByteArray).data.toList (0+Ai (⟨#[75,68,84,78]⟩:ByteArray).data.toList 0))+Ai (⟨#[75,68,84,78]⟩:ByteArray).data.toList ((0+Ai (⟨#[75,68,84,78]⟩:ByteArray).data.toList 0)+Ai (⟨#[75,68,84,78]⟩:ByteArray).data.toList (0+Ai (⟨#[75,68,84,78]⟩:ByteArray).data.toList 0)))=1:=by rw[v2,v1,v0];exact w3
  have hrow:(([75,68,84,78]:List UInt8).length:Int)=4:=rfl
  (conv=>whnf)
  (repeat' (first|refine⟨tU,?_⟩)<;>conv=>whnf)
  refine⟨(((sL (Aa 32 x.1)).getD (Int.toNat 0) [],(7:Int)):List UInt8 × Int),hk,?_,?_⟩
  ·exact Ac _
  (conv=>whnf)
  (repeat' (first|with_reducible exact⟨⟩|(with_reducible refine Ap ?_)|refine⟨tU,?_⟩|(conv=>arg 2;(first|change eqI (Bg _ _) _|change decide (_+Ai _ _<_)|change ! (sB _));simp only[List.toList_toArray,Bt,r0,r1,r2,r3,r4,r5,w0,w1,w2,w3,w4,w5,Nat.zero_add,Nat.reduceAdd,List.length_cons,List.length_nil])|split<;>rename_i hh<;>try simp only[wS] at hh|with_reducible refine lnI fun hln=>?_|with_reducible refine iA ?_ ?_)<;>conv=>whnf)
  all_goals try (
   have hz:x.2=(An,4):=by
    refine hfail fun r hm hw=>?_;have hc:=Arr hm hw hk2;try simp only[List.toList_toArray,w0,w1,w2,w3,w4,w5,Nat.zero_add,Nat.reduceAdd] at hh
    rw[hsL,hc.1] at hh;first|exact hh rfl|(cases hh.symm.trans (congrArg Prod.snd hc.2.2.1))|(exact absurd (congrArg Prod.snd hc.2.2.2.1) hh)|(cases hh.symm.trans (congrArg Prod.snd hc.2.2.2.2.1))
   rw[hz]<;>rfl)
  refine⟨(⟨((sL (Aa 32 x.1)).getD 1 []),7,(Aj ((sL (Aa 32 x.1)).getD 2 [])).1,(numOf ((sL (Aa 32 x.1)).getD 3 [])).1,(Aj ((sL (Aa 32 x.1)).getD 4 [])).1,0,[],[],[],0,0,0⟩:Request),⟨Nat.zero_le _,Nat.zero_le _⟩,?_,?_⟩
  ·(conv=>whnf)
   (repeat' (first|with_reducible exact⟨⟩|refine⟨tA,?_⟩|with_reducible refine iA ?_ ?_)<;>conv=>whnf)
   all_goals try simp only[wQ]
   all_goals (simp only[w0,w1,w2,w3,w4,w5,Nat.zero_add,Nat.reduceAdd];rfl)
  (conv=>whnf)
  (repeat' (first|with_reducible exact⟨⟩|refine⟨tU,?_⟩|(conv=>arg 2;change ! (sB _);simp only[List.toList_toArray,Bt,r0,r1,r2,r3,r4,r5,w0,w1,w2,w3,w4,w5,Nat.zero_add,Nat.reduceAdd,List.length_cons,List.length_nil])|split<;>rename_i hh<;>try simp only[wS] at hh|with_reducible refine iA ?_ ?_)<;>conv=>whnf)
  all_goals try (
   have hz:x.2=(An,4):=by
    refine hfail fun r hm hw=>?_;rw[hrd r hm hw,hm] at hh;cases hh
   rw[hz]<;>rfl)
  refine⟨(⟨((sL (Aa 32 x.1)).getD 1 []),7,(Aj ((sL (Aa 32 x.1)).getD 2 [])).1,(numOf ((sL (Aa 32 x.1)).getD 3 [])).1,(Aj ((sL (Aa 32 x.1)).getD 4 [])).1,0,[],[],[],0,0,0⟩:Request),⟨Nat.zero_le _,Nat.zero_le _⟩,?_,?_⟩
  ·(conv=>whnf)
   (repeat' (first|with_reducible exact⟨⟩|refine⟨tA,?_⟩|with_reducible refine iA ?_ ?_)<;>conv=>whnf)
   all_goals try simp only[wQ]
   all_goals (simp only[w0,w1,w2,w3,w4,w5,Nat.zero_add,Nat.reduceAdd];rfl)
  (conv=>whnf)
  (repeat' (first|with_reducible exact⟨⟩|refine⟨tU,?_⟩|split<;>rename_i hh<;>try simp only[wS] at hh|with_reducible refine iA ?_ ?_)<;>conv=>whnf)
  all_goals try(show _=_;simp only[wQ])
  all_goals try (
   have hz:x.2=(An,4):=by
    refine hfail fun r hm hw=>?_;rw[hrd r hm hw] at hh;exact hh hw
   rw[hz]<;>rfl)
  all_goals (
   have hz:=hq.symm.trans (Cw (by assumption) (by assumption) hrd)
   try simp only[List.toList_toArray,w0,w1,w2,w3,w4,w5,Nat.zero_add,Nat.reduceAdd]
   rw[hz]<;>rfl)
 ·have hk2:kindOf ((Aa 32 x.1).getD 0 [])=8:=by rw[hsL] at hk;exact hk
  have hrd:∀ r,Af r=true→Be r=x.1→(⟨[],8,0,(numOf ((sL (Aa 32 x.1)).getD 1 [])).1,0,0,[],[],[],0,0,0⟩:Request)=r:=fun r hm hw=>by
   have hc:=Ars hm hw hk2;rw[hsL,hc.1];simp only[List.getD_cons_zero,List.getD_cons_succ,hc.2.2.1];exact hc.2.1.symm
  obtain⟨r0,w0⟩:=Ax (l:=[84]) 0 (by decide) (by decide)
  have r1:=True.intro;have w1:=True.intro;have r2:=True.intro;have w2:=True.intro;have r3:=True.intro;have w3:=True.intro;have r4:=True.intro;have w4:=True.intro;have r5:=True.intro;have w5:=True.intro;have v0:Ai (⟨#[84]⟩:ByteArray).data.toList 0=1:=w0;have hrow:(([84]:List UInt8).length:Int)=1:=rfl
  (conv=>whnf)
  (repeat' (first|refine⟨tU,?_⟩)<;>conv=>whnf)
  refine⟨(((sL (Aa 32 x.1)).getD (Int.toNat 0) [],(8:Int)):List UInt8 × Int),hk,?_,?_⟩
  ·exact Ac _
  (conv=>whnf)
  (repeat' (first|with_reducible exact⟨⟩|(with_reducible refine Ap ?_)|refine⟨tU,?_⟩|(conv=>arg 2;(first|change eqI (Bg _ _) _|change decide (_+Ai _ _<_));simp only[List.toList_toArray,Bt,r0,r1,r2,r3,r4,r5,w0,w1,w2,w3,w4,w5,Nat.zero_add,Nat.reduceAdd,List.length_cons,List.length_nil])|split<;>rename_i hh<;>try simp only[wS] at hh|with_reducible refine lnI fun hln=>?_|with_reducible refine iA ?_ ?_)<;>conv=>whnf)
  all_goals try (
   have hz:x.2=(An,4):=by
    refine hfail fun r hm hw=>?_;have hc:=Ars hm hw hk2;try simp only[List.toList_toArray,w0,w1,w2,w3,w4,w5,Nat.zero_add,Nat.reduceAdd] at hh
    rw[hsL,hc.1] at hh;first|exact hh rfl|(exact absurd (congrArg Prod.snd hc.2.2.1) hh)
   rw[hz]<;>rfl)
  refine⟨(⟨[],8,0,(numOf ((sL (Aa 32 x.1)).getD 1 [])).1,0,0,[],[],[],0,0,0⟩:Request),⟨Nat.zero_le _,Nat.zero_le _⟩,?_,?_⟩
  ·(conv=>whnf)
   (repeat' (first|with_reducible exact⟨⟩|refine⟨tA,?_⟩|with_reducible refine iA ?_ ?_)<;>conv=>whnf)
   all_goals try simp only[wQ]
   all_goals (try first|rfl)
   all_goals (simp only[w0,w1,w2,w3,w4,w5,Nat.zero_add,Nat.reduceAdd];rfl)
  (conv=>whnf)
  (repeat' (first|with_reducible exact⟨⟩|refine⟨tU,?_⟩|(conv=>arg 2;change ! (sB _);simp only[List.toList_toArray,Bt,r0,r1,r2,r3,r4,r5,w0,w1,w2,w3,w4,w5,Nat.zero_add,Nat.reduceAdd,List.length_cons,List.length_nil])|split<;>rename_i hh<;>try simp only[wS] at hh|with_reducible refine iA ?_ ?_)<;>conv=>whnf)
  all_goals try (
   have hz:x.2=(An,4):=by
    refine hfail fun r hm hw=>?_;rw[hrd r hm hw,hm] at hh;cases hh
   rw[hz]<;>rfl)
  refine⟨(⟨[],8,0,(numOf ((sL (Aa 32 x.1)).getD 1 [])).1,0,0,[],[],[],0,0,0⟩:Request),⟨Nat.zero_le _,Nat.zero_le _⟩,?_,?_⟩
  ·(conv=>whnf)
   (repeat' (first|with_reducible exact⟨⟩|refine⟨tA,?_⟩|with_reducible refine iA ?_ ?_)<;>conv=>whnf)
   all_goals try simp only[wQ]
   all_goals (try first|rfl)
   all_goals (simp only[w0,w1,w2,w3,w4,w5,Nat.zero_add,Nat.reduceAdd];rfl)
  (conv=>whnf)
  (repeat' (first|with_reducible exact⟨⟩|refine⟨tU,?_⟩|split<;>rename_i hh<;>try simp only[wS] at hh|with_reducible refine iA ?_ ?_)<;>conv=>whnf)
  all_goals try(show _=_;simp only[wQ])
  all_goals try (
   have hz:x.2=(An,4):=by
    refine hfail fun r hm hw=>?_;rw[hrd r hm hw] at hh;exact hh hw
   rw[hz]<;>rfl)
  all_goals (
   have hz:=hq.symm.trans (Cw (by assumption) (by assumption) hrd)
   try simp only[List.toList_toArray,w0,w1,w2,w3,w4,w5,Nat.zero_add,Nat.reduceAdd]
   rw[hz]<;>rfl)
 ·have hk2:kindOf ((Aa 32 x.1).getD 0 [])=9:=by rw[hsL] at hk;exact hk
  have hrd:∀ r,Af r=true→Be r=x.1→(⟨[],9,0,0,0,0,((sL (Aa 32 x.1)).getD 1 []),[],[],0,0,0⟩:Request)=r:=fun r hm hw=>by
   have hc:=Art hm hw hk2;rw[hsL,hc.1];simp only[List.getD_cons_zero,List.getD_cons_succ];exact hc.2.1.symm
  obtain⟨r0,w0⟩:=Ax (l:=[76]) 0 (by decide) (by decide)
  have r1:=True.intro;have w1:=True.intro;have r2:=True.intro;have w2:=True.intro;have r3:=True.intro;have w3:=True.intro;have r4:=True.intro;have w4:=True.intro;have r5:=True.intro;have w5:=True.intro;have v0:Ai (⟨#[76]⟩:ByteArray).data.toList 0=1:=w0;have hrow:(([76]:List UInt8).length:Int)=1:=rfl
  (conv=>whnf)
  (repeat' (first|refine⟨tU,?_⟩)<;>conv=>whnf)
  refine⟨(((sL (Aa 32 x.1)).getD (Int.toNat 0) [],(9:Int)):List UInt8 × Int),hk,?_,?_⟩
  ·exact Ac _
  (conv=>whnf)
  (repeat' (first|with_reducible exact⟨⟩|(with_reducible refine Ap ?_)|refine⟨tU,?_⟩|(conv=>arg 2;(first|change eqI (Bg _ _) _|change decide (_+Ai _ _<_));simp only[List.toList_toArray,Bt,r0,r1,r2,r3,r4,r5,w0,w1,w2,w3,w4,w5,Nat.zero_add,Nat.reduceAdd,List.length_cons,List.length_nil])|split<;>rename_i hh<;>try simp only[wS] at hh|with_reducible refine lnI fun hln=>?_|with_reducible refine iA ?_ ?_)<;>conv=>whnf)
  all_goals try (
   have hz:x.2=(An,4):=by
    refine hfail fun r hm hw=>?_;have hc:=Art hm hw hk2;try simp only[List.toList_toArray,w0,w1,w2,w3,w4,w5,Nat.zero_add,Nat.reduceAdd] at hh
    rw[hsL,hc.1] at hh;first|exact hh rfl
   rw[hz]<;>rfl)
  refine⟨(⟨[],9,0,0,0,0,((sL (Aa 32 x.1)).getD 1 []),[],[],0,0,0⟩:Request),⟨Nat.zero_le _,Nat.zero_le _⟩,?_,?_⟩
  ·(conv=>whnf)
   (repeat' (first|with_reducible exact⟨⟩|refine⟨tA,?_⟩|with_reducible refine iA ?_ ?_)<;>conv=>whnf)
   all_goals (simp only[w0,w1,w2,w3,w4,w5,Nat.zero_add,Nat.reduceAdd];rfl)
  (conv=>whnf)
  (repeat' (first|with_reducible exact⟨⟩|refine⟨tU,?_⟩|(conv=>arg 2;change ! (sB _);simp only[List.toList_toArray,Bt,r0,r1,r2,r3,r4,r5,w0,w1,w2,w3,w4,w5,Nat.zero_add,Nat.reduceAdd,List.length_cons,List.length_nil])|split<;>rename_i hh<;>try simp only[wS] at hh|with_reducible refine iA ?_ ?_)<;>conv=>whnf)
  all_goals try (
   have hz:x.2=(An,4):=by
    refine hfail fun r hm hw=>?_;rw[hrd r hm hw,hm] at hh;cases hh
   rw[hz]<;>rfl)
  refine⟨(⟨[],9,0,0,0,0,((sL (Aa 32 x.1)).getD 1 []),[],[],0,0,0⟩:Request),⟨Nat.zero_le _,Nat.zero_le _⟩,?_,?_⟩
  ·(conv=>whnf)
   (repeat' (first|with_reducible exact⟨⟩|refine⟨tA,?_⟩|with_reducible refine iA ?_ ?_)<;>conv=>whnf)
   all_goals (simp only[w0,w1,w2,w3,w4,w5,Nat.zero_add,Nat.reduceAdd];rfl)
  (conv=>whnf)
  (repeat' (first|with_reducible exact⟨⟩|refine⟨tU,?_⟩|split<;>rename_i hh<;>try simp only[wS] at hh|with_reducible refine iA ?_ ?_)<;>conv=>whnf)
  all_goals try(show _=_;simp only[wQ])
  all_goals try (
   have hz:x.2=(An,4):=by
    refine hfail fun r hm hw=>?_;rw[hrd r hm hw] at hh;exact hh hw
   rw[hz]<;>rfl)
  all_goals (
   have hz:=hq.symm.trans (Cw (by assumption) (by assumption) hrd)
   try simp only[List.toList_toArray,w0,w1,w2,w3,w4,w5,Nat.zero_add,Nat.reduceAdd]
   rw[hz]<;>rfl)
 ·have hk2:kindOf ((Aa 32 x.1).getD 0 [])=10:=by rw[hsL] at hk;exact hk
  have hrd:∀ r,Af r=true→Be r=x.1→(⟨[],10,0,0,0,0,[],[],[],0,(Aj ((sL (Aa 32 x.1)).getD 1 [])).1,(Aj ((sL (Aa 32 x.1)).getD 2 [])).1⟩:Request)=r:=fun r hm hw=>by
   have hc:=Aho hm hw hk2;rw[hsL,hc.1];simp only[List.getD_cons_zero,List.getD_cons_succ,hc.2.2.1,hc.2.2.2.1];exact hc.2.1.symm
  obtain⟨r0,w0⟩:=Ax (l:=[70,85]) 0 (by decide) (by decide)
  obtain⟨r1,w1⟩:=Ax (l:=[70,85]) 1 (by decide) (by decide)
  have r2:=True.intro;have w2:=True.intro;have r3:=True.intro;have w3:=True.intro;have r4:=True.intro;have w4:=True.intro;have r5:=True.intro;have w5:=True.intro;have v0:Ai (⟨#[70,85]⟩:ByteArray).data.toList 0=1:=w0;have v1:Ai (⟨#[70,85]⟩:ByteArray).data.toList (0+Ai (⟨#[70,85]⟩:ByteArray).data.toList 0)=1:=by rw[v0];exact w1
  have hrow:(([70,85]:List UInt8).length:Int)=2:=rfl
  (conv=>whnf)
  (repeat' (first|refine⟨tU,?_⟩)<;>conv=>whnf)
  refine⟨(((sL (Aa 32 x.1)).getD (Int.toNat 0) [],(10:Int)):List UInt8 × Int),hk,?_,?_⟩
  ·exact Ac _
  (conv=>whnf)
  (repeat' (first|with_reducible exact⟨⟩|(with_reducible refine Ap ?_)|refine⟨tU,?_⟩|(conv=>arg 2;(first|change eqI (Bg _ _) _|change decide (_+Ai _ _<_)|change ! (sB _));simp only[List.toList_toArray,Bt,r0,r1,r2,r3,r4,r5,w0,w1,w2,w3,w4,w5,Nat.zero_add,Nat.reduceAdd,List.length_cons,List.length_nil])|split<;>rename_i hh<;>try simp only[wS] at hh|with_reducible refine lnI fun hln=>?_|with_reducible refine iA ?_ ?_)<;>conv=>whnf)
  all_goals try (
   have hz:x.2=(An,4):=by
    refine hfail fun r hm hw=>?_;have hc:=Aho hm hw hk2;try simp only[List.toList_toArray,w0,w1,w2,w3,w4,w5,Nat.zero_add,Nat.reduceAdd] at hh
    rw[hsL,hc.1] at hh;first|exact hh rfl|(cases hh.symm.trans (congrArg Prod.snd hc.2.2.1))|(cases hh.symm.trans (congrArg Prod.snd hc.2.2.2.1))
   rw[hz]<;>rfl)
  refine⟨(⟨[],10,0,0,0,0,[],[],[],0,(Aj ((sL (Aa 32 x.1)).getD 1 [])).1,(Aj ((sL (Aa 32 x.1)).getD 2 [])).1⟩:Request),⟨Nat.zero_le _,Nat.zero_le _⟩,?_,?_⟩
  ·(conv=>whnf)
   (repeat' (first|with_reducible exact⟨⟩|refine⟨tA,?_⟩|with_reducible refine iA ?_ ?_)<;>conv=>whnf)
   all_goals try simp only[wQ]
   all_goals (try first|rfl)
   all_goals (simp only[w0,w1,w2,w3,w4,w5,Nat.zero_add,Nat.reduceAdd];rfl)
  (conv=>whnf)
  (repeat' (first|with_reducible exact⟨⟩|refine⟨tU,?_⟩|(conv=>arg 2;change ! (sB _);simp only[List.toList_toArray,Bt,r0,r1,r2,r3,r4,r5,w0,w1,w2,w3,w4,w5,Nat.zero_add,Nat.reduceAdd,List.length_cons,List.length_nil])|split<;>rename_i hh<;>try simp only[wS] at hh|with_reducible refine iA ?_ ?_)<;>conv=>whnf)
  all_goals try (
   have hz:x.2=(An,4):=by
    refine hfail fun r hm hw=>?_;rw[hrd r hm hw,hm] at hh;cases hh
   rw[hz]<;>rfl)
  refine⟨(⟨[],10,0,0,0,0,[],[],[],0,(Aj ((sL (Aa 32 x.1)).getD 1 [])).1,(Aj ((sL (Aa 32 x.1)).getD 2 [])).1⟩:Request),⟨Nat.zero_le _,Nat.zero_le _⟩,?_,?_⟩
  ·(conv=>whnf)
   (repeat' (first|with_reducible exact⟨⟩|refine⟨tA,?_⟩|with_reducible refine iA ?_ ?_)<;>conv=>whnf)
   all_goals try simp only[wQ]
   all_goals (try first|rfl)
   all_goals (simp only[w0,w1,w2,w3,w4,w5,Nat.zero_add,Nat.reduceAdd];rfl)
  (conv=>whnf)
  (repeat' (first|with_reducible exact⟨⟩|refine⟨tU,?_⟩|split<;>rename_i hh<;>try simp only[wS] at hh|with_reducible refine iA ?_ ?_)<;>conv=>whnf)
  all_goals try(show _=_;simp only[wQ])
  all_goals try (
   have hz:x.2=(An,4):=by
    refine hfail fun r hm hw=>?_;rw[hrd r hm hw] at hh;exact hh hw
   rw[hz]<;>rfl)
  all_goals (
   have hz:=hq.symm.trans (Cw (by assumption) (by assumption) hrd)
   try simp only[List.toList_toArray,w0,w1,w2,w3,w4,w5,Nat.zero_add,Nat.reduceAdd]
   rw[hz]<;>rfl)
end
end Go.Vc.Z
