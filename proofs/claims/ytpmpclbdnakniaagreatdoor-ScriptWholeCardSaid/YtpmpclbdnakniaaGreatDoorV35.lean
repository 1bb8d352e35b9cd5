/- script.RequestOf: the request of a line, the program's. -/
import Derived.Test.YtpmpclbdnakniaaGreatDoorV26
import Derived.Test.YtpmpclbdnakniaaGreatDoorV14
import Derived.Test.YtpmpclbdnakniaaGreatDoorV19
set_option linter.all false
set_option linter.unusedVariables false
set_option linter.unusedSimpArgs false
namespace Go.Vc.Z
open Go Go.Vc Go.Proofs Go.RowKit Go.Pl Go.Lib
noncomputable section
set_option maxRecDepth 100000
attribute [local irreducible] inK Utf8.decode Utf8.encode Lib.itoa Pl.worth Pl.allDig
attribute [local irreducible] Lib.join Bw Aa
def Aes:PC:=PC.of (fun x:List UInt8 × Int=>[.str x.1]) (fun x=>kindOf x.1=x.2) (fun x=>.int .i64 x.2)
theorem Aos{W:World}(hW:Tabs W):GoodP (Fw W) Tryz.prog 79 Aes:=by
 refine(oL hW).imp fun cs Q h=>?_
 obtain⟨⟨s,k⟩,h1,h2,h3⟩:=h
 have h1:kindOf s=k:=h1
 subst h1
 have hcs:cs=[.str s]:=by
  match cs,h2 with
  |[c],h2=>
   have h4:leA (fun i=>i) c (.str s):=h2.1
   cases c with
   |str t=>have h5:t=s:=h4;rw[h5]
   |_=>exact h4.elim
 subst hcs
 show True∧Q _
 rw[Cg]
 exact⟨trivial,h3⟩
def A4t(l:List Coupon):Blk:=match l with
 |[]=>.dead
 |c::l=>.row 6 (l.length+1) (fun e=>((c::l).getD e default).enc)
def A4u(id:Nat):List Coupon→AV
 |[]=>.nilsl
 |_::l=>.osl id 6 0 (l.length+1) none
def A4v(l:List Tax):Blk:=match l with
 |[]=>.dead
 |c::l=>.row 2 (l.length+1) (fun e=>((c::l).getD e default).enc)
def A4w(id:Nat):List Tax→AV
 |[]=>.nilsl
 |_::l=>.osl id 2 0 (l.length+1) none
def Av5(p:Nat)(s:List UInt8)(H:List Blk):LoopSpec:={
 α:=List Coupon
 keep:=[0,10,11,12]
 vals L:=[.ptr p 0,slS (sL (Aa 44 s)),.int .i64 (sL (Aa 44 s)).length,.int .i64 L.length]
 heap L:=setCell H p 7 (A4u H.length L)++[A4t L]
 ok L:=L.length≤(sL (Aa 44 s)).length∧L=((sL (Aa 44 s)).take L.length).map (fun w=>(Ef w).1)∧∀ w ∈ (sL (Aa 44 s)).take L.length,(Ef w).2=true
 μ L:=(sL (Aa 44 s)).length - L.length }
def A4x(cs:List AV)(H:List Blk):LoopSpec:=match cs with
 |[.ptr p _,.str s]=>Av5 p s H
 |_=>Av5 0 [] H
def Av6(p:Nat)(s:List UInt8)(H:List Blk):LoopSpec:={
 α:=List Tax
 keep:=[0,15,16,17]
 vals L:=[.ptr p 0,slS (sL (Aa 44 s)),.int .i64 (sL (Aa 44 s)).length,.int .i64 L.length]
 heap L:=setCell H p 8 (A4w H.length L)++[A4v L]
 ok L:=L.length≤(sL (Aa 44 s)).length∧L=((sL (Aa 44 s)).take L.length).map (fun w=>(Dk w).1)∧∀ w ∈ (sL (Aa 44 s)).take L.length,(Dk w).2=true
 μ L:=(sL (Aa 44 s)).length - L.length }
def A4y(cs:List AV)(H:List Blk):LoopSpec:=match cs with
 |[.ptr p _,.str s]=>Av6 p s H
 |_=>Av6 0 [] H
def Aot:PC:=PC.of (fun x:List UInt8 × Request × Int=>[.str x.1]) (fun x=>Va x.1=x.2∧x.1.length≤1000000∧(kindOf ((Aa 32 x.1).getD 0 [])≠1∧kindOf ((Aa 32 x.1).getD 0 [])≠5)) (fun x=>.tup [.agg x.2.1.enc,.int .i64 x.2.2])
def Bs:PT:=C2 [(24,Ul),(71,jP),(78,zK),(79,Aes),(93,Ua),(153,Avt),(156,Avy),(159,gR),(223,Ann),(224,Agn)]
theorem Dl{W:World}(hW:Tabs W):Cl (Fw W) Tryz.prog Bs:=(Ab Tryz.call24 (aG hW) (Ab Tryz.call71 (Yf hW) (Ab Tryz.call78 (Akg hW) (Ab Tryz.call79 (Aos hW) (Ab Tryz.call93 (Gs hW) (Ab Tryz.call153 (Abk hW) (Ab Tryz.call156 (Acb hW) (Ab Tryz.call159 (qK hW) (Ab Tryz.call223 (Xv hW) (Ab Tryz.call224 (Vn hW) As))))))))))
def Aet:FuncId→Option Ctr:=Aw Bs []
theorem Aeu{W:World}(hW:Tabs W):Ad (Fw W) Tryz.prog Aet:=(Au (Dl hW))
def wE:List (FuncId × Ctr):=(74,inl TY Aet Bs (fun _=>false) (fun _ _ _=>none) Tryz.f74)::[]
def wF:FuncId→Option Ctr:=Aw Bs wE
theorem wG{W:World}(hW:Tabs W):Ad (Fw W) Tryz.prog wF:=Ae Tryz.call74 (Ag rfl Ap (Dl hW) (Aeu hW) Tryz.func74 (fun _ _ _=>none)) (Aeu hW)
def wH:List (FuncId × Ctr):=(144,inl TY wF Bs (fun _=>false) (fun _ _ _=>none) Tryz.f144)::wE
def wI:FuncId→Option Ctr:=Aw Bs wH
theorem wJ{W:World}(hW:Tabs W):Ad (Fw W) Tryz.prog wI:=Ae Tryz.call144 (Ag rfl Ap (Dl hW) (wG hW) Tryz.func144 (fun _ _ _=>none)) (wG hW)
def wK:List (FuncId × Ctr):=(145,inl TY wI Bs (fun _=>false) (fun _ _ _=>none) Tryz.f145)::wH
def wL:FuncId→Option Ctr:=Aw Bs wK
theorem wM{W:World}(hW:Tabs W):Ad (Fw W) Tryz.prog wL:=Ae Tryz.call145 (Ag rfl Ap (Dl hW) (wJ hW) Tryz.func145 (fun _ _ _=>none)) (wJ hW)
def wN:List (FuncId × Ctr):=(147,inl TY wL Bs (fun _=>false) (fun _ _ _=>none) Tryz.f147)::wK
def wO:FuncId→Option Ctr:=Aw Bs wN
theorem wP{W:World}(hW:Tabs W):Ad (Fw W) Tryz.prog wO:=Ae Tryz.call147 (Ag rfl Ap (Dl hW) (wM hW) Tryz.func147 (fun _ _ _=>none)) (wM hW)
def wR:List (FuncId × Ctr):=(148,inl TY wO Bs (fun _=>false) (fun _ _ _=>none) Tryz.f148)::wN
def wU:FuncId→Option Ctr:=Aw Bs wR
theorem wV{W:World}(hW:Tabs W):Ad (Fw W) Tryz.prog wU:=Ae Tryz.call148 (Ag rfl Ap (Dl hW) (wP hW) Tryz.func148 (fun _ _ _=>none)) (wP hW)
def wW:List (FuncId × Ctr):=(149,inl TY wU Bs (fun _=>false) (fun _ _ _=>none) Tryz.f149)::wR
def wX:FuncId→Option Ctr:=Aw Bs wW
theorem wY{W:World}(hW:Tabs W):Ad (Fw W) Tryz.prog wX:=Ae Tryz.call149 (Ag rfl Ap (Dl hW) (wV hW) Tryz.func149 (fun _ _ _=>none)) (wV hW)
def wZ:List (FuncId × Ctr):=(150,inl TY wX Bs (fun _=>false) (fun _ _ _=>none) Tryz.f150)::wW
def xA:FuncId→Option Ctr:=Aw Bs wZ
theorem xB{W:World}(hW:Tabs W):Ad (Fw W) Tryz.prog xA:=Ae Tryz.call150 (Ag rfl Ap (Dl hW) (wY hW) Tryz.func150 (fun _ _ _=>none)) (wY hW)
def xC:List (FuncId × Ctr):=(152,inl TY xA Bs (fun _=>false) (fun _ _ _=>none) Tryz.f152)::wZ
def xD:FuncId→Option Ctr:=Aw Bs xC
theorem xE{W:World}(hW:Tabs W):Ad (Fw W) Tryz.prog xD:=Ae Tryz.call152 (Ag rfl Ap (Dl hW) (xB hW) Tryz.func152 (fun _ _ _=>none)) (xB hW)
def xF:List (FuncId × Ctr):=(155,inl TY xD Bs (fun _=>false) (fun _ _ _=>none) Tryz.f155)::xC
def xG:FuncId→Option Ctr:=Aw Bs xF
theorem xH{W:World}(hW:Tabs W):Ad (Fw W) Tryz.prog xG:=Ae Tryz.call155 (Ag rfl Ap (Dl hW) (xE hW) Tryz.func155 (fun _ _ _=>none)) (xE hW)
def lV:List (FuncId × Ctr):=(158,inl TY xG Bs (fun _=>false) (fun _ _ _=>none) Tryz.f158)::xF
def lW:FuncId→Option Ctr:=Aw Bs lV
theorem lY{W:World}(hW:Tabs W):Ad (Fw W) Tryz.prog lW:=Ae Tryz.call158 (Ag rfl Ap (Dl hW) (xH hW) Tryz.func158 (fun _ _ _=>none)) (xH hW)
def lZ:List (FuncId × Ctr):=(217,inl TY lW Bs (fun _=>false) (fun _ _ _=>none) Tryz.f217)::lV
def mB:FuncId→Option Ctr:=Aw Bs lZ
theorem mE{W:World}(hW:Tabs W):Ad (Fw W) Tryz.prog mB:=Ae Tryz.call217 (Ag rfl Ap (Dl hW) (lY hW) Tryz.func217 (fun _ _ _=>none)) (lY hW)
def mF:List (FuncId × Ctr):=(219,inl TY mB Bs (fun _=>false) (fun _ _ _=>none) Tryz.f219)::lZ
def mG:FuncId→Option Ctr:=Aw Bs mF
theorem mH{W:World}(hW:Tabs W):Ad (Fw W) Tryz.prog mG:=Ae Tryz.call219 (Ag rfl Ap (Dl hW) (mE hW) Tryz.func219 (fun _ _ _=>none)) (mE hW)
def mI:List (FuncId × Ctr):=(143,inl TY mG Bs (fun _=>false) (fun _ _ _=>none) Tryz.f143)::mF
def mM:FuncId→Option Ctr:=Aw Bs mI
theorem mO{W:World}(hW:Tabs W):Ad (Fw W) Tryz.prog mM:=Ae Tryz.call143 (Ag rfl Ap (Dl hW) (mH hW) Tryz.func143 (fun _ _ _=>none)) (mH hW)
def mP:List (FuncId × Ctr):=(146,inl TY mM Bs (fun _=>false) (fun _ _ _=>none) Tryz.f146)::mI
def mQ:FuncId→Option Ctr:=Aw Bs mP
theorem mU{W:World}(hW:Tabs W):Ad (Fw W) Tryz.prog mQ:=Ae Tryz.call146 (Ag rfl Ap (Dl hW) (mO hW) Tryz.func146 (fun _ _ _=>none)) (mO hW)
def cK:List AV→List Blk→Nat→Option LR:=fun cs H i=>cond (Nat.beq i 7) (some (.order [0,1,2,3,4,5,6,7,8,9,10])) ((fun cs H i=>cond (Nat.beq i 2) (some (.inv (A4x cs H))) none) cs H i)
def mV:List (FuncId × Ctr):=(161,inl TY mQ Bs (fun _=>false) (cK) Tryz.f161)::mP
def mW:FuncId→Option Ctr:=Aw Bs mV
theorem mY{W:World}(hW:Tabs W):Ad (Fw W) Tryz.prog mW:=Ae Tryz.call161 (Ag rfl Ap (Dl hW) (mU hW) Tryz.func161 (cK)) (mU hW)
def cL:List AV→List Blk→Nat→Option LR:=fun cs H i=>cond (Nat.beq i 4) (some (.inv (A4y cs H))) none
def mZ:List (FuncId × Ctr):=(163,inl TY mW Bs (fun _=>false) (cL) Tryz.f163)::mV
def nA:FuncId→Option Ctr:=Aw Bs mZ
theorem nC{W:World}(hW:Tabs W):Ad (Fw W) Tryz.prog nA:=Ae Tryz.call163 (Ag rfl Ap (Dl hW) (mY hW) Tryz.func163 (cL)) (mY hW)
def Agt:List (FuncId × Ctr):=(72,inl TY nA Bs (fun _=>false) (fun _ _ _=>none) Tryz.f72)::mZ
def Ic:FuncId→Option Ctr:=Aw Bs Agt
theorem Wq{W:World}(hW:Tabs W):Ad (Fw W) Tryz.prog Ic:=Ae Tryz.call72 (Ag rfl Ap (Dl hW) (nC hW) Tryz.func72 (fun _ _ _=>none)) (nC hW)
def Aou:List UInt8 × Request × Int→Nat→Option LR:=fun x i=>cond (Nat.beq i 8) (some (.unroll 7)) (none)
set_option maxHeartbeats 4000000 in
theorem Aov{W:World}(hW:Tabs W):GoodP (Fw W) Tryz.prog 26 Aot:=by
 have hD:=Dl hW
 have hC0:∀ x:List UInt8 × Request × Int,Ad (Fw W) Tryz.prog Ic:=fun x=>(Wq hW)
 refine Ar (D:=Bs) (C:=fun x=>Ic) (wr:=(fun _=>false)) rfl Ap hD hC0 Tryz.func26 (Aou) (fun _=>rfl) ?_
 intro x hf hp
 clear hf
 obtain⟨hq,hs,hn1,hn5⟩:=hp
 have hcut:=Ma 32 x.1
 have hlen1:=Hr 32 x.1
 have hsL:=Dd (Aa 32 x.1)
 have hl1:1≤(sL (Aa 32 x.1)).length:=by rw[hsL];exact hlen1
 have hmem:∀ i,((sL (Aa 32 x.1)).getD i []).length≤1000000:=fun i=>by
  rw[hsL,List.getD_eq_getElem?_getD]
  cases h:(Aa 32 x.1)[i]? with
  |none=>simp
  |some w=>have:=(P6 x.1 w (List.mem_of_getElem? h)).1;simp;omega
 have hfail:(∀ r,Ah r=true→Bu r=x.1→False)→x.2=(Ay,4):=fun h=>by rw[←hq];exact dR h
 rw[←hsL] at hn1 hn5
 rcases(X8 ((sL (Aa 32 x.1)).getD (Int.toNat 0) [])) with hk|hk|hk|hk|hk|hk|hk|hk|hk|hk|hk
 ·have hk2:kindOf ((Aa 32 x.1).getD 0 [])=0:=by rw[hsL] at hk;exact hk
  have hno:x.2=(Ay,4):=hfail fun r hm hw=>by
   have h1:=Hs hm hw hk2
   rcases F5 hm with h|h|h|h|h|h|h|h|h|h<;>omega
  obtain⟨r0,w0⟩:=Av (l:=[70,85]) 0 (by decide) (by decide)
  obtain⟨r1,w1⟩:=Av (l:=[70,85]) 1 (by decide) (by decide)
  have r2:=True.intro
  have w2:=True.intro
  have r3:=True.intro
  have w3:=True.intro
  have r4:=True.intro
  have w4:=True.intro
  have r5:=True.intro
  have w5:=True.intro
  have v0:Ai (⟨#[70,85]⟩:ByteArray).data.toList 0=1:=w0
  have v1:Ai (⟨#[70,85]⟩:ByteArray).data.toList (0+Ai (⟨#[70,85]⟩:ByteArray).data.toList 0)=1:=by rw[v0];exact w1
  have hrow:(([70,85]:List UInt8).length:Int)=2:=rfl
  (conv=>whnf)
  (repeat' ((first
   |((with_reducible refine aI ?_ ?_);focus (omega))
   |fail)<;>(conv=>whnf)))
  refine⟨(((sL (Aa 32 x.1)).getD (Int.toNat 0) [],(0:Int)):List UInt8 × Int),hk,?_,?_⟩
  ·exact Ac _
  (conv=>whnf)
  (repeat' ((first
   |with_reducible exact⟨⟩
   |(with_reducible refine Ao ?_)
   |((with_reducible refine aI ?_ ?_);focus (first|with_reducible exact⟨⟩|exact tO|with_reducible rfl|omega|exact tK))
   |(conv=>arg 2;(first|change eqI (Bg _ _) _|change decide (_+Ai _ _<_)|change ! (sB _));simp only[List.toList_toArray,Bd,r0,r1,r2,r3,r4,r5,w0,w1,w2,w3,w4,w5,Nat.zero_add,Nat.reduceAdd,List.length_cons,List.length_nil])
   |(split<;>rename_i hh<;>(try simp only[wS] at hh))
   |with_reducible refine lnI fun hln=>?_
   |with_reducible refine iA ?_ ?_
   |fail)<;>(conv=>whnf)))
  all_goals try (rw[hno]<;>rfl)
  refine⟨(⟨[],0,0,0,0,0,[],[],[],0,(Aj ((sL (Aa 32 x.1)).getD 1 [])).1,(Aj ((sL (Aa 32 x.1)).getD 2 [])).1⟩:Request),⟨Nat.zero_le _,Nat.zero_le _⟩,?_,?_⟩
  ·(conv=>whnf)
   (repeat' ((first|with_reducible exact⟨⟩|((with_reducible refine aI ?_ ?_);focus (exact tA))|with_reducible refine iA ?_ ?_|fail)<;>(conv=>whnf)))
   all_goals (try simp only[wQ])
   all_goals (try first|rfl)
   all_goals (simp only[w0,w1,w2,w3,w4,w5,Nat.zero_add,Nat.reduceAdd];rfl)
  (conv=>whnf)
  (repeat' ((first
   |with_reducible exact⟨⟩
   |((with_reducible refine aI ?_ ?_);focus (with_reducible rfl))
   |(conv=>arg 2;change ! (sB _);simp only[List.toList_toArray,Bd,r0,r1,r2,r3,r4,r5,w0,w1,w2,w3,w4,w5,Nat.zero_add,Nat.reduceAdd,List.length_cons,List.length_nil])
   |(split<;>rename_i hh<;>(try simp only[wS] at hh))
   |with_reducible refine iA ?_ ?_
   |fail)<;>(conv=>whnf)))
  all_goals first|(rw[hno]<;>rfl)|(exfalso;rw[P9 (show¬(1≤(0:Int)∧(0:Int)≤10) by decide)] at hh;cases hh)
 ·exact absurd hk hn1
 ·have hk2:kindOf ((Aa 32 x.1).getD 0 [])=2:=by rw[hsL] at hk;exact hk
  have hrd:∀ r,Ah r=true→Bu r=x.1→(⟨((sL (Aa 32 x.1)).getD 1 []),2,(Aj ((sL (Aa 32 x.1)).getD 2 [])).1,(numOf ((sL (Aa 32 x.1)).getD 3 [])).1,(Aj ((sL (Aa 32 x.1)).getD 4 [])).1,(statOf ((sL (Aa 32 x.1)).getD 5 [])),[],[],[],0,0,0⟩:Request)=r:=fun r hm hw=>by
   have hc:=Aqu hm hw hk2
   rw[hsL,hc.1];simp only[List.getD_cons_zero,List.getD_cons_succ,hc.2.2.1,hc.2.2.2.1,hc.2.2.2.2.1,hc.2.2.2.2.2.1.1];exact hc.2.1.symm
  obtain⟨r0,w0⟩:=Av (l:=[75,68,84,78,83]) 0 (by decide) (by decide)
  obtain⟨r1,w1⟩:=Av (l:=[75,68,84,78,83]) 1 (by decide) (by decide)
  obtain⟨r2,w2⟩:=Av (l:=[75,68,84,78,83]) 2 (by decide) (by decide)
  obtain⟨r3,w3⟩:=Av (l:=[75,68,84,78,83]) 3 (by decide) (by decide)
  obtain⟨r4,w4⟩:=Av (l:=[75,68,84,78,83]) 4 (by decide) (by decide)
  have r5:=True.intro
  have w5:=True.intro
  have v0:Ai (⟨#[75,68,84,78,83]⟩:ByteArray).data.toList 0=1:=w0
  have v1:Ai (⟨#[75,68,84,78,83]⟩:ByteArray).data.toList (0+Ai (⟨#[75,68,84,78,83]⟩:ByteArray).data.toList 0)=1:=by rw[v0];exact w1
  have v2:Ai (⟨#[75,68,84,78,83]⟩:ByteArray).data.toList ((0+Ai (⟨#[75,68,84,78,83]⟩:ByteArray).data.toList 0)+Ai (⟨#[75,68,84,78,83]⟩:ByteArray).data.toList (0+Ai (⟨#[75,68,84,78,83]⟩:ByteArray).data.toList 0))=1:=by rw[v1,v0];exact w2
  have v3:Ai (⟨#[75,68,84,78,83]⟩:ByteArray).data.toList (((0+Ai (⟨#[75,68,84,78,83]⟩:ByteArray).data.toList 0)+Ai (⟨#[75,68,84,78,83]⟩:ByteArray).data.toList (0+Ai (⟨#[75,68,84,78,83]⟩:ByteArray).data.toList 0))+Ai (⟨#[75,68,84,78,83]⟩:ByteArray).data.toList ((0+Ai (⟨#[75,68,84,78,83]⟩:ByteArray).data.toList 0)+Ai (⟨#[75,68,84,78,83]⟩:ByteArray).data.toList (0+Ai (⟨#[75,68,84,78,83]⟩:ByteArray).data.toList 0)))=1:=by rw[v2,v1,v0];exact w3
  have v4:Ai (⟨#[75,68,84,78,83]⟩:ByteArray).data.toList ((((0+Ai (⟨#[75,68,84,78,83]⟩:ByteArray).data.toList 0)+Ai (⟨#[75,68,84,78,83]⟩:ByteArray).data.toList (0+Ai (⟨#[75,68,84,78,83]⟩:ByteArray).data.toList 0))+Ai (⟨#[75,68,84,78,83]⟩:ByteArray).data.toList ((0+Ai (⟨#[75,68,84,78,83]⟩:ByteArray).data.toList 0)+Ai (⟨#[75,68,84,78,83]⟩:ByteArray).data.toList (0+Ai (⟨#[75,68,84,78,83]⟩:ByteArray).data.toList 0)))+Ai (⟨#[75,68,84,78,83]⟩:ByteArray).data.toList (((0+Ai (⟨#[75,68,84,78,83]⟩:ByteArray).data.toList 0)+Ai (⟨#[75,68,84,78,83]⟩:ByteArray).data.toList (0+Ai (⟨#[75,68,84,78,83]⟩:ByteArray).data.toList 0))+Ai (⟨#[75,68,84,78,83]⟩:ByteArray).data.toList ((0+Ai (⟨#[75,68,84,78,83]⟩:ByteArray).data.toList 0)+Ai (⟨#[75,68,84,78,83]⟩:ByteArray).data.toList (0+Ai (⟨#[75,68,84,78,83]⟩:ByteArray).data.toList 0))))=1:=by rw[v3,v2,v1,v0];exact w4
  have hrow:(([75,68,84,78,83]:List UInt8).length:Int)=5:=rfl
  (conv=>whnf)
  (repeat' ((first
   |((with_reducible refine aI ?_ ?_);focus (omega))
   |fail)<;>(conv=>whnf)))
  refine⟨(((sL (Aa 32 x.1)).getD (Int.toNat 0) [],(2:Int)):List UInt8 × Int),hk,?_,?_⟩
  ·exact Ac _
  (conv=>whnf)
  (repeat' ((first
   |with_reducible exact⟨⟩
   |(with_reducible refine Ao ?_)
   |((with_reducible refine aI ?_ ?_);focus (first|with_reducible exact⟨⟩|exact tO|with_reducible rfl|omega|exact tK|(dsimp only at*;simp only[Am,Go.Vc.lo,Go.Vc.hi];omega)))
   |(conv=>arg 2;(first|change eqI (Bg _ _) _|change decide (_+Ai _ _<_)|change ! (sB _));simp only[List.toList_toArray,Bd,r0,r1,r2,r3,r4,r5,w0,w1,w2,w3,w4,w5,Nat.zero_add,Nat.reduceAdd,List.length_cons,List.length_nil])
   |(split<;>rename_i hh<;>(try simp only[wS] at hh))
   |with_reducible refine lnI fun hln=>?_
   |with_reducible refine iA ?_ ?_
   |fail)<;>(conv=>whnf)))
  all_goals try (
   have hz:x.2=(Ay,4):=by
    refine hfail fun r hm hw=>?_
    have hc:=Aqu hm hw hk2
    try simp only[List.toList_toArray,w0,w1,w2,w3,w4,w5,Nat.zero_add,Nat.reduceAdd] at hh
    rw[hsL,hc.1] at hh
    first|exact hh rfl|(cases hh.symm.trans (congrArg Prod.snd hc.2.2.1))|(exact absurd (congrArg Prod.snd hc.2.2.2.1) hh)|(cases hh.symm.trans (congrArg Prod.snd hc.2.2.2.2.1))|(exact hh ((gQ (Dg r.status)).elim (fun h=>absurd (hc.2.2.2.2.2.1.1.symm.trans h.1) hc.2.2.2.2.2.1.2) (fun h=>h.2)))
   rw[hz]<;>rfl)
  refine⟨(⟨((sL (Aa 32 x.1)).getD 1 []),2,(Aj ((sL (Aa 32 x.1)).getD 2 [])).1,(numOf ((sL (Aa 32 x.1)).getD 3 [])).1,(Aj ((sL (Aa 32 x.1)).getD 4 [])).1,(statOf ((sL (Aa 32 x.1)).getD 5 [])),[],[],[],0,0,0⟩:Request),⟨Nat.zero_le _,Nat.zero_le _⟩,?_,?_⟩
  ·(conv=>whnf)
   (repeat' ((first|with_reducible exact⟨⟩|((with_reducible refine aI ?_ ?_);focus (exact tA))|with_reducible refine iA ?_ ?_|fail)<;>(conv=>whnf)))
   all_goals (try simp only[wQ])
   all_goals (simp only[w0,w1,w2,w3,w4,w5,Nat.zero_add,Nat.reduceAdd];rfl)
  (conv=>whnf)
  (repeat' ((first
   |with_reducible exact⟨⟩
   |((with_reducible refine aI ?_ ?_);focus (with_reducible rfl))
   |(conv=>arg 2;change ! (sB _);simp only[List.toList_toArray,Bd,r0,r1,r2,r3,r4,r5,w0,w1,w2,w3,w4,w5,Nat.zero_add,Nat.reduceAdd,List.length_cons,List.length_nil])
   |(split<;>rename_i hh<;>(try simp only[wS] at hh))
   |with_reducible refine iA ?_ ?_
   |fail)<;>(conv=>whnf)))
  all_goals try (
   have hz:x.2=(Ay,4):=by
    refine hfail fun r hm hw=>?_
    rw[hrd r hm hw,hm] at hh
    cases hh
   rw[hz]<;>rfl)
  refine⟨(⟨((sL (Aa 32 x.1)).getD 1 []),2,(Aj ((sL (Aa 32 x.1)).getD 2 [])).1,(numOf ((sL (Aa 32 x.1)).getD 3 [])).1,(Aj ((sL (Aa 32 x.1)).getD 4 [])).1,(statOf ((sL (Aa 32 x.1)).getD 5 [])),[],[],[],0,0,0⟩:Request),⟨Nat.zero_le _,Nat.zero_le _⟩,?_,?_⟩
  ·(conv=>whnf)
   (repeat' ((first|with_reducible exact⟨⟩|((with_reducible refine aI ?_ ?_);focus (exact tA))|with_reducible refine iA ?_ ?_|fail)<;>(conv=>whnf)))
   all_goals (try simp only[wQ])
   all_goals (simp only[w0,w1,w2,w3,w4,w5,Nat.zero_add,Nat.reduceAdd];rfl)
  (conv=>whnf)
  (repeat' ((first
   |with_reducible exact⟨⟩
   |((with_reducible refine aI ?_ ?_);focus (with_reducible rfl))
   |(split<;>rename_i hh<;>(try simp only[wS] at hh))
   |with_reducible refine iA ?_ ?_
   |fail)<;>(conv=>whnf)))
  all_goals (try (show _=_;simp only[wQ]))
  all_goals try (
   have hz:x.2=(Ay,4):=by
    refine hfail fun r hm hw=>?_
    rw[hrd r hm hw] at hh
    exact hh hw
   rw[hz]<;>rfl)
  all_goals (
   have hz:=hq.symm.trans (Fa (by assumption) (by assumption) hrd)
   try simp only[List.toList_toArray,w0,w1,w2,w3,w4,w5,Nat.zero_add,Nat.reduceAdd]
   rw[hz]<;>rfl)
 ·have hk2:kindOf ((Aa 32 x.1).getD 0 [])=3:=by rw[hsL] at hk;exact hk
  have hrd:∀ r,Ah r=true→Bu r=x.1→(⟨((sL (Aa 32 x.1)).getD 1 []),3,(Aj ((sL (Aa 32 x.1)).getD 2 [])).1,(numOf ((sL (Aa 32 x.1)).getD 3 [])).1,0,0,[],[],[],0,0,0⟩:Request)=r:=fun r hm hw=>by
   have hc:=Aqv hm hw hk2
   rw[hsL,hc.1];simp only[List.getD_cons_zero,List.getD_cons_succ,hc.2.2.1,hc.2.2.2.1];exact hc.2.1.symm
  obtain⟨r0,w0⟩:=Av (l:=[75,68,84]) 0 (by decide) (by decide)
  obtain⟨r1,w1⟩:=Av (l:=[75,68,84]) 1 (by decide) (by decide)
  obtain⟨r2,w2⟩:=Av (l:=[75,68,84]) 2 (by decide) (by decide)
  have r3:=True.intro
  have w3:=True.intro
  have r4:=True.intro
  have w4:=True.intro
  have r5:=True.intro
  have w5:=True.intro
  have v0:Ai (⟨#[75,68,84]⟩:ByteArray).data.toList 0=1:=w0
  have v1:Ai (⟨#[75,68,84]⟩:ByteArray).data.toList (0+Ai (⟨#[75,68,84]⟩:ByteArray).data.toList 0)=1:=by rw[v0];exact w1
  have v2:Ai (⟨#[75,68,84]⟩:ByteArray).data.toList ((0+Ai (⟨#[75,68,84]⟩:ByteArray).data.toList 0)+Ai (⟨#[75,68,84]⟩:ByteArray).data.toList (0+Ai (⟨#[75,68,84]⟩:ByteArray).data.toList 0))=1:=by rw[v1,v0];exact w2
  have hrow:(([75,68,84]:List UInt8).length:Int)=3:=rfl
  (conv=>whnf)
  (repeat' ((first
   |((with_reducible refine aI ?_ ?_);focus (omega))
   |fail)<;>(conv=>whnf)))
  refine⟨(((sL (Aa 32 x.1)).getD (Int.toNat 0) [],(3:Int)):List UInt8 × Int),hk,?_,?_⟩
  ·exact Ac _
  (conv=>whnf)
  (repeat' ((first
   |with_reducible exact⟨⟩
   |(with_reducible refine Ao ?_)
   |((with_reducible refine aI ?_ ?_);focus (first|with_reducible exact⟨⟩|exact tO|with_reducible rfl|omega|exact tK|(dsimp only at*;simp only[Am,Go.Vc.lo,Go.Vc.hi];omega)))
   |(conv=>arg 2;(first|change eqI (Bg _ _) _|change decide (_+Ai _ _<_)|change ! (sB _));simp only[List.toList_toArray,Bd,r0,r1,r2,r3,r4,r5,w0,w1,w2,w3,w4,w5,Nat.zero_add,Nat.reduceAdd,List.length_cons,List.length_nil])
   |(split<;>rename_i hh<;>(try simp only[wS] at hh))
   |with_reducible refine lnI fun hln=>?_
   |with_reducible refine iA ?_ ?_
   |fail)<;>(conv=>whnf)))
  all_goals try (
   have hz:x.2=(Ay,4):=by
    refine hfail fun r hm hw=>?_
    have hc:=Aqv hm hw hk2
    try simp only[List.toList_toArray,w0,w1,w2,w3,w4,w5,Nat.zero_add,Nat.reduceAdd] at hh
    rw[hsL,hc.1] at hh
    first|exact hh rfl|(cases hh.symm.trans (congrArg Prod.snd hc.2.2.1))|(exact absurd (congrArg Prod.snd hc.2.2.2.1) hh)
   rw[hz]<;>rfl)
  refine⟨(⟨((sL (Aa 32 x.1)).getD 1 []),3,(Aj ((sL (Aa 32 x.1)).getD 2 [])).1,(numOf ((sL (Aa 32 x.1)).getD 3 [])).1,0,0,[],[],[],0,0,0⟩:Request),⟨Nat.zero_le _,Nat.zero_le _⟩,?_,?_⟩
  ·(conv=>whnf)
   (repeat' ((first|with_reducible exact⟨⟩|((with_reducible refine aI ?_ ?_);focus (exact tA))|with_reducible refine iA ?_ ?_|fail)<;>(conv=>whnf)))
   all_goals (try simp only[wQ])
   all_goals (simp only[w0,w1,w2,w3,w4,w5,Nat.zero_add,Nat.reduceAdd];rfl)
  (conv=>whnf)
  (repeat' ((first
   |with_reducible exact⟨⟩
   |((with_reducible refine aI ?_ ?_);focus (with_reducible rfl))
   |(conv=>arg 2;change ! (sB _);simp only[List.toList_toArray,Bd,r0,r1,r2,r3,r4,r5,w0,w1,w2,w3,w4,w5,Nat.zero_add,Nat.reduceAdd,List.length_cons,List.length_nil])
   |(split<;>rename_i hh<;>(try simp only[wS] at hh))
   |with_reducible refine iA ?_ ?_
   |fail)<;>(conv=>whnf)))
  all_goals try (
   have hz:x.2=(Ay,4):=by
    refine hfail fun r hm hw=>?_
    rw[hrd r hm hw,hm] at hh
    cases hh
   rw[hz]<;>rfl)
  refine⟨(⟨((sL (Aa 32 x.1)).getD 1 []),3,(Aj ((sL (Aa 32 x.1)).getD 2 [])).1,(numOf ((sL (Aa 32 x.1)).getD 3 [])).1,0,0,[],[],[],0,0,0⟩:Request),⟨Nat.zero_le _,Nat.zero_le _⟩,?_,?_⟩
  ·(conv=>whnf)
   (repeat' ((first|with_reducible exact⟨⟩|((with_reducible refine aI ?_ ?_);focus (exact tA))|with_reducible refine iA ?_ ?_|fail)<;>(conv=>whnf)))
   all_goals (try simp only[wQ])
   all_goals (simp only[w0,w1,w2,w3,w4,w5,Nat.zero_add,Nat.reduceAdd];rfl)
  (conv=>whnf)
  (repeat' ((first
   |with_reducible exact⟨⟩
   |((with_reducible refine aI ?_ ?_);focus (with_reducible rfl))
   |(split<;>rename_i hh<;>(try simp only[wS] at hh))
   |with_reducible refine iA ?_ ?_
   |fail)<;>(conv=>whnf)))
  all_goals (try (show _=_;simp only[wQ]))
  all_goals try (
   have hz:x.2=(Ay,4):=by
    refine hfail fun r hm hw=>?_
    rw[hrd r hm hw] at hh
    exact hh hw
   rw[hz]<;>rfl)
  all_goals (
   have hz:=hq.symm.trans (Fa (by assumption) (by assumption) hrd)
   try simp only[List.toList_toArray,w0,w1,w2,w3,w4,w5,Nat.zero_add,Nat.reduceAdd]
   rw[hz]<;>rfl)
 ·have hk2:kindOf ((Aa 32 x.1).getD 0 [])=4:=by rw[hsL] at hk;exact hk
  have hrd:∀ r,Ah r=true→Bu r=x.1→(⟨((sL (Aa 32 x.1)).getD 1 []),4,(Aj ((sL (Aa 32 x.1)).getD 2 [])).1,(numOf ((sL (Aa 32 x.1)).getD 3 [])).1,0,0,[],[],[],(Dm ((sL (Aa 32 x.1)).getD 4 [])).1,0,0⟩:Request)=r:=fun r hm hw=>by
   have hc:=Aqw hm hw hk2
   rw[hsL,hc.1];simp only[List.getD_cons_zero,List.getD_cons_succ,hc.2.2.1,hc.2.2.2.1,hc.2.2.2.2.1];exact hc.2.1.symm
  obtain⟨r0,w0⟩:=Av (l:=[75,68,84,65]) 0 (by decide) (by decide)
  obtain⟨r1,w1⟩:=Av (l:=[75,68,84,65]) 1 (by decide) (by decide)
  obtain⟨r2,w2⟩:=Av (l:=[75,68,84,65]) 2 (by decide) (by decide)
  obtain⟨r3,w3⟩:=Av (l:=[75,68,84,65]) 3 (by decide) (by decide)
  have r4:=True.intro
  have w4:=True.intro
  have r5:=True.intro
  have w5:=True.intro
  have v0:Ai (⟨#[75,68,84,65]⟩:ByteArray).data.toList 0=1:=w0
  have v1:Ai (⟨#[75,68,84,65]⟩:ByteArray).data.toList (0+Ai (⟨#[75,68,84,65]⟩:ByteArray).data.toList 0)=1:=by rw[v0];exact w1
  have v2:Ai (⟨#[75,68,84,65]⟩:ByteArray).data.toList ((0+Ai (⟨#[75,68,84,65]⟩:ByteArray).data.toList 0)+Ai (⟨#[75,68,84,65]⟩:ByteArray).data.toList (0+Ai (⟨#[75,68,84,65]⟩:ByteArray).data.toList 0))=1:=by rw[v1,v0];exact w2
  have v3:Ai (⟨#[75,68,84,65]⟩:ByteArray).data.toList (((0+Ai (⟨#[75,68,84,65]⟩:ByteArray).data.toList 0)+Ai (⟨#[75,68,84,65]⟩:ByteArray).data.toList (0+Ai (⟨#[75,68,84,65]⟩:ByteArray).data.toList 0))+Ai (⟨#[75,68,84,65]⟩:ByteArray).data.toList ((0+Ai (⟨#[75,68,84,65]⟩:ByteArray).data.toList 0)+Ai (⟨#[75,68,84,65]⟩:ByteArray).data.toList (0+Ai (⟨#[75,68,84,65]⟩:ByteArray).data.toList 0)))=1:=by rw[v2,v1,v0];exact w3
  have hrow:(([75,68,84,65]:List UInt8).length:Int)=4:=rfl
  (conv=>whnf)
  (repeat' ((first
   |((with_reducible refine aI ?_ ?_);focus (omega))
   |fail)<;>(conv=>whnf)))
  refine⟨(((sL (Aa 32 x.1)).getD (Int.toNat 0) [],(4:Int)):List UInt8 × Int),hk,?_,?_⟩
  ·exact Ac _
  (conv=>whnf)
  (repeat' ((first
   |with_reducible exact⟨⟩
   |(with_reducible refine Ao ?_)
   |((with_reducible refine aI ?_ ?_);focus (exact Nat.le_trans (hmem _) ((nB rfl))))
   |((with_reducible refine aI ?_ ?_);focus (first|with_reducible exact⟨⟩|exact tO|with_reducible rfl|omega|exact tK|(dsimp only at*;simp only[Am,Go.Vc.lo,Go.Vc.hi];omega)))
   |(conv=>arg 2;(first|change eqI (Bg _ _) _|change decide (_+Ai _ _<_)|change ! (sB _));simp only[List.toList_toArray,Bd,r0,r1,r2,r3,r4,r5,w0,w1,w2,w3,w4,w5,Nat.zero_add,Nat.reduceAdd,List.length_cons,List.length_nil])
   |(split<;>rename_i hh<;>(try simp only[wS] at hh))
   |with_reducible refine lnI fun hln=>?_
   |with_reducible refine iA ?_ ?_
   |fail)<;>(conv=>whnf)))
  all_goals try (
   have hz:x.2=(Ay,4):=by
    refine hfail fun r hm hw=>?_
    have hc:=Aqw hm hw hk2
    try simp only[List.toList_toArray,w0,w1,w2,w3,w4,w5,Nat.zero_add,Nat.reduceAdd] at hh
    rw[hsL,hc.1] at hh
    first|exact hh rfl|(cases hh.symm.trans (congrArg Prod.snd hc.2.2.1))|(exact absurd (congrArg Prod.snd hc.2.2.2.1) hh)|(exact absurd (congrArg Prod.snd hc.2.2.2.2.1) hh)
   rw[hz]<;>rfl)
  refine⟨(⟨((sL (Aa 32 x.1)).getD 1 []),4,(Aj ((sL (Aa 32 x.1)).getD 2 [])).1,(numOf ((sL (Aa 32 x.1)).getD 3 [])).1,0,0,[],[],[],(Dm ((sL (Aa 32 x.1)).getD 4 [])).1,0,0⟩:Request),⟨Nat.zero_le _,Nat.zero_le _⟩,?_,?_⟩
  ·(conv=>whnf)
   (repeat' ((first|with_reducible exact⟨⟩|((with_reducible refine aI ?_ ?_);focus (exact tA))|with_reducible refine iA ?_ ?_|fail)<;>(conv=>whnf)))
   all_goals (try simp only[wQ])
   all_goals (simp only[w0,w1,w2,w3,w4,w5,Nat.zero_add,Nat.reduceAdd];rfl)
  (conv=>whnf)
  (repeat' ((first
   |with_reducible exact⟨⟩
   |((with_reducible refine aI ?_ ?_);focus (with_reducible rfl))
   |(conv=>arg 2;change ! (sB _);simp only[List.toList_toArray,Bd,r0,r1,r2,r3,r4,r5,w0,w1,w2,w3,w4,w5,Nat.zero_add,Nat.reduceAdd,List.length_cons,List.length_nil])
   |(split<;>rename_i hh<;>(try simp only[wS] at hh))
   |with_reducible refine iA ?_ ?_
   |fail)<;>(conv=>whnf)))
  all_goals try (
   have hz:x.2=(Ay,4):=by
    refine hfail fun r hm hw=>?_
    rw[hrd r hm hw,hm] at hh
    cases hh
   rw[hz]<;>rfl)
  refine⟨(⟨((sL (Aa 32 x.1)).getD 1 []),4,(Aj ((sL (Aa 32 x.1)).getD 2 [])).1,(numOf ((sL (Aa 32 x.1)).getD 3 [])).1,0,0,[],[],[],(Dm ((sL (Aa 32 x.1)).getD 4 [])).1,0,0⟩:Request),⟨Nat.zero_le _,Nat.zero_le _⟩,?_,?_⟩
  ·(conv=>whnf)
   (repeat' ((first|with_reducible exact⟨⟩|((with_reducible refine aI ?_ ?_);focus (exact tA))|with_reducible refine iA ?_ ?_|fail)<;>(conv=>whnf)))
   all_goals (try simp only[wQ])
   all_goals (simp only[w0,w1,w2,w3,w4,w5,Nat.zero_add,Nat.reduceAdd];rfl)
  (conv=>whnf)
  (repeat' ((first
   |with_reducible exact⟨⟩
   |((with_reducible refine aI ?_ ?_);focus (with_reducible rfl))
   |(split<;>rename_i hh<;>(try simp only[wS] at hh))
   |with_reducible refine iA ?_ ?_
   |fail)<;>(conv=>whnf)))
  all_goals (try (show _=_;simp only[wQ]))
  all_goals try (
   have hz:x.2=(Ay,4):=by
    refine hfail fun r hm hw=>?_
    rw[hrd r hm hw] at hh
    exact hh hw
   rw[hz]<;>rfl)
  all_goals (
   have hz:=hq.symm.trans (Fa (by assumption) (by assumption) hrd)
   try simp only[List.toList_toArray,w0,w1,w2,w3,w4,w5,Nat.zero_add,Nat.reduceAdd]
   rw[hz]<;>rfl)
 ·exact absurd hk hn5
 ·have hk2:kindOf ((Aa 32 x.1).getD 0 [])=6:=by rw[hsL] at hk;exact hk
  have hrd:∀ r,Ah r=true→Bu r=x.1→(⟨((sL (Aa 32 x.1)).getD 1 []),6,(Aj ((sL (Aa 32 x.1)).getD 2 [])).1,(numOf ((sL (Aa 32 x.1)).getD 3 [])).1,(Aj ((sL (Aa 32 x.1)).getD 4 [])).1,0,[],[],[],0,0,0⟩:Request)=r:=fun r hm hw=>by
   have hc:=Aqx hm hw hk2
   rw[hsL,hc.1];simp only[List.getD_cons_zero,List.getD_cons_succ,hc.2.2.1,hc.2.2.2.1,hc.2.2.2.2.1];exact hc.2.1.symm
  obtain⟨r0,w0⟩:=Av (l:=[75,68,84,78]) 0 (by decide) (by decide)
  obtain⟨r1,w1⟩:=Av (l:=[75,68,84,78]) 1 (by decide) (by decide)
  obtain⟨r2,w2⟩:=Av (l:=[75,68,84,78]) 2 (by decide) (by decide)
  obtain⟨r3,w3⟩:=Av (l:=[75,68,84,78]) 3 (by decide) (by decide)
  have r4:=True.intro
  have w4:=True.intro
  have r5:=True.intro
  have w5:=True.intro
  have v0:Ai (⟨#[75,68,84,78]⟩:ByteArray).data.toList 0=1:=w0
  have v1:Ai (⟨#[75,68,84,78]⟩:ByteArray).data.toList (0+Ai (⟨#[75,68,84,78]⟩:ByteArray).data.toList 0)=1:=by rw[v0];exact w1
  have v2:Ai (⟨#[75,68,84,78]⟩:ByteArray).data.toList ((0+Ai (⟨#[75,68,84,78]⟩:ByteArray).data.toList 0)+Ai (⟨#[75,68,84,78]⟩:ByteArray).data.toList (0+Ai (⟨#[75,68,84,78]⟩:ByteArray).data.toList 0))=1:=by rw[v1,v0];exact w2
  have v3:Ai (⟨#[75,68,84,78]⟩:ByteArray).data.toList (((0+Ai (⟨#[75,68,84,78]⟩:ByteArray).data.toList 0)+Ai (⟨#[75,68,84,78]⟩:ByteArray).data.toList (0+Ai (⟨#[75,68,84,78]⟩:ByteArray).data.toList 0))+Ai (⟨#[75,68,84,78]⟩:ByteArray).data.toList ((0+Ai (⟨#[75,68,84,78]⟩:ByteArray).data.toList 0)+Ai (⟨#[75,68,84,78]⟩:ByteArray).data.toList (0+Ai (⟨#[75,68,84,78]⟩:ByteArray).data.toList 0)))=1:=by rw[v2,v1,v0];exact w3
  have hrow:(([75,68,84,78]:List UInt8).length:Int)=4:=rfl
  (conv=>whnf)
  (repeat' ((first
   |((with_reducible refine aI ?_ ?_);focus (omega))
   |fail)<;>(conv=>whnf)))
  refine⟨(((sL (Aa 32 x.1)).getD (Int.toNat 0) [],(6:Int)):List UInt8 × Int),hk,?_,?_⟩
  ·exact Ac _
  (conv=>whnf)
  (repeat' ((first
   |with_reducible exact⟨⟩
   |(with_reducible refine Ao ?_)
   |((with_reducible refine aI ?_ ?_);focus (first|with_reducible exact⟨⟩|exact tO|with_reducible rfl|omega|exact tK|(dsimp only at*;simp only[Am,Go.Vc.lo,Go.Vc.hi];omega)))
   |(conv=>arg 2;(first|change eqI (Bg _ _) _|change decide (_+Ai _ _<_)|change ! (sB _));simp only[List.toList_toArray,Bd,r0,r1,r2,r3,r4,r5,w0,w1,w2,w3,w4,w5,Nat.zero_add,Nat.reduceAdd,List.length_cons,List.length_nil])
   |(split<;>rename_i hh<;>(try simp only[wS] at hh))
   |with_reducible refine lnI fun hln=>?_
   |with_reducible refine iA ?_ ?_
   |fail)<;>(conv=>whnf)))
  all_goals try (
   have hz:x.2=(Ay,4):=by
    refine hfail fun r hm hw=>?_
    have hc:=Aqx hm hw hk2
    try simp only[List.toList_toArray,w0,w1,w2,w3,w4,w5,Nat.zero_add,Nat.reduceAdd] at hh
    rw[hsL,hc.1] at hh
    first|exact hh rfl|(cases hh.symm.trans (congrArg Prod.snd hc.2.2.1))|(exact absurd (congrArg Prod.snd hc.2.2.2.1) hh)|(cases hh.symm.trans (congrArg Prod.snd hc.2.2.2.2.1))
   rw[hz]<;>rfl)
  refine⟨(⟨((sL (Aa 32 x.1)).getD 1 []),6,(Aj ((sL (Aa 32 x.1)).getD 2 [])).1,(numOf ((sL (Aa 32 x.1)).getD 3 [])).1,(Aj ((sL (Aa 32 x.1)).getD 4 [])).1,0,[],[],[],0,0,0⟩:Request),⟨Nat.zero_le _,Nat.zero_le _⟩,?_,?_⟩
  ·(conv=>whnf)
   (repeat' ((first|with_reducible exact⟨⟩|((with_reducible refine aI ?_ ?_);focus (exact tA))|with_reducible refine iA ?_ ?_|fail)<;>(conv=>whnf)))
   all_goals (try simp only[wQ])
   all_goals (simp only[w0,w1,w2,w3,w4,w5,Nat.zero_add,Nat.reduceAdd];rfl)
  (conv=>whnf)
  (repeat' ((first
   |with_reducible exact⟨⟩
   |((with_reducible refine aI ?_ ?_);focus (with_reducible rfl))
   |(conv=>arg 2;change ! (sB _);simp only[List.toList_toArray,Bd,r0,r1,r2,r3,r4,r5,w0,w1,w2,w3,w4,w5,Nat.zero_add,Nat.reduceAdd,List.length_cons,List.length_nil])
   |(split<;>rename_i hh<;>(try simp only[wS] at hh))
   |with_reducible refine iA ?_ ?_
   |fail)<;>(conv=>whnf)))
  all_goals try (
   have hz:x.2=(Ay,4):=by
    refine hfail fun r hm hw=>?_
    rw[hrd r hm hw,hm] at hh
    cases hh
   rw[hz]<;>rfl)
  refine⟨(⟨((sL (Aa 32 x.1)).getD 1 []),6,(Aj ((sL (Aa 32 x.1)).getD 2 [])).1,(numOf ((sL (Aa 32 x.1)).getD 3 [])).1,(Aj ((sL (Aa 32 x.1)).getD 4 [])).1,0,[],[],[],0,0,0⟩:Request),⟨Nat.zero_le _,Nat.zero_le _⟩,?_,?_⟩
  ·(conv=>whnf)
   (repeat' ((first|with_reducible exact⟨⟩|((with_reducible refine aI ?_ ?_);focus (exact tA))|with_reducible refine iA ?_ ?_|fail)<;>(conv=>whnf)))
   all_goals (try simp only[wQ])
   all_goals (simp only[w0,w1,w2,w3,w4,w5,Nat.zero_add,Nat.reduceAdd];rfl)
  (conv=>whnf)
  (repeat' ((first
   |with_reducible exact⟨⟩
   |((with_reducible refine aI ?_ ?_);focus (with_reducible rfl))
   |(split<;>rename_i hh<;>(try simp only[wS] at hh))
   |with_reducible refine iA ?_ ?_
   |fail)<;>(conv=>whnf)))
  all_goals (try (show _=_;simp only[wQ]))
  all_goals try (
   have hz:x.2=(Ay,4):=by
    refine hfail fun r hm hw=>?_
    rw[hrd r hm hw] at hh
    exact hh hw
   rw[hz]<;>rfl)
  all_goals (
   have hz:=hq.symm.trans (Fa (by assumption) (by assumption) hrd)
   try simp only[List.toList_toArray,w0,w1,w2,w3,w4,w5,Nat.zero_add,Nat.reduceAdd]
   rw[hz]<;>rfl)
 ·have hk2:kindOf ((Aa 32 x.1).getD 0 [])=7:=by rw[hsL] at hk;exact hk
  have hrd:∀ r,Ah r=true→Bu r=x.1→(⟨((sL (Aa 32 x.1)).getD 1 []),7,(Aj ((sL (Aa 32 x.1)).getD 2 [])).1,(numOf ((sL (Aa 32 x.1)).getD 3 [])).1,(Aj ((sL (Aa 32 x.1)).getD 4 [])).1,0,[],[],[],0,0,0⟩:Request)=r:=fun r hm hw=>by
   have hc:=Aqy hm hw hk2
   rw[hsL,hc.1];simp only[List.getD_cons_zero,List.getD_cons_succ,hc.2.2.1,hc.2.2.2.1,hc.2.2.2.2.1];exact hc.2.1.symm
  obtain⟨r0,w0⟩:=Av (l:=[75,68,84,78]) 0 (by decide) (by decide)
  obtain⟨r1,w1⟩:=Av (l:=[75,68,84,78]) 1 (by decide) (by decide)
  obtain⟨r2,w2⟩:=Av (l:=[75,68,84,78]) 2 (by decide) (by decide)
  obtain⟨r3,w3⟩:=Av (l:=[75,68,84,78]) 3 (by decide) (by decide)
  have r4:=True.intro
  have w4:=True.intro
  have r5:=True.intro
  have w5:=True.intro
  have v0:Ai (⟨#[75,68,84,78]⟩:ByteArray).data.toList 0=1:=w0
  have v1:Ai (⟨#[75,68,84,78]⟩:ByteArray).data.toList (0+Ai (⟨#[75,68,84,78]⟩:ByteArray).data.toList 0)=1:=by rw[v0];exact w1
  have v2:Ai (⟨#[75,68,84,78]⟩:ByteArray).data.toList ((0+Ai (⟨#[75,68,84,78]⟩:ByteArray).data.toList 0)+Ai (⟨#[75,68,84,78]⟩:ByteArray).data.toList (0+Ai (⟨#[75,68,84,78]⟩:ByteArray).data.toList 0))=1:=by rw[v1,v0];exact w2
  have v3:Ai (⟨#[75,68,84,78]⟩:ByteArray).data.toList (((0+Ai (⟨#[75,68,84,78]⟩:ByteArray).data.toList 0)+Ai (⟨#[75,68,84,78]⟩:ByteArray).data.toList (0+Ai (⟨#[75,68,84,78]⟩:ByteArray).data.toList 0))+Ai (⟨#[75,68,84,78]⟩:ByteArray).data.toList ((0+Ai (⟨#[75,68,84,78]⟩:ByteArray).data.toList 0)+Ai (⟨#[75,68,84,78]⟩:ByteArray).data.toList (0+Ai (⟨#[75,68,84,78]⟩:ByteArray).data.toList 0)))=1:=by rw[v2,v1,v0];exact w3
  have hrow:(([75,68,84,78]:List UInt8).length:Int)=4:=rfl
  (conv=>whnf)
  (repeat' ((first
   |((with_reducible refine aI ?_ ?_);focus (omega))
   |fail)<;>(conv=>whnf)))
  refine⟨(((sL (Aa 32 x.1)).getD (Int.toNat 0) [],(7:Int)):List UInt8 × Int),hk,?_,?_⟩
  ·exact Ac _
  (conv=>whnf)
  (repeat' ((first
   |with_reducible exact⟨⟩
   |(with_reducible refine Ao ?_)
   |((with_reducible refine aI ?_ ?_);focus (first|with_reducible exact⟨⟩|exact tO|with_reducible rfl|omega|exact tK|(dsimp only at*;simp only[Am,Go.Vc.lo,Go.Vc.hi];omega)))
   |(conv=>arg 2;(first|change eqI (Bg _ _) _|change decide (_+Ai _ _<_)|change ! (sB _));simp only[List.toList_toArray,Bd,r0,r1,r2,r3,r4,r5,w0,w1,w2,w3,w4,w5,Nat.zero_add,Nat.reduceAdd,List.length_cons,List.length_nil])
   |(split<;>rename_i hh<;>(try simp only[wS] at hh))
   |with_reducible refine lnI fun hln=>?_
   |with_reducible refine iA ?_ ?_
   |fail)<;>(conv=>whnf)))
  all_goals try (
   have hz:x.2=(Ay,4):=by
    refine hfail fun r hm hw=>?_
    have hc:=Aqy hm hw hk2
    try simp only[List.toList_toArray,w0,w1,w2,w3,w4,w5,Nat.zero_add,Nat.reduceAdd] at hh
    rw[hsL,hc.1] at hh
    first|exact hh rfl|(cases hh.symm.trans (congrArg Prod.snd hc.2.2.1))|(exact absurd (congrArg Prod.snd hc.2.2.2.1) hh)|(cases hh.symm.trans (congrArg Prod.snd hc.2.2.2.2.1))
   rw[hz]<;>rfl)
  refine⟨(⟨((sL (Aa 32 x.1)).getD 1 []),7,(Aj ((sL (Aa 32 x.1)).getD 2 [])).1,(numOf ((sL (Aa 32 x.1)).getD 3 [])).1,(Aj ((sL (Aa 32 x.1)).getD 4 [])).1,0,[],[],[],0,0,0⟩:Request),⟨Nat.zero_le _,Nat.zero_le _⟩,?_,?_⟩
  ·(conv=>whnf)
   (repeat' ((first|with_reducible exact⟨⟩|((with_reducible refine aI ?_ ?_);focus (exact tA))|with_reducible refine iA ?_ ?_|fail)<;>(conv=>whnf)))
   all_goals (try simp only[wQ])
   all_goals (simp only[w0,w1,w2,w3,w4,w5,Nat.zero_add,Nat.reduceAdd];rfl)
  (conv=>whnf)
  (repeat' ((first
   |with_reducible exact⟨⟩
   |((with_reducible refine aI ?_ ?_);focus (with_reducible rfl))
   |(conv=>arg 2;change ! (sB _);simp only[List.toList_toArray,Bd,r0,r1,r2,r3,r4,r5,w0,w1,w2,w3,w4,w5,Nat.zero_add,Nat.reduceAdd,List.length_cons,List.length_nil])
   |(split<;>rename_i hh<;>(try simp only[wS] at hh))
   |with_reducible refine iA ?_ ?_
   |fail)<;>(conv=>whnf)))
  all_goals try (
   have hz:x.2=(Ay,4):=by
    refine hfail fun r hm hw=>?_
    rw[hrd r hm hw,hm] at hh
    cases hh
   rw[hz]<;>rfl)
  refine⟨(⟨((sL (Aa 32 x.1)).getD 1 []),7,(Aj ((sL (Aa 32 x.1)).getD 2 [])).1,(numOf ((sL (Aa 32 x.1)).getD 3 [])).1,(Aj ((sL (Aa 32 x.1)).getD 4 [])).1,0,[],[],[],0,0,0⟩:Request),⟨Nat.zero_le _,Nat.zero_le _⟩,?_,?_⟩
  ·(conv=>whnf)
   (repeat' ((first|with_reducible exact⟨⟩|((with_reducible refine aI ?_ ?_);focus (exact tA))|with_reducible refine iA ?_ ?_|fail)<;>(conv=>whnf)))
   all_goals (try simp only[wQ])
   all_goals (simp only[w0,w1,w2,w3,w4,w5,Nat.zero_add,Nat.reduceAdd];rfl)
  (conv=>whnf)
  (repeat' ((first
   |with_reducible exact⟨⟩
   |((with_reducible refine aI ?_ ?_);focus (with_reducible rfl))
   |(split<;>rename_i hh<;>(try simp only[wS] at hh))
   |with_reducible refine iA ?_ ?_
   |fail)<;>(conv=>whnf)))
  all_goals (try (show _=_;simp only[wQ]))
  all_goals try (
   have hz:x.2=(Ay,4):=by
    refine hfail fun r hm hw=>?_
    rw[hrd r hm hw] at hh
    exact hh hw
   rw[hz]<;>rfl)
  all_goals (
   have hz:=hq.symm.trans (Fa (by assumption) (by assumption) hrd)
   try simp only[List.toList_toArray,w0,w1,w2,w3,w4,w5,Nat.zero_add,Nat.reduceAdd]
   rw[hz]<;>rfl)
 ·have hk2:kindOf ((Aa 32 x.1).getD 0 [])=8:=by rw[hsL] at hk;exact hk
  have hrd:∀ r,Ah r=true→Bu r=x.1→(⟨[],8,0,(numOf ((sL (Aa 32 x.1)).getD 1 [])).1,0,0,[],[],[],0,0,0⟩:Request)=r:=fun r hm hw=>by
   have hc:=Aqz hm hw hk2
   rw[hsL,hc.1];simp only[List.getD_cons_zero,List.getD_cons_succ,hc.2.2.1];exact hc.2.1.symm
  obtain⟨r0,w0⟩:=Av (l:=[84]) 0 (by decide) (by decide)
  have r1:=True.intro
  have w1:=True.intro
  have r2:=True.intro
  have w2:=True.intro
  have r3:=True.intro
  have w3:=True.intro
  have r4:=True.intro
  have w4:=True.intro
  have r5:=True.intro
  have w5:=True.intro
  have v0:Ai (⟨#[84]⟩:ByteArray).data.toList 0=1:=w0
  have hrow:(([84]:List UInt8).length:Int)=1:=rfl
  (conv=>whnf)
  (repeat' ((first
   |((with_reducible refine aI ?_ ?_);focus (omega))
   |fail)<;>(conv=>whnf)))
  refine⟨(((sL (Aa 32 x.1)).getD (Int.toNat 0) [],(8:Int)):List UInt8 × Int),hk,?_,?_⟩
  ·exact Ac _
  (conv=>whnf)
  (repeat' ((first
   |with_reducible exact⟨⟩
   |(with_reducible refine Ao ?_)
   |((with_reducible refine aI ?_ ?_);focus (first|with_reducible exact⟨⟩|exact tO|with_reducible rfl|omega|exact tK))
   |(conv=>arg 2;(first|change eqI (Bg _ _) _|change decide (_+Ai _ _<_));simp only[List.toList_toArray,Bd,r0,r1,r2,r3,r4,r5,w0,w1,w2,w3,w4,w5,Nat.zero_add,Nat.reduceAdd,List.length_cons,List.length_nil])
   |(split<;>rename_i hh<;>(try simp only[wS] at hh))
   |with_reducible refine lnI fun hln=>?_
   |with_reducible refine iA ?_ ?_
   |fail)<;>(conv=>whnf)))
  all_goals try (
   have hz:x.2=(Ay,4):=by
    refine hfail fun r hm hw=>?_
    have hc:=Aqz hm hw hk2
    try simp only[List.toList_toArray,w0,w1,w2,w3,w4,w5,Nat.zero_add,Nat.reduceAdd] at hh
    rw[hsL,hc.1] at hh
    first|exact hh rfl|(exact absurd (congrArg Prod.snd hc.2.2.1) hh)
   rw[hz]<;>rfl)
  refine⟨(⟨[],8,0,(numOf ((sL (Aa 32 x.1)).getD 1 [])).1,0,0,[],[],[],0,0,0⟩:Request),⟨Nat.zero_le _,Nat.zero_le _⟩,?_,?_⟩
  ·(conv=>whnf)
   (repeat' ((first|with_reducible exact⟨⟩|((with_reducible refine aI ?_ ?_);focus (exact tA))|with_reducible refine iA ?_ ?_|fail)<;>(conv=>whnf)))
   all_goals (try simp only[wQ])
   all_goals (try first|rfl)
   all_goals (simp only[w0,w1,w2,w3,w4,w5,Nat.zero_add,Nat.reduceAdd];rfl)
  (conv=>whnf)
  (repeat' ((first
   |with_reducible exact⟨⟩
   |((with_reducible refine aI ?_ ?_);focus (with_reducible rfl))
   |(conv=>arg 2;change ! (sB _);simp only[List.toList_toArray,Bd,r0,r1,r2,r3,r4,r5,w0,w1,w2,w3,w4,w5,Nat.zero_add,Nat.reduceAdd,List.length_cons,List.length_nil])
   |(split<;>rename_i hh<;>(try simp only[wS] at hh))
   |with_reducible refine iA ?_ ?_
   |fail)<;>(conv=>whnf)))
  all_goals try (
   have hz:x.2=(Ay,4):=by
    refine hfail fun r hm hw=>?_
    rw[hrd r hm hw,hm] at hh
    cases hh
   rw[hz]<;>rfl)
  refine⟨(⟨[],8,0,(numOf ((sL (Aa 32 x.1)).getD 1 [])).1,0,0,[],[],[],0,0,0⟩:Request),⟨Nat.zero_le _,Nat.zero_le _⟩,?_,?_⟩
  ·(conv=>whnf)
   (repeat' ((first|with_reducible exact⟨⟩|((with_reducible refine aI ?_ ?_);focus (exact tA))|with_reducible refine iA ?_ ?_|fail)<;>(conv=>whnf)))
   all_goals (try simp only[wQ])
   all_goals (try first|rfl)
   all_goals (simp only[w0,w1,w2,w3,w4,w5,Nat.zero_add,Nat.reduceAdd];rfl)
  (conv=>whnf)
  (repeat' ((first
   |with_reducible exact⟨⟩
   |((with_reducible refine aI ?_ ?_);focus (with_reducible rfl))
   |(split<;>rename_i hh<;>(try simp only[wS] at hh))
   |with_reducible refine iA ?_ ?_
   |fail)<;>(conv=>whnf)))
  all_goals (try (show _=_;simp only[wQ]))
  all_goals try (
   have hz:x.2=(Ay,4):=by
    refine hfail fun r hm hw=>?_
    rw[hrd r hm hw] at hh
    exact hh hw
   rw[hz]<;>rfl)
  all_goals (
   have hz:=hq.symm.trans (Fa (by assumption) (by assumption) hrd)
   try simp only[List.toList_toArray,w0,w1,w2,w3,w4,w5,Nat.zero_add,Nat.reduceAdd]
   rw[hz]<;>rfl)
 ·have hk2:kindOf ((Aa 32 x.1).getD 0 [])=9:=by rw[hsL] at hk;exact hk
  have hrd:∀ r,Ah r=true→Bu r=x.1→(⟨[],9,0,0,0,0,((sL (Aa 32 x.1)).getD 1 []),[],[],0,0,0⟩:Request)=r:=fun r hm hw=>by
   have hc:=Aq0 hm hw hk2
   rw[hsL,hc.1];simp only[List.getD_cons_zero,List.getD_cons_succ];exact hc.2.1.symm
  obtain⟨r0,w0⟩:=Av (l:=[76]) 0 (by decide) (by decide)
  have r1:=True.intro
  have w1:=True.intro
  have r2:=True.intro
  have w2:=True.intro
  have r3:=True.intro
  have w3:=True.intro
  have r4:=True.intro
  have w4:=True.intro
  have r5:=True.intro
  have w5:=True.intro
  have v0:Ai (⟨#[76]⟩:ByteArray).data.toList 0=1:=w0
  have hrow:(([76]:List UInt8).length:Int)=1:=rfl
  (conv=>whnf)
  (repeat' ((first
   |((with_reducible refine aI ?_ ?_);focus (omega))
   |fail)<;>(conv=>whnf)))
  refine⟨(((sL (Aa 32 x.1)).getD (Int.toNat 0) [],(9:Int)):List UInt8 × Int),hk,?_,?_⟩
  ·exact Ac _
  (conv=>whnf)
  (repeat' ((first
   |with_reducible exact⟨⟩
   |(with_reducible refine Ao ?_)
   |((with_reducible refine aI ?_ ?_);focus (first|exact tO|with_reducible rfl|omega|exact tK))
   |(conv=>arg 2;(first|change eqI (Bg _ _) _|change decide (_+Ai _ _<_));simp only[List.toList_toArray,Bd,r0,r1,r2,r3,r4,r5,w0,w1,w2,w3,w4,w5,Nat.zero_add,Nat.reduceAdd,List.length_cons,List.length_nil])
   |(split<;>rename_i hh<;>(try simp only[wS] at hh))
   |with_reducible refine lnI fun hln=>?_
   |with_reducible refine iA ?_ ?_
   |fail)<;>(conv=>whnf)))
  all_goals try (
   have hz:x.2=(Ay,4):=by
    refine hfail fun r hm hw=>?_
    have hc:=Aq0 hm hw hk2
    try simp only[List.toList_toArray,w0,w1,w2,w3,w4,w5,Nat.zero_add,Nat.reduceAdd] at hh
    rw[hsL,hc.1] at hh
    first|exact hh rfl
   rw[hz]<;>rfl)
  refine⟨(⟨[],9,0,0,0,0,((sL (Aa 32 x.1)).getD 1 []),[],[],0,0,0⟩:Request),⟨Nat.zero_le _,Nat.zero_le _⟩,?_,?_⟩
  ·(conv=>whnf)
   (repeat' ((first|with_reducible exact⟨⟩|((with_reducible refine aI ?_ ?_);focus (exact tA))|with_reducible refine iA ?_ ?_|fail)<;>(conv=>whnf)))
   all_goals (simp only[w0,w1,w2,w3,w4,w5,Nat.zero_add,Nat.reduceAdd];rfl)
  (conv=>whnf)
  (repeat' ((first
   |with_reducible exact⟨⟩
   |((with_reducible refine aI ?_ ?_);focus (with_reducible rfl))
   |(conv=>arg 2;change ! (sB _);simp only[List.toList_toArray,Bd,r0,r1,r2,r3,r4,r5,w0,w1,w2,w3,w4,w5,Nat.zero_add,Nat.reduceAdd,List.length_cons,List.length_nil])
   |(split<;>rename_i hh<;>(try simp only[wS] at hh))
   |with_reducible refine iA ?_ ?_
   |fail)<;>(conv=>whnf)))
  all_goals try (
   have hz:x.2=(Ay,4):=by
    refine hfail fun r hm hw=>?_
    rw[hrd r hm hw,hm] at hh
    cases hh
   rw[hz]<;>rfl)
  refine⟨(⟨[],9,0,0,0,0,((sL (Aa 32 x.1)).getD 1 []),[],[],0,0,0⟩:Request),⟨Nat.zero_le _,Nat.zero_le _⟩,?_,?_⟩
  ·(conv=>whnf)
   (repeat' ((first|with_reducible exact⟨⟩|((with_reducible refine aI ?_ ?_);focus (exact tA))|with_reducible refine iA ?_ ?_|fail)<;>(conv=>whnf)))
   all_goals (simp only[w0,w1,w2,w3,w4,w5,Nat.zero_add,Nat.reduceAdd];rfl)
  (conv=>whnf)
  (repeat' ((first
   |with_reducible exact⟨⟩
   |((with_reducible refine aI ?_ ?_);focus (with_reducible rfl))
   |(split<;>rename_i hh<;>(try simp only[wS] at hh))
   |with_reducible refine iA ?_ ?_
   |fail)<;>(conv=>whnf)))
  all_goals (try (show _=_;simp only[wQ]))
  all_goals try (
   have hz:x.2=(Ay,4):=by
    refine hfail fun r hm hw=>?_
    rw[hrd r hm hw] at hh
    exact hh hw
   rw[hz]<;>rfl)
  all_goals (
   have hz:=hq.symm.trans (Fa (by assumption) (by assumption) hrd)
   try simp only[List.toList_toArray,w0,w1,w2,w3,w4,w5,Nat.zero_add,Nat.reduceAdd]
   rw[hz]<;>rfl)
 ·have hk2:kindOf ((Aa 32 x.1).getD 0 [])=10:=by rw[hsL] at hk;exact hk
  have hrd:∀ r,Ah r=true→Bu r=x.1→(⟨[],10,0,0,0,0,[],[],[],0,(Aj ((sL (Aa 32 x.1)).getD 1 [])).1,(Aj ((sL (Aa 32 x.1)).getD 2 [])).1⟩:Request)=r:=fun r hm hw=>by
   have hc:=Ah0 hm hw hk2
   rw[hsL,hc.1];simp only[List.getD_cons_zero,List.getD_cons_succ,hc.2.2.1,hc.2.2.2.1];exact hc.2.1.symm
  obtain⟨r0,w0⟩:=Av (l:=[70,85]) 0 (by decide) (by decide)
  obtain⟨r1,w1⟩:=Av (l:=[70,85]) 1 (by decide) (by decide)
  have r2:=True.intro
  have w2:=True.intro
  have r3:=True.intro
  have w3:=True.intro
  have r4:=True.intro
  have w4:=True.intro
  have r5:=True.intro
  have w5:=True.intro
  have v0:Ai (⟨#[70,85]⟩:ByteArray).data.toList 0=1:=w0
  have v1:Ai (⟨#[70,85]⟩:ByteArray).data.toList (0+Ai (⟨#[70,85]⟩:ByteArray).data.toList 0)=1:=by rw[v0];exact w1
  have hrow:(([70,85]:List UInt8).length:Int)=2:=rfl
  (conv=>whnf)
  (repeat' ((first
   |((with_reducible refine aI ?_ ?_);focus (omega))
   |fail)<;>(conv=>whnf)))
  refine⟨(((sL (Aa 32 x.1)).getD (Int.toNat 0) [],(10:Int)):List UInt8 × Int),hk,?_,?_⟩
  ·exact Ac _
  (conv=>whnf)
  (repeat' ((first
   |with_reducible exact⟨⟩
   |(with_reducible refine Ao ?_)
   |((with_reducible refine aI ?_ ?_);focus (first|with_reducible exact⟨⟩|exact tO|with_reducible rfl|omega|exact tK))
   |(conv=>arg 2;(first|change eqI (Bg _ _) _|change decide (_+Ai _ _<_)|change ! (sB _));simp only[List.toList_toArray,Bd,r0,r1,r2,r3,r4,r5,w0,w1,w2,w3,w4,w5,Nat.zero_add,Nat.reduceAdd,List.length_cons,List.length_nil])
   |(split<;>rename_i hh<;>(try simp only[wS] at hh))
   |with_reducible refine lnI fun hln=>?_
   |with_reducible refine iA ?_ ?_
   |fail)<;>(conv=>whnf)))
  all_goals try (
   have hz:x.2=(Ay,4):=by
    refine hfail fun r hm hw=>?_
    have hc:=Ah0 hm hw hk2
    try simp only[List.toList_toArray,w0,w1,w2,w3,w4,w5,Nat.zero_add,Nat.reduceAdd] at hh
    rw[hsL,hc.1] at hh
    first|exact hh rfl|(cases hh.symm.trans (congrArg Prod.snd hc.2.2.1))|(cases hh.symm.trans (congrArg Prod.snd hc.2.2.2.1))
   rw[hz]<;>rfl)
  refine⟨(⟨[],10,0,0,0,0,[],[],[],0,(Aj ((sL (Aa 32 x.1)).getD 1 [])).1,(Aj ((sL (Aa 32 x.1)).getD 2 [])).1⟩:Request),⟨Nat.zero_le _,Nat.zero_le _⟩,?_,?_⟩
  ·(conv=>whnf)
   (repeat' ((first|with_reducible exact⟨⟩|((with_reducible refine aI ?_ ?_);focus (exact tA))|with_reducible refine iA ?_ ?_|fail)<;>(conv=>whnf)))
   all_goals (try simp only[wQ])
   all_goals (try first|rfl)
   all_goals (simp only[w0,w1,w2,w3,w4,w5,Nat.zero_add,Nat.reduceAdd];rfl)
  (conv=>whnf)
  (repeat' ((first
   |with_reducible exact⟨⟩
   |((with_reducible refine aI ?_ ?_);focus (with_reducible rfl))
   |(conv=>arg 2;change ! (sB _);simp only[List.toList_toArray,Bd,r0,r1,r2,r3,r4,r5,w0,w1,w2,w3,w4,w5,Nat.zero_add,Nat.reduceAdd,List.length_cons,List.length_nil])
   |(split<;>rename_i hh<;>(try simp only[wS] at hh))
   |with_reducible refine iA ?_ ?_
   |fail)<;>(conv=>whnf)))
  all_goals try (
   have hz:x.2=(Ay,4):=by
    refine hfail fun r hm hw=>?_
    rw[hrd r hm hw,hm] at hh
    cases hh
   rw[hz]<;>rfl)
  refine⟨(⟨[],10,0,0,0,0,[],[],[],0,(Aj ((sL (Aa 32 x.1)).getD 1 [])).1,(Aj ((sL (Aa 32 x.1)).getD 2 [])).1⟩:Request),⟨Nat.zero_le _,Nat.zero_le _⟩,?_,?_⟩
  ·(conv=>whnf)
   (repeat' ((first|with_reducible exact⟨⟩|((with_reducible refine aI ?_ ?_);focus (exact tA))|with_reducible refine iA ?_ ?_|fail)<;>(conv=>whnf)))
   all_goals (try simp only[wQ])
   all_goals (try first|rfl)
   all_goals (simp only[w0,w1,w2,w3,w4,w5,Nat.zero_add,Nat.reduceAdd];rfl)
  (conv=>whnf)
  (repeat' ((first
   |with_reducible exact⟨⟩
   |((with_reducible refine aI ?_ ?_);focus (with_reducible rfl))
   |(split<;>rename_i hh<;>(try simp only[wS] at hh))
   |with_reducible refine iA ?_ ?_
   |fail)<;>(conv=>whnf)))
  all_goals (try (show _=_;simp only[wQ]))
  all_goals try (
   have hz:x.2=(Ay,4):=by
    refine hfail fun r hm hw=>?_
    rw[hrd r hm hw] at hh
    exact hh hw
   rw[hz]<;>rfl)
  all_goals (
   have hz:=hq.symm.trans (Fa (by assumption) (by assumption) hrd)
   try simp only[List.toList_toArray,w0,w1,w2,w3,w4,w5,Nat.zero_add,Nat.reduceAdd]
   rw[hz]<;>rfl)
end
end Go.Vc.Z
