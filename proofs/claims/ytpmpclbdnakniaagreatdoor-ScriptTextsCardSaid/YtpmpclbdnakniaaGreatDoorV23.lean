/- script.RequestLine: the line of a request, the program's. -/
import Derived.Test.YtpmpclbdnakniaaGreatDoorV22
import Derived.Test.YtpmpclbdnakniaaGreatDoorV17
set_option linter.all false
set_option maxHeartbeats 8000000
namespace Go.Vc.Z
open Go Go.Vc Go.Proofs Go.RowKit Go.Pl Go.Lib
noncomputable section
set_option maxRecDepth 100000
attribute [local irreducible] inK Utf8.decode Utf8.encode Lib.itoa Pl.worth Pl.allDig
attribute [local irreducible] Lib.join
theorem Acl{l:List Coupon}{r:List AV}(h:Az (slE 6 Coupon.enc l::r)):∀ s ∈ l.map Bi,s.length≤200:=by
 intro s hs;obtain⟨c,hc,rfl⟩:=List.mem_map.1 hs;exact U0 (l:=l) (by simp only[Az] at h ⊢;exact⟨h.1,trivial⟩) c hc
def Aq5(l:List Coupon):LoopSpec:={
 α:=Nat × List (List UInt8)
 keep:=[1,5,8,9,10]
 vals x:=[.fn 129 [],A0p 0 x.2,slE 6 Coupon.enc l,.int .i64 l.length,.int .i64 x.1]
 heap x:=[A0o x.2]
 ok x:=x.1≤l.length∧x.2=(l.take x.1).map Bi
 μ x:=l.length - x.1 }
def yY:PC:=PC.of (fun l:List Coupon=>[slE 6 Coupon.enc l,.fn 129 []]) (fun l=>0<l.length∧l.length≤1000000) (fun l=>.str (sS (Lib.join (l.map Bi) [44])))
def cU:PT:=Cg [(62,Sl),(129,cI)]
theorem yZ{W:World}(hW:Tabs W):Cb (Fw W) Tryz.prog cU:=(Ab Tryz.call62 (Nn hW) (Ab Tryz.call129 (Ti hW) Aq))
def cV:FuncId→Option Ctr:=Av cU []
theorem An1{W:World}(hW:Tabs W):Ad (Fw W) Tryz.prog cV:=(Ar (yZ hW))
def An2:List Coupon→Nat→Option LR:=fun l i=>cond (Nat.beq i 3) (some (.inv (Aq5 l))) (none)
theorem An3{W:World}(hW:Tabs W):GoodP (Fw W) Tryz.prog 56 yY:=by
 have hD:=yZ hW;have hC0:∀ l:List Coupon,Ad (Fw W) Tryz.prog cV:=fun l=>(An1 hW);refine As (D:=cU) (C:=fun l=>cV) (wr:=(fun _=>false)) rfl Ao hD hC0 Tryz.func56 (An2) (fun _=>rfl) ?_;intro l hf hp;obtain⟨hp0,hp1⟩:=hp;have hw:∀ s ∈ l.map Bi,s.length≤200:=(Acl hf);clear hf
 (conv=>whnf)
 (repeat' (first|with_reducible refine lnI fun hln=>?_)<;>conv=>whnf)
 refine⟨?_,fun(x:Nat × List (List UInt8)) hx=>?_⟩
 ·(conv=>whnf)
  refine⟨((0,[]):Nat × List (List UInt8)),[],?_,⟨⟨rfl,(nB rfl),rfl⟩,?_,?_⟩⟩
  ·exact⟨Nat.zero_le _,rfl⟩
  ·exact Ac _
  ·exact tL
 ·obtain⟨i,L⟩:=x;obtain⟨h1,h2⟩:=hx;change i≤l.length at h1;change L=(l.take i).map Bi at h2;have hlen:L.length=i:=by rw[h2];simp;omega
  have hstep:i<l.length→L++[Bi (l.getD (Int.toNat (i:Int)) default)]=(l.take (i+1)).map Bi:=fun h=>by
   rw[h2,List.take_add_one,List.map_append,List.getElem?_eq_getElem h];have:l.getD (Int.toNat (i:Int)) default=l[i]:=by
    rw[show Int.toNat (i:Int)=i from rfl,List.getD_eq_getElem?_getD,List.getElem?_eq_getElem h];rfl
   rw[this];rfl
  rcases L with _|⟨s,L⟩
  ·have hi:i=0:=(by simpa using hlen.symm);subst hi
   (conv=>whnf)
   (repeat' (first|refine tuU ?_|split<;>rename_i hh<;>try simp only[wS] at hh)<;>conv=>whnf)
   ·(conv=>whnf)
    refine⟨((1,[Bi (l.getD (Int.toNat ((0:Nat):Int)) default)]):Nat × List (List UInt8)),[3],?_,⟨⟨rfl,(nB rfl),rfl⟩,?_,?_⟩⟩
    ·exact⟨⟨show 1≤l.length by omega,hstep (by omega)⟩,show l.length - 1<l.length - 0 by omega⟩
    ·exact tL
    ·(conv=>whnf)
     (repeat' (first|with_reducible exact⟨⟩|refine tuA ?_|with_reducible refine iB ?_ ?_)<;>conv=>whnf)
     all_goals try simp only[wQ]
     intro e he;have he:e<1:=he;obtain rfl:e=0:=by omega
     exact⟨rfl,rfl⟩
   ·exfalso;omega
  ·have hlen2:L.length+1=i:=hlen
   (conv=>whnf)
   (repeat' (first|refine tuU ?_|split<;>rename_i hh<;>try simp only[wS] at hh)<;>conv=>whnf)
   ·(conv=>whnf)
    refine⟨((i+1,s::L++[Bi (l.getD (Int.toNat (i:Int)) default)]):Nat × List (List UInt8)),[3],?_,⟨⟨rfl,(nB rfl),rfl⟩,?_,?_⟩⟩
    ·exact⟨⟨show i+1≤l.length by omega,hstep (by omega)⟩,show l.length - (i+1)<l.length - i by omega⟩
    ·exact tL
    ·(conv=>whnf)
     (repeat' (first|with_reducible exact⟨⟩|refine tuA ?_|with_reducible refine iB ?_ ?_)<;>conv=>whnf)
     all_goals try simp only[wQ]
     exact⟨by simp,fun e he=>⟨Zr (l:=s::L) rfl (fun _ _=>rfl) rfl (by simpa using he),rfl⟩⟩
   ·have hi:i=l.length:=(by omega);rw[hi,List.take_length] at h2;refine⟨⟨by omega,fun e he=>rfl⟩,?_⟩
    refine⟨((s::L,[44]):List (List UInt8) × List UInt8),⟨by have:=Lp [44] 200 (s::L) (by rw[h2];exact hw);simp at this;show(Lib.join (s::L) [44]).length≤_;omega,by show(s::L).length≤_;simp;omega⟩,?_,?_⟩
    ·exact tL
    (conv=>whnf)
    all_goals try(show _=_;simp only[wQ])
    rw[h2]
theorem nJ{l:List Tax}(h:C0 l=true):l.length≤4:=by
 unfold C0 at h;simp only[Bool.and_eq_true,decide_eq_true_eq] at h;exact h.2
theorem Ax{l:List UInt8}(i:Nat)(h:i<l.length)(hb:(l.getD i 0).toNat<128):Bg l i=((l.getD i 0).toNat:Int)∧Ai l i=1:=by
 rcases Dy h with ⟨h6,h7,h8⟩|⟨h6,h7⟩
 ·exact⟨h6,h7⟩
 ·omega
def Wl:PC:=PC.of (fun r:Request=>[.agg r.enc]) Eh (fun r=>.str (sS (Be r)))
def Bf:PT:=Cg [(46,Lo),(54,Akn),(56,yY),(58,Aeu),(61,Un),(62,Sl),(71,nI),(73,lI),(129,cI),(132,Ach)]
theorem C1{W:World}(hW:Tabs W):Cb (Fw W) Tryz.prog Bf:=(Ab Tryz.call46 (Er hW) (Ab Tryz.call54 (rP hW) (Ab Tryz.call56 (An3 hW) (Ab Tryz.call58 (kZ hW) (Ab Tryz.call61 (gM hW) (Ab Tryz.call62 (Nn hW) (Ab Tryz.call71 (aB hW) (Ab Tryz.call73 (Jy hW) (Ab Tryz.call129 (Ti hW) (Ab Tryz.call132 (Akx hW) Aq))))))))))
def zA:FuncId→Option Ctr:=Av Bf []
theorem zB{W:World}(hW:Tabs W):Ad (Fw W) Tryz.prog zA:=(Ar (C1 hW))
def nK:List (FuncId × Ctr):=(74,inl TY zA Bf (fun _=>false) (fun _ _ _=>none) Tryz.f74)::[]
def nL:FuncId→Option Ctr:=Av Bf nK
theorem nM{W:World}(hW:Tabs W):Ad (Fw W) Tryz.prog nL:=Ae Tryz.call74 (Ah rfl Ao (C1 hW) (zB hW) Tryz.func74 (fun _ _ _=>none)) (zB hW)
def nN:List (FuncId × Ctr):=(144,inl TY nL Bf (fun _=>false) (fun _ _ _=>none) Tryz.f144)::nK
def nO:FuncId→Option Ctr:=Av Bf nN
theorem nP{W:World}(hW:Tabs W):Ad (Fw W) Tryz.prog nO:=Ae Tryz.call144 (Ah rfl Ao (C1 hW) (nM hW) Tryz.func144 (fun _ _ _=>none)) (nM hW)
def nQ:List (FuncId × Ctr):=(145,inl TY nO Bf (fun _=>false) (fun _ _ _=>none) Tryz.f145)::nN
def nR:FuncId→Option Ctr:=Av Bf nQ
theorem nS{W:World}(hW:Tabs W):Ad (Fw W) Tryz.prog nR:=Ae Tryz.call145 (Ah rfl Ao (C1 hW) (nP hW) Tryz.func145 (fun _ _ _=>none)) (nP hW)
def nT:List (FuncId × Ctr):=(147,inl TY nR Bf (fun _=>false) (fun _ _ _=>none) Tryz.f147)::nQ
def nU:FuncId→Option Ctr:=Av Bf nT
theorem nV{W:World}(hW:Tabs W):Ad (Fw W) Tryz.prog nU:=Ae Tryz.call147 (Ah rfl Ao (C1 hW) (nS hW) Tryz.func147 (fun _ _ _=>none)) (nS hW)
def nW:List (FuncId × Ctr):=(148,inl TY nU Bf (fun _=>false) (fun _ _ _=>none) Tryz.f148)::nT
def nX:FuncId→Option Ctr:=Av Bf nW
theorem nY{W:World}(hW:Tabs W):Ad (Fw W) Tryz.prog nX:=Ae Tryz.call148 (Ah rfl Ao (C1 hW) (nV hW) Tryz.func148 (fun _ _ _=>none)) (nV hW)
def nZ:List (FuncId × Ctr):=(149,inl TY nX Bf (fun _=>false) (fun _ _ _=>none) Tryz.f149)::nW
def oB:FuncId→Option Ctr:=Av Bf nZ
theorem oC{W:World}(hW:Tabs W):Ad (Fw W) Tryz.prog oB:=Ae Tryz.call149 (Ah rfl Ao (C1 hW) (nY hW) Tryz.func149 (fun _ _ _=>none)) (nY hW)
def oD:List (FuncId × Ctr):=(150,inl TY oB Bf (fun _=>false) (fun _ _ _=>none) Tryz.f150)::nZ
def oE:FuncId→Option Ctr:=Av Bf oD
theorem oF{W:World}(hW:Tabs W):Ad (Fw W) Tryz.prog oE:=Ae Tryz.call150 (Ah rfl Ao (C1 hW) (oC hW) Tryz.func150 (fun _ _ _=>none)) (oC hW)
def oG:List (FuncId × Ctr):=(151,inl TY oE Bf (fun _=>false) (fun _ _ _=>none) Tryz.f151)::oD
def oH:FuncId→Option Ctr:=Av Bf oG
theorem oI{W:World}(hW:Tabs W):Ad (Fw W) Tryz.prog oH:=Ae Tryz.call151 (Ah rfl Ao (C1 hW) (oF hW) Tryz.func151 (fun _ _ _=>none)) (oF hW)
def oJ:List (FuncId × Ctr):=(154,inl TY oH Bf (fun _=>false) (fun _ _ _=>none) Tryz.f154)::oG
def oK:FuncId→Option Ctr:=Av Bf oJ
theorem oL{W:World}(hW:Tabs W):Ad (Fw W) Tryz.prog oK:=Ae Tryz.call154 (Ah rfl Ao (C1 hW) (oI hW) Tryz.func154 (fun _ _ _=>none)) (oI hW)
def eM:List (FuncId × Ctr):=(157,inl TY oK Bf (fun _=>false) (fun _ _ _=>none) Tryz.f157)::oJ
def eN:FuncId→Option Ctr:=Av Bf eM
theorem eO{W:World}(hW:Tabs W):Ad (Fw W) Tryz.prog eN:=Ae Tryz.call157 (Ah rfl Ao (C1 hW) (oL hW) Tryz.func157 (fun _ _ _=>none)) (oL hW)
def eP:List (FuncId × Ctr):=(160,inl TY eN Bf (fun _=>false) (fun _ _ _=>none) Tryz.f160)::eM
def eQ:FuncId→Option Ctr:=Av Bf eP
theorem eR{W:World}(hW:Tabs W):Ad (Fw W) Tryz.prog eQ:=Ae Tryz.call160 (Ah rfl Ao (C1 hW) (eO hW) Tryz.func160 (fun _ _ _=>none)) (eO hW)
def eS:List (FuncId × Ctr):=(162,inl TY eQ Bf (fun _=>false) (fun _ _ _=>none) Tryz.f162)::eP
def eU:FuncId→Option Ctr:=Av Bf eS
theorem eV{W:World}(hW:Tabs W):Ad (Fw W) Tryz.prog eU:=Ae Tryz.call162 (Ah rfl Ao (C1 hW) (eR hW) Tryz.func162 (fun _ _ _=>none)) (eR hW)
def eW:List (FuncId × Ctr):=(216,inl TY eU Bf (fun _=>false) (fun _ _ _=>none) Tryz.f216)::eS
def eY:FuncId→Option Ctr:=Av Bf eW
theorem eZ{W:World}(hW:Tabs W):Ad (Fw W) Tryz.prog eY:=Ae Tryz.call216 (Ah rfl Ao (C1 hW) (eV hW) Tryz.func216 (fun _ _ _=>none)) (eV hW)
def fB:List (FuncId × Ctr):=(218,inl TY eY Bf (fun _=>false) (fun _ _ _=>none) Tryz.f218)::eW
def fE:FuncId→Option Ctr:=Av Bf fB
theorem fG{W:World}(hW:Tabs W):Ad (Fw W) Tryz.prog fE:=Ae Tryz.call218 (Ah rfl Ao (C1 hW) (eZ hW) Tryz.func218 (fun _ _ _=>none)) (eZ hW)
def fH:List (FuncId × Ctr):=(143,inl TY fE Bf (fun _=>false) (fun _ _ _=>none) Tryz.f143)::fB
def fI:FuncId→Option Ctr:=Av Bf fH
theorem fJ{W:World}(hW:Tabs W):Ad (Fw W) Tryz.prog fI:=Ae Tryz.call143 (Ah rfl Ao (C1 hW) (fG hW) Tryz.func143 (fun _ _ _=>none)) (fG hW)
def fK:List (FuncId × Ctr):=(146,inl TY fI Bf (fun _=>false) (fun _ _ _=>none) Tryz.f146)::fH
def fL:FuncId→Option Ctr:=Av Bf fK
theorem fM{W:World}(hW:Tabs W):Ad (Fw W) Tryz.prog fL:=Ae Tryz.call146 (Ah rfl Ao (C1 hW) (fJ hW) Tryz.func146 (fun _ _ _=>none)) (fJ hW)
def Agt:List (FuncId × Ctr):=(72,inl TY fL Bf (fun _=>false) (fun _ _ _=>none) Tryz.f72)::fK
def U5:FuncId→Option Ctr:=Av Bf Agt
theorem Agu{W:World}(hW:Tabs W):Ad (Fw W) Tryz.prog U5:=Ae Tryz.call72 (Ah rfl Ao (C1 hW) (fM hW) Tryz.func72 (fun _ _ _=>none)) (fM hW)
def An4:Request→Nat→Option LR:=fun r i=>cond (Nat.beq i 6) (some (.unroll 7)) (none)
theorem cW{W:World}(hW:Tabs W):GoodP (Fw W) Tryz.prog 24 Wl:=by
 have hD:=C1 hW;have hC0:∀ r:Request,Ad (Fw W) Tryz.prog U5:=fun r=>(Agu hW);refine As (D:=Bf) (C:=fun r=>U5) (wr:=(fun _=>false)) rfl Ao hD hC0 Tryz.func24 (An4) (fun _=>rfl) ?_;rintro⟨key,kind,day,ticket,coupon,status,locator,coupons,taxes,amount,frm,til⟩ hf hp;by_cases hmay:Af ⟨key,kind,day,ticket,coupon,status,locator,coupons,taxes,amount,frm,til⟩=true
 ·have hex: ¬Af ⟨key,kind,day,ticket,coupon,status,locator,coupons,taxes,amount,frm,til⟩=false:=by rw[hmay];simp
  have hjl:=Ae9 hmay hf;have hW:Be ⟨key,kind,day,ticket,coupon,status,locator,coupons,taxes,amount,frm,til⟩=Lib.join (Bn ⟨key,kind,day,ticket,coupon,status,locator,coupons,taxes,amount,frm,til⟩) [32]:=by unfold Be;rw[if_pos hmay]
  simp only[Az,Bd,Aw,Go.Vc.lo,Go.Vc.hi,and_true] at hf;rcases Fg hmay with k|k|k|k|k|k|k|k|k|k;all_goals (
   have k':kind=_:=k;subst k';clear k)
  ·have hpar:=K7 (r:=⟨key,1,day,ticket,coupon,status,locator,coupons,taxes,amount,frm,til⟩) rfl;have hfac:=Ha (r:=⟨key,1,day,ticket,coupon,status,locator,coupons,taxes,amount,frm,til⟩) rfl hmay;dsimp only at hpar hfac;obtain⟨r0,w0⟩:=Ax (l:=[75,68,76,67,88]) 0 (by decide) (by decide)
   obtain⟨r1,w1⟩:=Ax (l:=[75,68,76,67,88]) 1 (by decide) (by decide)
   obtain⟨r2,w2⟩:=Ax (l:=[75,68,76,67,88]) 2 (by decide) (by decide)
   obtain⟨r3,w3⟩:=Ax (l:=[75,68,76,67,88]) 3 (by decide) (by decide)
   obtain⟨r4,w4⟩:=Ax (l:=[75,68,76,67,88]) 4 (by decide) (by decide)
   have r5:=True.intro;have w5:=True.intro;have hn:Cd 1=Dd.getD (1 - 1) []:=B8 ⟨by decide,by decide⟩
   have hfl:Bu coupons=Lib.join (coupons.map Bi) [44]:=(by unfold Bu;rfl);have hE:Bn ⟨key,1,day,ticket,coupon,status,locator,coupons,taxes,amount,frm,til⟩=[Cd 1,key,Lib.itoa day,locator,Lib.join (coupons.map Bi) [44],Bm taxes]:=(by rw[hpar,hn,hfl];rfl);rw[hE] at hjl hW;have hc1:0<coupons.length∧coupons.length≤1000000:=(by have:=D7 hfac.2.2.2.1;omega);have hx1:taxes.length≤1000000:=by have:=nJ hfac.2.2.2.2;omega
   (conv=>whnf)
   refine⟨(⟨key,1,day,ticket,coupon,status,locator,coupons,taxes,amount,frm,til⟩:Request),hp,?_,?_⟩
   ·exact Ac _
   (conv=>whnf)
   (repeat' (first|(with_reducible refine Ap ?_)|(exact absurd (by with_reducible assumption) hex)|refine tuU ?_|(conv=>arg 2;(first|change eqI (Bg _ _) _|change decide (_+Ai _ _<_)|change ! (sB _));simp only[List.toList_toArray,Bt,r0,r1,r2,r3,r4,r5,w0,w1,w2,w3,w4,w5,Nat.zero_add,Nat.reduceAdd,List.length_cons,List.length_nil])|split<;>rename_i hh<;>try simp only[wS] at hh)<;>conv=>whnf)
   refine⟨coupons,hc1,?_,?_⟩
   ·exact Ac _
   (conv=>whnf)
   (repeat' (first|(with_reducible refine Ap ?_)|refine tuU ?_|(conv=>arg 2;(first|change eqI (Bg _ _) _|change decide (_+Ai _ _<_));simp only[List.toList_toArray,Bt,r0,r1,r2,r3,r4,r5,w0,w1,w2,w3,w4,w5,Nat.zero_add,Nat.reduceAdd,List.length_cons,List.length_nil]))<;>conv=>whnf)
   refine⟨taxes,hx1,?_,?_⟩
   ·exact Ac _
   (conv=>whnf)
   (repeat' (first|refine tuU ?_|(conv=>arg 2;change decide (_+Ai _ _<_);simp only[List.toList_toArray,Bt,r0,r1,r2,r3,r4,r5,w0,w1,w2,w3,w4,w5,Nat.zero_add,Nat.reduceAdd,List.length_cons,List.length_nil]))<;>conv=>whnf)
   refine⟨⟨(nB rfl),fun e he=>?_⟩,?_⟩
   ·change e<6 at he;rcases(by omega:e=0∨e=1∨e=2∨e=3∨e=4∨e=5) with rfl|rfl|rfl|rfl|rfl|rfl<;>rfl
   refine⟨(([Cd 1,key,Lib.itoa day,locator,Lib.join (coupons.map Bi) [44],Bm taxes],[32]):List (List UInt8) × List UInt8),⟨Nat.le_trans hjl ((nB rfl)),(nB rfl)⟩,?_,?_⟩
   ·(conv=>whnf)
    (repeat' (first|with_reducible exact⟨⟩|refine tuA ?_|with_reducible refine iA ?_ ?_)<;>conv=>whnf)
    all_goals try simp only[wQ]
    refine⟨fun h=>h,fun e he=>?_⟩;change e<6 at he;rcases(by omega:e=0∨e=1∨e=2∨e=3∨e=4∨e=5) with rfl|rfl|rfl|rfl|rfl|rfl<;>rfl
   (conv=>whnf)
   all_goals try(show _=_;simp only[wQ])
   all_goals exact hW.symm
  ·have hpar:=K8 (r:=⟨key,2,day,ticket,coupon,status,locator,coupons,taxes,amount,frm,til⟩) rfl;have hfac:=Iw (r:=⟨key,2,day,ticket,coupon,status,locator,coupons,taxes,amount,frm,til⟩) rfl hmay;dsimp only at hpar hfac;obtain⟨r0,w0⟩:=Ax (l:=[75,68,84,78,83]) 0 (by decide) (by decide)
   obtain⟨r1,w1⟩:=Ax (l:=[75,68,84,78,83]) 1 (by decide) (by decide)
   obtain⟨r2,w2⟩:=Ax (l:=[75,68,84,78,83]) 2 (by decide) (by decide)
   obtain⟨r3,w3⟩:=Ax (l:=[75,68,84,78,83]) 3 (by decide) (by decide)
   obtain⟨r4,w4⟩:=Ax (l:=[75,68,84,78,83]) 4 (by decide) (by decide)
   have r5:=True.intro;have w5:=True.intro;have hn:Cd 2=Dd.getD (2 - 1) []:=B8 ⟨by decide,by decide⟩
   have hE:Bn ⟨key,2,day,ticket,coupon,status,locator,coupons,taxes,amount,frm,til⟩=[Cd 2,key,Lib.itoa day,A6 ticket,Lib.itoa coupon,Cr status]:=(by rw[hpar,hn];rfl);rw[hE] at hjl hW
   (conv=>whnf)
   refine⟨(⟨key,2,day,ticket,coupon,status,locator,coupons,taxes,amount,frm,til⟩:Request),hp,?_,?_⟩
   ·exact Ac _
   (conv=>whnf)
   (repeat' (first|(with_reducible refine Ap ?_)|(exact absurd (by with_reducible assumption) hex)|refine tuU ?_|(conv=>arg 2;(first|change eqI (Bg _ _) _|change decide (_+Ai _ _<_)|change ! (sB _));simp only[List.toList_toArray,Bt,r0,r1,r2,r3,r4,r5,w0,w1,w2,w3,w4,w5,Nat.zero_add,Nat.reduceAdd,List.length_cons,List.length_nil])|split<;>rename_i hh<;>try simp only[wS] at hh)<;>conv=>whnf)
   refine⟨⟨(nB rfl),fun e he=>?_⟩,?_⟩
   ·change e<6 at he;rcases(by omega:e=0∨e=1∨e=2∨e=3∨e=4∨e=5) with rfl|rfl|rfl|rfl|rfl|rfl<;>rfl
   refine⟨(([Cd 2,key,Lib.itoa day,A6 ticket,Lib.itoa coupon,Cr status],[32]):List (List UInt8) × List UInt8),⟨Nat.le_trans hjl ((nB rfl)),(nB rfl)⟩,?_,?_⟩
   ·(conv=>whnf)
    (repeat' (first|with_reducible exact⟨⟩|refine tuA ?_|with_reducible refine iA ?_ ?_)<;>conv=>whnf)
    all_goals try simp only[wQ]
    refine⟨fun h=>h,fun e he=>?_⟩;change e<6 at he;rcases(by omega:e=0∨e=1∨e=2∨e=3∨e=4∨e=5) with rfl|rfl|rfl|rfl|rfl|rfl<;>rfl
   (conv=>whnf)
   all_goals try(show _=_;simp only[wQ])
   all_goals exact hW.symm
  ·have hpar:=K9 (r:=⟨key,3,day,ticket,coupon,status,locator,coupons,taxes,amount,frm,til⟩) rfl;have hfac:=Ix (r:=⟨key,3,day,ticket,coupon,status,locator,coupons,taxes,amount,frm,til⟩) rfl hmay;dsimp only at hpar hfac;obtain⟨r0,w0⟩:=Ax (l:=[75,68,84]) 0 (by decide) (by decide)
   obtain⟨r1,w1⟩:=Ax (l:=[75,68,84]) 1 (by decide) (by decide)
   obtain⟨r2,w2⟩:=Ax (l:=[75,68,84]) 2 (by decide) (by decide)
   have r3:=True.intro;have w3:=True.intro;have r4:=True.intro;have w4:=True.intro;have r5:=True.intro;have w5:=True.intro;have hn:Cd 3=Dd.getD (3 - 1) []:=B8 ⟨by decide,by decide⟩
   have hE:Bn ⟨key,3,day,ticket,coupon,status,locator,coupons,taxes,amount,frm,til⟩=[Cd 3,key,Lib.itoa day,A6 ticket]:=(by rw[hpar,hn];rfl);rw[hE] at hjl hW
   (conv=>whnf)
   refine⟨(⟨key,3,day,ticket,coupon,status,locator,coupons,taxes,amount,frm,til⟩:Request),hp,?_,?_⟩
   ·exact Ac _
   (conv=>whnf)
   (repeat' (first|(with_reducible refine Ap ?_)|(exact absurd (by with_reducible assumption) hex)|refine tuU ?_|(conv=>arg 2;(first|change eqI (Bg _ _) _|change decide (_+Ai _ _<_)|change ! (sB _));simp only[List.toList_toArray,Bt,r0,r1,r2,r3,r4,r5,w0,w1,w2,w3,w4,w5,Nat.zero_add,Nat.reduceAdd,List.length_cons,List.length_nil])|split<;>rename_i hh<;>try simp only[wS] at hh)<;>conv=>whnf)
   refine⟨⟨(nB rfl),fun e he=>?_⟩,?_⟩
   ·change e<4 at he;rcases(by omega:e=0∨e=1∨e=2∨e=3) with rfl|rfl|rfl|rfl<;>rfl
   refine⟨(([Cd 3,key,Lib.itoa day,A6 ticket],[32]):List (List UInt8) × List UInt8),⟨Nat.le_trans hjl ((nB rfl)),(nB rfl)⟩,?_,?_⟩
   ·(conv=>whnf)
    (repeat' (first|with_reducible exact⟨⟩|refine tuA ?_|with_reducible refine iA ?_ ?_)<;>conv=>whnf)
    all_goals try simp only[wQ]
    refine⟨fun h=>h,fun e he=>?_⟩;change e<4 at he;rcases(by omega:e=0∨e=1∨e=2∨e=3) with rfl|rfl|rfl|rfl<;>rfl
   (conv=>whnf)
   all_goals try(show _=_;simp only[wQ])
   all_goals exact hW.symm
  ·have hpar:=La (r:=⟨key,4,day,ticket,coupon,status,locator,coupons,taxes,amount,frm,til⟩) rfl;have hfac:=Iy (r:=⟨key,4,day,ticket,coupon,status,locator,coupons,taxes,amount,frm,til⟩) rfl hmay;dsimp only at hpar hfac;obtain⟨r0,w0⟩:=Ax (l:=[75,68,84,65]) 0 (by decide) (by decide)
   obtain⟨r1,w1⟩:=Ax (l:=[75,68,84,65]) 1 (by decide) (by decide)
   obtain⟨r2,w2⟩:=Ax (l:=[75,68,84,65]) 2 (by decide) (by decide)
   obtain⟨r3,w3⟩:=Ax (l:=[75,68,84,65]) 3 (by decide) (by decide)
   have r4:=True.intro;have w4:=True.intro;have r5:=True.intro;have w5:=True.intro;have hn:Cd 4=Dd.getD (4 - 1) []:=B8 ⟨by decide,by decide⟩
   have hE:Bn ⟨key,4,day,ticket,coupon,status,locator,coupons,taxes,amount,frm,til⟩=[Cd 4,key,Lib.itoa day,A6 ticket,Cp amount]:=(by rw[hpar,hn];rfl);rw[hE] at hjl hW
   (conv=>whnf)
   refine⟨(⟨key,4,day,ticket,coupon,status,locator,coupons,taxes,amount,frm,til⟩:Request),hp,?_,?_⟩
   ·exact Ac _
   (conv=>whnf)
   (repeat' (first|(with_reducible refine Ap ?_)|(exact absurd (by with_reducible assumption) hex)|refine tuU ?_|(conv=>arg 2;(first|change eqI (Bg _ _) _|change decide (_+Ai _ _<_)|change ! (sB _));simp only[List.toList_toArray,Bt,r0,r1,r2,r3,r4,r5,w0,w1,w2,w3,w4,w5,Nat.zero_add,Nat.reduceAdd,List.length_cons,List.length_nil])|split<;>rename_i hh<;>try simp only[wS] at hh)<;>conv=>whnf)
   refine⟨⟨(nB rfl),fun e he=>?_⟩,?_⟩
   ·change e<5 at he;rcases(by omega:e=0∨e=1∨e=2∨e=3∨e=4) with rfl|rfl|rfl|rfl|rfl<;>rfl
   refine⟨(([Cd 4,key,Lib.itoa day,A6 ticket,Cp amount],[32]):List (List UInt8) × List UInt8),⟨Nat.le_trans hjl ((nB rfl)),(nB rfl)⟩,?_,?_⟩
   ·(conv=>whnf)
    (repeat' (first|with_reducible exact⟨⟩|refine tuA ?_|with_reducible refine iA ?_ ?_)<;>conv=>whnf)
    all_goals try simp only[wQ]
    refine⟨fun h=>h,fun e he=>?_⟩;change e<5 at he;rcases(by omega:e=0∨e=1∨e=2∨e=3∨e=4) with rfl|rfl|rfl|rfl|rfl<;>rfl
   (conv=>whnf)
   all_goals try(show _=_;simp only[wQ])
   all_goals exact hW.symm
  ·have hpar:=Lb (r:=⟨key,5,day,ticket,coupon,status,locator,coupons,taxes,amount,frm,til⟩) rfl;have hfac:=Hb (r:=⟨key,5,day,ticket,coupon,status,locator,coupons,taxes,amount,frm,til⟩) rfl hmay;dsimp only at hpar hfac;obtain⟨r0,w0⟩:=Ax (l:=[75,68,84,65,67,88]) 0 (by decide) (by decide)
   obtain⟨r1,w1⟩:=Ax (l:=[75,68,84,65,67,88]) 1 (by decide) (by decide)
   obtain⟨r2,w2⟩:=Ax (l:=[75,68,84,65,67,88]) 2 (by decide) (by decide)
   obtain⟨r3,w3⟩:=Ax (l:=[75,68,84,65,67,88]) 3 (by decide) (by decide)
   obtain⟨r4,w4⟩:=Ax (l:=[75,68,84,65,67,88]) 4 (by decide) (by decide)
   obtain⟨r5,w5⟩:=Ax (l:=[75,68,84,65,67,88]) 5 (by decide) (by decide)
   have hn:Cd 5=Dd.getD (5 - 1) []:=B8 ⟨by decide,by decide⟩
   have hfl:Bu coupons=Lib.join (coupons.map Bi) [44]:=(by unfold Bu;rfl);have hE:Bn ⟨key,5,day,ticket,coupon,status,locator,coupons,taxes,amount,frm,til⟩=[Cd 5,key,Lib.itoa day,A6 ticket,Cp amount,Lib.join (coupons.map Bi) [44],Bm taxes]:=(by rw[hpar,hn,hfl];rfl);rw[hE] at hjl hW;have hc1:0<coupons.length∧coupons.length≤1000000:=(by have:=D7 hfac.2.2.2.2.1;omega);have hx1:taxes.length≤1000000:=by have:=nJ hfac.2.2.2.2.2;omega
   (conv=>whnf)
   refine⟨(⟨key,5,day,ticket,coupon,status,locator,coupons,taxes,amount,frm,til⟩:Request),hp,?_,?_⟩
   ·exact Ac _
   (conv=>whnf)
   (repeat' (first|(with_reducible refine Ap ?_)|(exact absurd (by with_reducible assumption) hex)|refine tuU ?_|(conv=>arg 2;(first|change eqI (Bg _ _) _|change decide (_+Ai _ _<_)|change ! (sB _));simp only[List.toList_toArray,Bt,r0,r1,r2,r3,r4,r5,w0,w1,w2,w3,w4,w5,Nat.zero_add,Nat.reduceAdd,List.length_cons,List.length_nil])|split<;>rename_i hh<;>try simp only[wS] at hh)<;>conv=>whnf)
   refine⟨coupons,hc1,?_,?_⟩
   ·exact Ac _
   (conv=>whnf)
   (repeat' (first|(with_reducible refine Ap ?_)|refine tuU ?_|(conv=>arg 2;(first|change eqI (Bg _ _) _|change decide (_+Ai _ _<_));simp only[List.toList_toArray,Bt,r0,r1,r2,r3,r4,r5,w0,w1,w2,w3,w4,w5,Nat.zero_add,Nat.reduceAdd,List.length_cons,List.length_nil]))<;>conv=>whnf)
   refine⟨taxes,hx1,?_,?_⟩
   ·exact Ac _
   (conv=>whnf)
   (repeat' (first|refine tuU ?_|(conv=>arg 2;change decide (_+Ai _ _<_);simp only[List.toList_toArray,Bt,r0,r1,r2,r3,r4,r5,w0,w1,w2,w3,w4,w5,Nat.zero_add,Nat.reduceAdd,List.length_cons,List.length_nil]))<;>conv=>whnf)
   refine⟨⟨(nB rfl),fun e he=>?_⟩,?_⟩
   ·change e<7 at he;rcases(by omega:e=0∨e=1∨e=2∨e=3∨e=4∨e=5∨e=6) with rfl|rfl|rfl|rfl|rfl|rfl|rfl<;>rfl
   refine⟨(([Cd 5,key,Lib.itoa day,A6 ticket,Cp amount,Lib.join (coupons.map Bi) [44],Bm taxes],[32]):List (List UInt8) × List UInt8),⟨Nat.le_trans hjl ((nB rfl)),(nB rfl)⟩,?_,?_⟩
   ·(conv=>whnf)
    (repeat' (first|with_reducible exact⟨⟩|refine tuA ?_|with_reducible refine iA ?_ ?_)<;>conv=>whnf)
    all_goals try simp only[wQ]
    refine⟨fun h=>h,fun e he=>?_⟩;change e<7 at he;rcases(by omega:e=0∨e=1∨e=2∨e=3∨e=4∨e=5∨e=6) with rfl|rfl|rfl|rfl|rfl|rfl|rfl<;>rfl
   (conv=>whnf)
   all_goals try(show _=_;simp only[wQ])
   all_goals exact hW.symm
  ·have hpar:=Lc (r:=⟨key,6,day,ticket,coupon,status,locator,coupons,taxes,amount,frm,til⟩) rfl;have hfac:=Iz (r:=⟨key,6,day,ticket,coupon,status,locator,coupons,taxes,amount,frm,til⟩) rfl hmay;dsimp only at hpar hfac;obtain⟨r0,w0⟩:=Ax (l:=[75,68,84,78]) 0 (by decide) (by decide)
   obtain⟨r1,w1⟩:=Ax (l:=[75,68,84,78]) 1 (by decide) (by decide)
   obtain⟨r2,w2⟩:=Ax (l:=[75,68,84,78]) 2 (by decide) (by decide)
   obtain⟨r3,w3⟩:=Ax (l:=[75,68,84,78]) 3 (by decide) (by decide)
   have r4:=True.intro;have w4:=True.intro;have r5:=True.intro;have w5:=True.intro;have hn:Cd 6=Dd.getD (6 - 1) []:=B8 ⟨by decide,by decide⟩
   have hE:Bn ⟨key,6,day,ticket,coupon,status,locator,coupons,taxes,amount,frm,til⟩=[Cd 6,key,Lib.itoa day,A6 ticket,Lib.itoa coupon]:=(by rw[hpar,hn];rfl);rw[hE] at hjl hW
   (conv=>whnf)
   refine⟨(⟨key,6,day,ticket,coupon,status,locator,coupons,taxes,amount,frm,til⟩:Request),hp,?_,?_⟩
   ·exact Ac _
   (conv=>whnf)
   (repeat' (first|(with_reducible refine Ap ?_)|(exact absurd (by with_reducible assumption) hex)|refine tuU ?_|(conv=>arg 2;(first|change eqI (Bg _ _) _|change decide (_+Ai _ _<_)|change ! (sB _));simp only[List.toList_toArray,Bt,r0,r1,r2,r3,r4,r5,w0,w1,w2,w3,w4,w5,Nat.zero_add,Nat.reduceAdd,List.length_cons,List.length_nil])|split<;>rename_i hh<;>try simp only[wS] at hh)<;>conv=>whnf)
   refine⟨⟨(nB rfl),fun e he=>?_⟩,?_⟩
   ·change e<5 at he;rcases(by omega:e=0∨e=1∨e=2∨e=3∨e=4) with rfl|rfl|rfl|rfl|rfl<;>rfl
   refine⟨(([Cd 6,key,Lib.itoa day,A6 ticket,Lib.itoa coupon],[32]):List (List UInt8) × List UInt8),⟨Nat.le_trans hjl ((nB rfl)),(nB rfl)⟩,?_,?_⟩
   ·(conv=>whnf)
    (repeat' (first|with_reducible exact⟨⟩|refine tuA ?_|with_reducible refine iA ?_ ?_)<;>conv=>whnf)
    all_goals try simp only[wQ]
    refine⟨fun h=>h,fun e he=>?_⟩;change e<5 at he;rcases(by omega:e=0∨e=1∨e=2∨e=3∨e=4) with rfl|rfl|rfl|rfl|rfl<;>rfl
   (conv=>whnf)
   all_goals try(show _=_;simp only[wQ])
   all_goals exact hW.symm
  ·have hpar:=Ld (r:=⟨key,7,day,ticket,coupon,status,locator,coupons,taxes,amount,frm,til⟩) rfl;have hfac:=I0 (r:=⟨key,7,day,ticket,coupon,status,locator,coupons,taxes,amount,frm,til⟩) rfl hmay;dsimp only at hpar hfac;obtain⟨r0,w0⟩:=Ax (l:=[75,68,84,78]) 0 (by decide) (by decide)
   obtain⟨r1,w1⟩:=Ax (l:=[75,68,84,78]) 1 (by decide) (by decide)
   obtain⟨r2,w2⟩:=Ax (l:=[75,68,84,78]) 2 (by decide) (by decide)
   obtain⟨r3,w3⟩:=Ax (l:=[75,68,84,78]) 3 (by decide) (by decide)
   have r4:=True.intro;have w4:=True.intro;have r5:=True.intro;have w5:=True.intro;have hn:Cd 7=Dd.getD (7 - 1) []:=B8 ⟨by decide,by decide⟩
   have hE:Bn ⟨key,7,day,ticket,coupon,status,locator,coupons,taxes,amount,frm,til⟩=[Cd 7,key,Lib.itoa day,A6 ticket,Lib.itoa coupon]:=(by rw[hpar,hn];rfl);rw[hE] at hjl hW
   (conv=>whnf)
   refine⟨(⟨key,7,day,ticket,coupon,status,locator,coupons,taxes,amount,frm,til⟩:Request),hp,?_,?_⟩
   ·exact Ac _
   (conv=>whnf)
   (repeat' (first|(with_reducible refine Ap ?_)|(exact absurd (by with_reducible assumption) hex)|refine tuU ?_|(conv=>arg 2;(first|change eqI (Bg _ _) _|change decide (_+Ai _ _<_)|change ! (sB _));simp only[List.toList_toArray,Bt,r0,r1,r2,r3,r4,r5,w0,w1,w2,w3,w4,w5,Nat.zero_add,Nat.reduceAdd,List.length_cons,List.length_nil])|split<;>rename_i hh<;>try simp only[wS] at hh)<;>conv=>whnf)
   refine⟨⟨(nB rfl),fun e he=>?_⟩,?_⟩
   ·change e<5 at he;rcases(by omega:e=0∨e=1∨e=2∨e=3∨e=4) with rfl|rfl|rfl|rfl|rfl<;>rfl
   refine⟨(([Cd 7,key,Lib.itoa day,A6 ticket,Lib.itoa coupon],[32]):List (List UInt8) × List UInt8),⟨Nat.le_trans hjl ((nB rfl)),(nB rfl)⟩,?_,?_⟩
   ·(conv=>whnf)
    (repeat' (first|with_reducible exact⟨⟩|refine tuA ?_|with_reducible refine iA ?_ ?_)<;>conv=>whnf)
    all_goals try simp only[wQ]
    refine⟨fun h=>h,fun e he=>?_⟩;change e<5 at he;rcases(by omega:e=0∨e=1∨e=2∨e=3∨e=4) with rfl|rfl|rfl|rfl|rfl<;>rfl
   (conv=>whnf)
   all_goals try(show _=_;simp only[wQ])
   all_goals exact hW.symm
  ·have hpar:=Le (r:=⟨key,8,day,ticket,coupon,status,locator,coupons,taxes,amount,frm,til⟩) rfl;have hfac:=Sq (r:=⟨key,8,day,ticket,coupon,status,locator,coupons,taxes,amount,frm,til⟩) rfl hmay;dsimp only at hpar hfac;obtain⟨r0,w0⟩:=Ax (l:=[84]) 0 (by decide) (by decide)
   have r1:=True.intro;have w1:=True.intro;have r2:=True.intro;have w2:=True.intro;have r3:=True.intro;have w3:=True.intro;have r4:=True.intro;have w4:=True.intro;have r5:=True.intro;have w5:=True.intro;have hn:Cd 8=Dd.getD (8 - 1) []:=B8 ⟨by decide,by decide⟩
   have hE:Bn ⟨key,8,day,ticket,coupon,status,locator,coupons,taxes,amount,frm,til⟩=[Cd 8,A6 ticket]:=(by rw[hpar,hn];rfl);rw[hE] at hjl hW
   (conv=>whnf)
   refine⟨(⟨key,8,day,ticket,coupon,status,locator,coupons,taxes,amount,frm,til⟩:Request),hp,?_,?_⟩
   ·exact Ac _
   (conv=>whnf)
   (repeat' (first|(with_reducible refine Ap ?_)|(exact absurd (by with_reducible assumption) hex)|refine tuU ?_|(conv=>arg 2;(first|change eqI (Bg _ _) _|change decide (_+Ai _ _<_)|change ! (sB _));simp only[List.toList_toArray,Bt,r0,r1,r2,r3,r4,r5,w0,w1,w2,w3,w4,w5,Nat.zero_add,Nat.reduceAdd,List.length_cons,List.length_nil])|split<;>rename_i hh<;>try simp only[wS] at hh)<;>conv=>whnf)
   refine⟨⟨(nB rfl),fun e he=>?_⟩,?_⟩
   ·change e<2 at he;rcases(by omega:e=0∨e=1) with rfl|rfl<;>rfl
   refine⟨(([Cd 8,A6 ticket],[32]):List (List UInt8) × List UInt8),⟨Nat.le_trans hjl ((nB rfl)),(nB rfl)⟩,?_,?_⟩
   ·(conv=>whnf)
    (repeat' (first|with_reducible exact⟨⟩|refine tuA ?_|with_reducible refine iA ?_ ?_)<;>conv=>whnf)
    all_goals try simp only[wQ]
    refine⟨fun h=>h,fun e he=>?_⟩;change e<2 at he;rcases(by omega:e=0∨e=1) with rfl|rfl<;>rfl
   (conv=>whnf)
   all_goals try(show _=_;simp only[wQ])
   all_goals exact hW.symm
  ·have hpar:=Lf (r:=⟨key,9,day,ticket,coupon,status,locator,coupons,taxes,amount,frm,til⟩) rfl;have hfac:=I1 (r:=⟨key,9,day,ticket,coupon,status,locator,coupons,taxes,amount,frm,til⟩) rfl hmay;dsimp only at hpar hfac;obtain⟨r0,w0⟩:=Ax (l:=[76]) 0 (by decide) (by decide)
   have r1:=True.intro;have w1:=True.intro;have r2:=True.intro;have w2:=True.intro;have r3:=True.intro;have w3:=True.intro;have r4:=True.intro;have w4:=True.intro;have r5:=True.intro;have w5:=True.intro;have hn:Cd 9=Dd.getD (9 - 1) []:=B8 ⟨by decide,by decide⟩
   have hE:Bn ⟨key,9,day,ticket,coupon,status,locator,coupons,taxes,amount,frm,til⟩=[Cd 9,locator]:=(by rw[hpar,hn];rfl);rw[hE] at hjl hW
   (conv=>whnf)
   refine⟨(⟨key,9,day,ticket,coupon,status,locator,coupons,taxes,amount,frm,til⟩:Request),hp,?_,?_⟩
   ·exact Ac _
   (conv=>whnf)
   (repeat' (first|(with_reducible refine Ap ?_)|(exact absurd (by with_reducible assumption) hex)|refine tuU ?_|(conv=>arg 2;(first|change eqI (Bg _ _) _|change decide (_+Ai _ _<_)|change ! (sB _));simp only[List.toList_toArray,Bt,r0,r1,r2,r3,r4,r5,w0,w1,w2,w3,w4,w5,Nat.zero_add,Nat.reduceAdd,List.length_cons,List.length_nil])|split<;>rename_i hh<;>try simp only[wS] at hh)<;>conv=>whnf)
   refine⟨⟨(nB rfl),fun e he=>?_⟩,?_⟩
   ·change e<2 at he;rcases(by omega:e=0∨e=1) with rfl|rfl<;>rfl
   refine⟨(([Cd 9,locator],[32]):List (List UInt8) × List UInt8),⟨Nat.le_trans hjl ((nB rfl)),(nB rfl)⟩,?_,?_⟩
   ·(conv=>whnf)
    (repeat' (first|with_reducible exact⟨⟩|refine tuA ?_|with_reducible refine iA ?_ ?_)<;>conv=>whnf)
    all_goals try simp only[wQ]
    refine⟨fun h=>h,fun e he=>?_⟩;change e<2 at he;rcases(by omega:e=0∨e=1) with rfl|rfl<;>rfl
   (conv=>whnf)
   all_goals try(show _=_;simp only[wQ])
   all_goals exact hW.symm
  ·have hpar:=Jc (r:=⟨key,10,day,ticket,coupon,status,locator,coupons,taxes,amount,frm,til⟩) rfl;have hfac:=Px (r:=⟨key,10,day,ticket,coupon,status,locator,coupons,taxes,amount,frm,til⟩) rfl hmay;dsimp only at hpar hfac;obtain⟨r0,w0⟩:=Ax (l:=[70,85]) 0 (by decide) (by decide)
   obtain⟨r1,w1⟩:=Ax (l:=[70,85]) 1 (by decide) (by decide)
   have r2:=True.intro;have w2:=True.intro;have r3:=True.intro;have w3:=True.intro;have r4:=True.intro;have w4:=True.intro;have r5:=True.intro;have w5:=True.intro;have hn:Cd 10=Dd.getD (10 - 1) []:=B8 ⟨by decide,by decide⟩
   have hE:Bn ⟨key,10,day,ticket,coupon,status,locator,coupons,taxes,amount,frm,til⟩=[Cd 10,Lib.itoa frm,Lib.itoa til]:=(by rw[hpar,hn];rfl);rw[hE] at hjl hW
   (conv=>whnf)
   refine⟨(⟨key,10,day,ticket,coupon,status,locator,coupons,taxes,amount,frm,til⟩:Request),hp,?_,?_⟩
   ·exact Ac _
   (conv=>whnf)
   (repeat' (first|(with_reducible refine Ap ?_)|(exact absurd (by with_reducible assumption) hex)|refine tuU ?_|(conv=>arg 2;(first|change eqI (Bg _ _) _|change decide (_+Ai _ _<_)|change ! (sB _));simp only[List.toList_toArray,Bt,r0,r1,r2,r3,r4,r5,w0,w1,w2,w3,w4,w5,Nat.zero_add,Nat.reduceAdd,List.length_cons,List.length_nil])|split<;>rename_i hh<;>try simp only[wS] at hh)<;>conv=>whnf)
   refine⟨⟨(nB rfl),fun e he=>?_⟩,?_⟩
   ·change e<3 at he;rcases(by omega:e=0∨e=1∨e=2) with rfl|rfl|rfl<;>rfl
   refine⟨(([Cd 10,Lib.itoa frm,Lib.itoa til],[32]):List (List UInt8) × List UInt8),⟨Nat.le_trans hjl ((nB rfl)),(nB rfl)⟩,?_,?_⟩
   ·(conv=>whnf)
    (repeat' (first|with_reducible exact⟨⟩|refine tuA ?_|with_reducible refine iA ?_ ?_)<;>conv=>whnf)
    all_goals try simp only[wQ]
    refine⟨fun h=>h,fun e he=>?_⟩;change e<3 at he;rcases(by omega:e=0∨e=1∨e=2) with rfl|rfl|rfl<;>rfl
   (conv=>whnf)
   all_goals try(show _=_;simp only[wQ])
   all_goals exact hW.symm
 ·have hm:Af ⟨key,kind,day,ticket,coupon,status,locator,coupons,taxes,amount,frm,til⟩=false:=by simpa using hmay
  have hex: ¬Af ⟨key,kind,day,ticket,coupon,status,locator,coupons,taxes,amount,frm,til⟩=true:=hmay;clear hf
  (conv=>whnf)
  refine⟨(⟨key,kind,day,ticket,coupon,status,locator,coupons,taxes,amount,frm,til⟩:Request),hp,?_,?_⟩
  ·exact Ac _
  (conv=>whnf)
  (repeat' (first|(with_reducible refine Ap ?_)|(exact absurd (by with_reducible assumption) hex)|split<;>rename_i hh<;>try simp only[wS] at hh)<;>conv=>whnf)
  all_goals try(show _=_;simp only[wQ])
  rw[Aub hm]
end
end Go.Vc.Z
