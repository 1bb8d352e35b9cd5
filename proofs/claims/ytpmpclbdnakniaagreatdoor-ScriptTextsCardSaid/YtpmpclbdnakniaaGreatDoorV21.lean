/- request.May, of the kind exchange. -/
import Derived.Test.YtpmpclbdnakniaaGreatDoorV20
set_option linter.all false
set_option maxHeartbeats 8000000
namespace Go.Vc.Z
open Go Go.Vc Go.Proofs Go.RowKit Go.Pl Go.Lib
noncomputable section
set_option maxRecDepth 100000
attribute [local irreducible] inK Utf8.decode Utf8.encode Lib.itoa Pl.worth Pl.allDig
attribute [local irreducible] Lib.join
def Aum:PC:=PC.of (fun r:Request=>[.agg r.enc]) (fun r=>(r.kind=5)∧¬r.coupons.length=0∧¬r.taxes.length=0∧Eh r) (fun r=>.bool (sB (Af r)))
def nA(r:Request):List AV→List Blk→Nat→Option LR:=fun cs H i=>cond (Nat.beq i 0) (some (.order [0,1,2,3,4,5,6,7,8,9,10,11,12,13,14,15,16,17,18])) (cond (Nat.beq i 6) (some (.order [0,1,2,3,4,5,6,7,8,9,10,11,12,13,14,15])) ((fun cs H i=>cond (Nat.beq i 2) (some (.inv (Auc (gP5 r) 4 r cs H))) none) cs H i))
def xZ(r:Request):List (FuncId × Ctr):=(277,inl TY (Rm) Ak (fun _=>false) (nA r) Tryz.f277)::cR
def yA(r:Request):FuncId→Option Ctr:=Av Ak (xZ r)
def nC(r:Request):List AV→List Blk→Nat→Option LR:=fun cs H i=>cond (Nat.beq i 0) (some (.order [0,1,2,3,4,5,6,7,8,9,10,11,12,13,14,15,16,17])) ((fun cs H i=>cond (Nat.beq i 3) (some (.inv (Aud (lcB (gP5 r) 4 r.coupons r.coupons.length) r cs H))) none) cs H i)
def yB(r:Request):List (FuncId × Ctr):=(229,inl TY (yA r) Ak (fun _=>false) (nC r) Tryz.f229)::xZ r
def yC(r:Request):FuncId→Option Ctr:=Av Ak (yB r)
def yD(r:Request):List (FuncId × Ctr):=(228,inl TY (yC r) Ak (fun _=>false) (fun _ _ _=>none) Tryz.f228)::yB r
def yE(r:Request):FuncId→Option Ctr:=Av Ak (yD r)
def yF(r:Request):List (FuncId × Ctr):=(234,inl TY (yE r) Ak (fun _=>false) (fun _ _ _=>none) Tryz.f234)::yD r
def yG(r:Request):FuncId→Option Ctr:=Av Ak (yF r)
def yH(r:Request):List (FuncId × Ctr):=(164,inl TY (yG r) Ak (fun _=>false) (fun _ _ _=>none) Tryz.f164)::yF r
def yI(r:Request):FuncId→Option Ctr:=Av Ak (yH r)
def nD(r:Request):List AV→List Blk→Nat→Option LR:=fun _ _ i=>cond (Nat.beq i 2) (some (.unroll 7)) none
def Anx(r:Request):List (FuncId × Ctr):=(141,inl TY (yI r) Ak (fun _=>false) (nD r) Tryz.f141)::yH r
def yJ(r:Request):FuncId→Option Ctr:=Av Ak (Anx r)
theorem Aun{W:World}(hW:Tabs W):GoodP (Fw W) Tryz.prog 71 Aum:=by
 have hD:=B6 hW;have hC18:∀ r:Request,Ad (Fw W) Tryz.prog Rm:=fun r=>(vL hW);have hC19:∀ r:Request,Ad (Fw W) Tryz.prog (yA r):=fun r=>Ae Tryz.call277 (Ah rfl Ao hD (hC18 r) Tryz.func277 (nA r)) (hC18 r);have hC20:∀ r:Request,Ad (Fw W) Tryz.prog (yC r):=fun r=>Ae Tryz.call229 (Ah rfl Ao hD (hC19 r) Tryz.func229 (nC r)) (hC19 r);have hC21:∀ r:Request,Ad (Fw W) Tryz.prog (yE r):=fun r=>Ae Tryz.call228 (Ah rfl Ao hD (hC20 r) Tryz.func228 (fun _ _ _=>none)) (hC20 r);have hC22:∀ r:Request,Ad (Fw W) Tryz.prog (yG r):=fun r=>Ae Tryz.call234 (Ah rfl Ao hD (hC21 r) Tryz.func234 (fun _ _ _=>none)) (hC21 r)
 have hC23:∀ r:Request,Ad (Fw W) Tryz.prog (yI r):=fun r=>Ae Tryz.call164 (Ah rfl Ao hD (hC22 r) Tryz.func164 (fun _ _ _=>none)) (hC22 r);have hC24:∀ r:Request,Ad (Fw W) Tryz.prog (yJ r):=fun r=>Ae Tryz.call141 (Ah rfl Ao hD (hC23 r) Tryz.func141 (nD r)) (hC23 r);refine As (D:=Ak) (C:=fun r=>yJ r) (wr:=(fun _=>false)) rfl Ao hD hC24 Tryz.func71 (fun _ _=>none) (fun _=>rfl) ?_;rintro⟨key,kind,day,ticket,coupon,status,locator,coupons,taxes,amount,frm,til⟩ hf hp;have hft:Az [slE 2 Tax.enc taxes]:=⟨hf.1.2.2.2.2.2.2.2.2.1,True.intro⟩;clear hf;obtain⟨hk,hcn,htn,hp1,hp2⟩:=hp;dsimp only at hk hcn htn hp1 hp2
 rcases hk with rfl;have hex: ¬Cd 5=[]:=by rw[B8 (by decide)];decide
 have hca: ¬0+coupons.length≤0:=by omega
 have hta: ¬0+taxes.length≤0:=by omega
 (conv=>whnf)
 (repeat' (first|(with_reducible refine Ap ?_)|(exact absurd (by with_reducible assumption) hex)|(exact absurd (by with_reducible assumption) hcn)|(exact absurd (by with_reducible assumption) htn)|(exact absurd (by with_reducible assumption) hca)|(exact absurd (by with_reducible assumption) hta)|((with_reducible apply Bv);(focus rfl);(focus rfl))|((with_reducible apply Bs);(focus rfl);(focus rfl);(focus rfl))|exact tN|with_reducible refine iQ ?_ ?_|refine tuU ?_|split<;>rename_i hh<;>try simp only[wS] at hh|with_reducible refine lnI fun hln=>?_)<;>conv=>whnf)
 refine⟨?_,fun(i:Nat) (hi:i≤coupons.length)=>?_⟩
 ·(conv=>whnf)
  refine⟨(0:Nat),[],?_,⟨⟨rfl,(nB rfl),rfl⟩,?_,?_⟩⟩
  ·exact Nat.zero_le _
  ·exact tL
  ·(conv=>whnf)
   (repeat' (first|with_reducible exact⟨⟩|((with_reducible refine Or.inr ?_);rfl)|refine tuA ?_|with_reducible refine iA ?_ ?_|with_reducible refine iL ?_ ?_|with_reducible refine iB ?_ ?_)<;>conv=>whnf)
   all_goals try simp only[wQ]
   all_goals (try first|omega|rfl|exact⟨fun h=>h,fun _ _=>True.intro⟩)
   all_goals (try first|exact fun _ _=>⟨True.intro,rfl⟩)
   ·intro e he;refine⟨?_,rfl⟩;show Bq 0 _ _ e=_;unfold Bq;rw[if_neg (by omega),Nat.sub_zero]
    simp only[rX,Pz]
   ·rw[Z6,Nat.zero_add];unfold gP5;rfl
   ·intro e he;rcases(by omega:e=0∨e=1∨e=2∨e=3∨e=4∨e=5) with rfl|rfl|rfl|rfl|rfl|rfl<;>exact⟨True.intro,rfl⟩
 ·(conv=>whnf)
  (repeat' (first|(with_reducible refine Ap ?_)|((with_reducible apply Bv);(focus rfl);(focus rfl))|((with_reducible apply Bs);(focus rfl);(focus rfl);(focus rfl))|((with_reducible apply D9);(focus rfl);(focus rfl);(focus rfl))|(refine Ps ?_)|exact tN|with_reducible refine iQ ?_ ?_|refine tuU ?_|split<;>rename_i hh<;>try simp only[wS] at hh|with_reducible refine lnI fun hln=>?_)<;>conv=>whnf)
  ·(conv=>whnf)
   refine⟨(i+1:Nat),[],?_,⟨⟨rfl,(nB rfl),rfl⟩,?_,?_⟩⟩
   ·exact⟨show i+1≤coupons.length by omega,show coupons.length - (i+1)<coupons.length - i by omega⟩
   ·exact tL
   ·(conv=>whnf)
    (repeat' (first|with_reducible exact⟨⟩|((with_reducible refine Or.inr ?_);rfl)|refine tuA ?_|with_reducible refine iA ?_ ?_|with_reducible refine iL ?_ ?_|with_reducible refine iB ?_ ?_)<;>conv=>whnf)
    all_goals try simp only[wQ]
    all_goals (try first|omega|rfl|exact⟨fun h=>h,fun _ _=>True.intro⟩)
    all_goals (try first|exact fun _ _=>⟨True.intro,rfl⟩)
    ·intro e he;refine⟨?_,rfl⟩;simp only[Dk,decide_true,if_true,decide_eq_true_eq];by_cases h1:e=i
     ·subst h1;simp only[if_pos (show e=0+Int.toNat (e:Int) by omega)]
      rw[iY];simp only[Nat.zero_add,Int.toNat_natCast];rfl
     ·simp only[if_neg (show¬e=0+Int.toNat (i:Int) by omega)]
      rw[iW h1]
    ·rw[Z9 (by omega),Bool.eq_iff_iff]
     simp only[Bool.and_eq_true,Br,Sv,beq_iff_eq,Y2,decide_true,if_true,Je (Nat.le_refl i),Nat.zero_add,Int.toNat_natCast,true_and,and_assoc,cond_true,cond_false]
    ·intro e he;rcases(by omega:e=0∨e=1∨e=2∨e=3∨e=4∨e=5) with rfl|rfl|rfl|rfl|rfl|rfl<;>exact⟨True.intro,rfl⟩
  ·obtain rfl:i=coupons.length:=by omega
   refine⟨?_,fun(k:Nat) (hk:k≤taxes.length)=>?_⟩
   ·(conv=>whnf)
    refine⟨(0:Nat),[],?_,⟨⟨rfl,(nB rfl),rfl⟩,?_,?_⟩⟩
    ·exact Nat.zero_le _
    ·(conv=>whnf)
     (repeat' (first|with_reducible exact⟨⟩|refine tuA ?_|with_reducible refine iA ?_ ?_)<;>conv=>whnf)
     all_goals try simp only[wQ]
     all_goals (try first|omega)
     all_goals exact(P2 _).symm
    ·(conv=>whnf)
     (repeat' (first|with_reducible exact⟨⟩|((with_reducible refine Or.inr ?_);rfl)|refine tuA ?_|with_reducible refine iA ?_ ?_|with_reducible refine iL ?_ ?_|with_reducible refine iB ?_ ?_)<;>conv=>whnf)
     all_goals try simp only[wQ]
     all_goals (try first|omega|rfl|exact⟨fun h=>h,fun _ _=>True.intro⟩)
     all_goals (try first|exact fun _ _=>⟨True.intro,rfl⟩)
     ·intro e he;refine⟨?_,rfl⟩;show Bq 0 _ _ e=_;unfold Bq;rw[if_neg (by omega),Nat.sub_zero]
      simp only[rY,Pz]
     ·rw[Z7,Nat.zero_add]
     ·intro e he;rcases(by omega:e=0∨e=1∨e=2∨e=3∨e=4∨e=5) with rfl|rfl|rfl|rfl|rfl|rfl<;>exact⟨True.intro,rfl⟩
   ·have hfin:taxes.length≤k→ltB (lcB (gP5 ⟨key,5,day,ticket,coupon,status,locator,coupons,taxes,amount,frm,til⟩) 4 coupons coupons.length) taxes k=(gP5 ⟨key,5,day,ticket,coupon,status,locator,coupons,taxes,amount,frm,til⟩&&E5 4 coupons&&C0 taxes):=fun h=>by
     obtain rfl:k=taxes.length:=by omega
     rw[Z8,Rl]
    have hcode:k<taxes.length→ -9223372036854775808≤fz k (0+Int.toNat (k:Int)) (taxes.getD (0+Int.toNat (k:Int)) default).code:=fun h=>by
     rw[Je (by omega),Nat.zero_add];exact aA hft h
    have hfz:fz k (0+Int.toNat (k:Int)) (taxes.getD (0+Int.toNat (k:Int)) default).code=(taxes.getD k default).code:=by
     rw[Je (by omega),Nat.zero_add];rfl
    (conv=>whnf)
    (repeat' (first|(with_reducible refine Ap ?_)|(exact absurd (by with_reducible assumption) Bool.false_ne_true)|((with_reducible apply Bv);(focus rfl);(focus rfl))|((with_reducible apply Bs);(focus rfl);(focus rfl);(focus rfl))|((with_reducible apply D9);(focus rfl);(focus rfl);(focus rfl))|exact tN|refine tuU ?_|split<;>rename_i hh<;>try simp only[wS] at hh)<;>conv=>whnf)
    all_goals try(show _=_;simp only[wQ])
    ·(conv=>whnf)
     refine⟨(k+1:Nat),[],?_,⟨⟨rfl,(nB rfl),rfl⟩,?_,?_⟩⟩
     ·exact⟨show k+1≤taxes.length by omega,show taxes.length - (k+1)<taxes.length - k by omega⟩
     ·(conv=>whnf)
      (repeat' (first|with_reducible exact⟨⟩|refine tuA ?_|with_reducible refine iA ?_ ?_)<;>conv=>whnf)
      all_goals try simp only[wQ]
      all_goals (try first|omega)
      all_goals (unfold I3;rw[if_neg (by omega),Nat.add_sub_cancel];split<;>omega)
     ·(conv=>whnf)
      (repeat' (first|with_reducible exact⟨⟩|((with_reducible refine Or.inr ?_);rfl)|refine tuA ?_|with_reducible refine iA ?_ ?_|with_reducible refine iL ?_ ?_|with_reducible refine iB ?_ ?_)<;>conv=>whnf)
      all_goals try simp only[wQ]
      all_goals (try first|omega|rfl|exact⟨fun h=>h,fun _ _=>True.intro⟩)
      all_goals (try first|exact fun _ _=>⟨True.intro,rfl⟩)
      ·intro e he;refine⟨?_,rfl⟩;simp only[Dk,decide_true,if_true,decide_eq_true_eq];by_cases h1:e=k
       ·subst h1;simp only[if_pos (show e=0+Int.toNat (e:Int) by omega)]
        rw[P1];simp only[Nat.zero_add,Int.toNat_natCast];rfl
       ·simp only[if_neg (show¬e=0+Int.toNat (k:Int) by omega)]
        rw[P0 h1]
      ·rw[L1 (by omega),Bool.eq_iff_iff]
       unfold C2;simp only[Bool.and_eq_true,Br,decide_eq_true_eq,Y2,decide_true,if_true,Je (Nat.le_refl k),Nat.zero_add,Int.toNat_natCast,true_and,and_assoc,cond_true,cond_false]
      ·intro e he;rcases(by omega:e=0∨e=1∨e=2∨e=3∨e=4∨e=5) with rfl|rfl|rfl|rfl|rfl|rfl<;>exact⟨True.intro,rfl⟩
    ·(conv=>whnf)
     refine⟨(k+1:Nat),[],?_,⟨⟨rfl,(nB rfl),rfl⟩,?_,?_⟩⟩
     ·exact⟨show k+1≤taxes.length by omega,show taxes.length - (k+1)<taxes.length - k by omega⟩
     ·(conv=>whnf)
      (repeat' (first|with_reducible exact⟨⟩|refine tuA ?_|with_reducible refine iA ?_ ?_)<;>conv=>whnf)
      all_goals try simp only[wQ]
      all_goals (try first|omega)
      all_goals (unfold I3;rw[if_neg (by omega),Nat.add_sub_cancel];split<;>omega)
     ·(conv=>whnf)
      (repeat' (first|with_reducible exact⟨⟩|((with_reducible refine Or.inr ?_);rfl)|refine tuA ?_|with_reducible refine iA ?_ ?_|with_reducible refine iL ?_ ?_|with_reducible refine iB ?_ ?_)<;>conv=>whnf)
      all_goals try simp only[wQ]
      all_goals (try first|omega|rfl|exact⟨fun h=>h,fun _ _=>True.intro⟩)
      all_goals (try first|exact fun _ _=>⟨True.intro,rfl⟩)
      ·intro e he;refine⟨?_,rfl⟩;simp only[Dk,decide_true,if_true,decide_eq_true_eq];by_cases h1:e=k
       ·subst h1;simp only[if_pos (show e=0+Int.toNat (e:Int) by omega)]
        rw[P1];simp only[Nat.zero_add,Int.toNat_natCast];rfl
       ·simp only[if_neg (show¬e=0+Int.toNat (k:Int) by omega)]
        rw[P0 h1]
      ·rw[L1 (by omega),Bool.eq_iff_iff]
       unfold C2;simp only[Bool.and_eq_true,Br,decide_eq_true_eq,Y2,decide_true,if_true,Je (Nat.le_refl k),Nat.zero_add,Int.toNat_natCast,true_and,and_assoc,cond_true,cond_false]
      ·intro e he;rcases(by omega:e=0∨e=1∨e=2∨e=3∨e=4∨e=5) with rfl|rfl|rfl|rfl|rfl|rfl<;>exact⟨True.intro,rfl⟩
    ·refine⟨((⟨[],5,0,0,coupon,status,locator,[],[],0,frm,til⟩,⟨[],5,0,0,0,0,[],[],[],0,0,0⟩):Request × Request),True.intro,?_,?_⟩
     ·exact tL
     (conv=>whnf)
     all_goals try(show _=_;simp only[wQ])
     rw[cond_true,Bool.eq_iff_iff,Bc,Np];rw[hfin (by omega)] at hh
     simp only[Bool.and_eq_true,jA,Request.mk.injEq,true_and,and_true] at hh ⊢;exact⟨fun h=>by simp_all,fun h=>by simp_all⟩
    ·symm;refine Bool.eq_false_iff.2 fun hm=>?_;rw[Np] at hm;rw[hfin (by omega)] at hh
     refine absurd hh ?_;rw[Bool.not_eq_false];simp only[Bool.and_eq_true,jA];simp_all
def Auo:PC:=PC.of (fun r:Request=>[.agg r.enc]) (fun r=>(r.kind=5)∧¬r.coupons.length=0∧r.taxes=[]∧Eh r) (fun r=>.bool (sB (Af r)))
def nE(r:Request):List AV→List Blk→Nat→Option LR:=fun cs H i=>cond (Nat.beq i 0) (some (.order [0,1,2,3,4,5,6,7,8,9,10,11,12,13,14,15,16,17,18])) (cond (Nat.beq i 6) (some (.order [0,1,2,3,4,5,6,7,8,9,10,11,12,13,14,15])) ((fun cs H i=>cond (Nat.beq i 2) (some (.inv (Auc (gP5 r) 4 r cs H))) none) cs H i))
def yK(r:Request):List (FuncId × Ctr):=(277,inl TY (Rn) Ak (fun _=>false) (nE r) Tryz.f277)::cS
def yL(r:Request):FuncId→Option Ctr:=Av Ak (yK r)
def yM(r:Request):List (FuncId × Ctr):=(228,inl TY (yL r) Ak (fun _=>false) (fun _ _ _=>none) Tryz.f228)::yK r
def yN(r:Request):FuncId→Option Ctr:=Av Ak (yM r)
def yO(r:Request):List (FuncId × Ctr):=(234,inl TY (yN r) Ak (fun _=>false) (fun _ _ _=>none) Tryz.f234)::yM r
def yP(r:Request):FuncId→Option Ctr:=Av Ak (yO r)
def yQ(r:Request):List (FuncId × Ctr):=(164,inl TY (yP r) Ak (fun _=>false) (fun _ _ _=>none) Tryz.f164)::yO r
def yR(r:Request):FuncId→Option Ctr:=Av Ak (yQ r)
def nF(r:Request):List AV→List Blk→Nat→Option LR:=fun _ _ i=>cond (Nat.beq i 2) (some (.unroll 7)) none
def Anz(r:Request):List (FuncId × Ctr):=(141,inl TY (yR r) Ak (fun _=>false) (nF r) Tryz.f141)::yQ r
def yS(r:Request):FuncId→Option Ctr:=Av Ak (Anz r)
theorem Aup{W:World}(hW:Tabs W):GoodP (Fw W) Tryz.prog 71 Auo:=by
 have hD:=B6 hW;have hC18:∀ r:Request,Ad (Fw W) Tryz.prog Rn:=fun r=>(wA hW);have hC19:∀ r:Request,Ad (Fw W) Tryz.prog (yL r):=fun r=>Ae Tryz.call277 (Ah rfl Ao hD (hC18 r) Tryz.func277 (nE r)) (hC18 r);have hC20:∀ r:Request,Ad (Fw W) Tryz.prog (yN r):=fun r=>Ae Tryz.call228 (Ah rfl Ao hD (hC19 r) Tryz.func228 (fun _ _ _=>none)) (hC19 r);have hC21:∀ r:Request,Ad (Fw W) Tryz.prog (yP r):=fun r=>Ae Tryz.call234 (Ah rfl Ao hD (hC20 r) Tryz.func234 (fun _ _ _=>none)) (hC20 r);have hC22:∀ r:Request,Ad (Fw W) Tryz.prog (yR r):=fun r=>Ae Tryz.call164 (Ah rfl Ao hD (hC21 r) Tryz.func164 (fun _ _ _=>none)) (hC21 r)
 have hC23:∀ r:Request,Ad (Fw W) Tryz.prog (yS r):=fun r=>Ae Tryz.call141 (Ah rfl Ao hD (hC22 r) Tryz.func141 (nF r)) (hC22 r);refine As (D:=Ak) (C:=fun r=>yS r) (wr:=(fun _=>false)) rfl Ao hD hC23 Tryz.func71 (fun _ _=>none) (fun _=>rfl) ?_;rintro⟨key,kind,day,ticket,coupon,status,locator,coupons,taxes,amount,frm,til⟩ hf hp;have hft:Az [slE 2 Tax.enc taxes]:=⟨hf.1.2.2.2.2.2.2.2.2.1,True.intro⟩;clear hf;obtain⟨hk,hcn,htn,hp1,hp2⟩:=hp;dsimp only at hk hcn htn hp1 hp2;subst htn;rcases hk with rfl;have hex: ¬Cd 5=[]:=by rw[B8 (by decide)];decide
 have hca: ¬0+coupons.length≤0:=by omega
 (conv=>whnf)
 (repeat' (first|(with_reducible refine Ap ?_)|(exact absurd (by with_reducible assumption) hex)|(exact absurd (by with_reducible assumption) hcn)|(exact absurd (by with_reducible assumption) hca)|with_reducible refine iQ ?_ ?_|refine tuU ?_|split<;>rename_i hh<;>try simp only[wS] at hh)<;>conv=>whnf)
 refine⟨([]:List Tax),Nat.zero_le _,?_,?_⟩
 ·exact Ac _
 (conv=>whnf)
 (repeat' (first|(with_reducible refine Ap ?_)|((with_reducible apply Bv);(focus rfl);(focus rfl))|((with_reducible apply Bs);(focus rfl);(focus rfl);(focus rfl))|exact tN|with_reducible refine iQ ?_ ?_|refine tuU ?_|split<;>rename_i hh<;>try simp only[wS] at hh|with_reducible refine lnI fun hln=>?_)<;>conv=>whnf)
 refine⟨?_,fun(i:Nat) (hi:i≤coupons.length)=>?_⟩
 ·(conv=>whnf)
  refine⟨(0:Nat),[],?_,⟨⟨rfl,(nB rfl),rfl⟩,?_,?_⟩⟩
  ·exact Nat.zero_le _
  ·exact tL
  ·(conv=>whnf)
   (repeat' (first|with_reducible exact⟨⟩|((with_reducible refine Or.inr ?_);rfl)|refine tuA ?_|with_reducible refine iA ?_ ?_|with_reducible refine iL ?_ ?_|with_reducible refine iB ?_ ?_)<;>conv=>whnf)
   all_goals try simp only[wQ]
   all_goals (try first|omega|rfl|exact⟨fun h=>h,fun _ _=>True.intro⟩)
   ·intro e he;refine⟨?_,rfl⟩;show Bq 0 _ _ e=_;unfold Bq;rw[if_neg (by omega),Nat.sub_zero]
    simp only[rX,Pz]
   ·rw[Z6,Nat.zero_add];unfold gP5;rfl
   ·intro e he;rcases(by omega:e=0∨e=1∨e=2∨e=3∨e=4∨e=5) with rfl|rfl|rfl|rfl|rfl|rfl<;>exact⟨True.intro,rfl⟩
 ·(conv=>whnf)
  (repeat' (first|(with_reducible refine Ap ?_)|((with_reducible apply Bv);(focus rfl);(focus rfl))|((with_reducible apply Bs);(focus rfl);(focus rfl);(focus rfl))|((with_reducible apply D9);(focus rfl);(focus rfl);(focus rfl))|(refine Ps ?_)|exact tN|with_reducible refine iQ ?_ ?_|refine tuU ?_|split<;>rename_i hh<;>try simp only[wS] at hh|with_reducible refine lnI fun hln=>?_)<;>conv=>whnf)
  all_goals try(show _=_;simp only[wQ])
  ·(conv=>whnf)
   refine⟨(i+1:Nat),[],?_,⟨⟨rfl,(nB rfl),rfl⟩,?_,?_⟩⟩
   ·exact⟨show i+1≤coupons.length by omega,show coupons.length - (i+1)<coupons.length - i by omega⟩
   ·exact tL
   ·(conv=>whnf)
    (repeat' (first|with_reducible exact⟨⟩|((with_reducible refine Or.inr ?_);rfl)|refine tuA ?_|with_reducible refine iA ?_ ?_|with_reducible refine iL ?_ ?_|with_reducible refine iB ?_ ?_)<;>conv=>whnf)
    all_goals try simp only[wQ]
    all_goals (try first|omega|rfl|exact⟨fun h=>h,fun _ _=>True.intro⟩)
    ·intro e he;refine⟨?_,rfl⟩;simp only[Dk,decide_true,if_true,decide_eq_true_eq];by_cases h1:e=i
     ·subst h1;simp only[if_pos (show e=0+Int.toNat (e:Int) by omega)]
      rw[iY];simp only[Nat.zero_add,Int.toNat_natCast];rfl
     ·simp only[if_neg (show¬e=0+Int.toNat (i:Int) by omega)]
      rw[iW h1]
    ·rw[Z9 (by omega),Bool.eq_iff_iff]
     simp only[Bool.and_eq_true,Br,Sv,beq_iff_eq,Y2,decide_true,if_true,Je (Nat.le_refl i),Nat.zero_add,Int.toNat_natCast,true_and,and_assoc,cond_true,cond_false]
    ·intro e he;rcases(by omega:e=0∨e=1∨e=2∨e=3∨e=4∨e=5) with rfl|rfl|rfl|rfl|rfl|rfl<;>exact⟨True.intro,rfl⟩
  ·obtain rfl:i=coupons.length:=by omega
   have hfin:C6 (lcB (gP5 ⟨key,5,day,ticket,coupon,status,locator,coupons,[],amount,frm,til⟩) 4 coupons coupons.length) 0 ([]:List Tax).length 4=(gP5 ⟨key,5,day,ticket,coupon,status,locator,coupons,[],amount,frm,til⟩&&E5 4 coupons&&C0 []):=by
    rw[Rl,Sw,Bool.and_true,Bool.eq_iff_iff];simp[Br]
   refine⟨((⟨[],5,0,0,coupon,status,locator,[],[],0,frm,til⟩,⟨[],5,0,0,0,0,[],[],[],0,0,0⟩):Request × Request),True.intro,?_,?_⟩
   ·exact tL
   (conv=>whnf)
   all_goals try(show _=_;simp only[wQ])
   rw[cond_true,Bool.eq_iff_iff,Bc,Np];rw[hfin] at hh;simp only[Bool.and_eq_true,jA,Request.mk.injEq,true_and,and_true] at hh ⊢;exact⟨fun h=>by simp_all,fun h=>by simp_all⟩
  ·obtain rfl:i=coupons.length:=by omega
   have hfin:C6 (lcB (gP5 ⟨key,5,day,ticket,coupon,status,locator,coupons,[],amount,frm,til⟩) 4 coupons coupons.length) 0 ([]:List Tax).length 4=(gP5 ⟨key,5,day,ticket,coupon,status,locator,coupons,[],amount,frm,til⟩&&E5 4 coupons&&C0 []):=by
    rw[Rl,Sw,Bool.and_true,Bool.eq_iff_iff];simp[Br]
   symm;refine Bool.eq_false_iff.2 fun hm=>?_;rw[Np] at hm;rw[hfin] at hh;refine absurd hh ?_;rw[Bool.not_eq_false];simp only[Bool.and_eq_true,jA];simp_all
def Auq:PC:=PC.of (fun r:Request=>[.agg r.enc]) (fun r=>(r.kind=5)∧r.coupons=[]∧¬r.taxes.length=0∧Eh r) (fun r=>.bool (sB (Af r)))
def nG(r:Request):List AV→List Blk→Nat→Option LR:=fun cs H i=>cond (Nat.beq i 0) (some (.order [0,1,2,3,4,5,6,7,8,9,10,11,12,13,14,15,16,17])) ((fun cs H i=>cond (Nat.beq i 3) (some (.inv (Aud (C6 (gP5 r) 1 0 4) r cs H))) none) cs H i)
def yT(r:Request):List (FuncId × Ctr):=(229,inl TY (Ro) Ak (fun _=>false) (nG r) Tryz.f229)::cT
def yU(r:Request):FuncId→Option Ctr:=Av Ak (yT r)
def yV(r:Request):List (FuncId × Ctr):=(164,inl TY (yU r) Ak (fun _=>false) (fun _ _ _=>none) Tryz.f164)::yT r
def yW(r:Request):FuncId→Option Ctr:=Av Ak (yV r)
def nH(r:Request):List AV→List Blk→Nat→Option LR:=fun _ _ i=>cond (Nat.beq i 2) (some (.unroll 7)) none
def An0(r:Request):List (FuncId × Ctr):=(141,inl TY (yW r) Ak (fun _=>false) (nH r) Tryz.f141)::yV r
def yX(r:Request):FuncId→Option Ctr:=Av Ak (An0 r)
theorem Aur{W:World}(hW:Tabs W):GoodP (Fw W) Tryz.prog 71 Auq:=by
 have hD:=B6 hW;have hC20:∀ r:Request,Ad (Fw W) Tryz.prog Ro:=fun r=>(wZ hW);have hC21:∀ r:Request,Ad (Fw W) Tryz.prog (yU r):=fun r=>Ae Tryz.call229 (Ah rfl Ao hD (hC20 r) Tryz.func229 (nG r)) (hC20 r);have hC22:∀ r:Request,Ad (Fw W) Tryz.prog (yW r):=fun r=>Ae Tryz.call164 (Ah rfl Ao hD (hC21 r) Tryz.func164 (fun _ _ _=>none)) (hC21 r);have hC23:∀ r:Request,Ad (Fw W) Tryz.prog (yX r):=fun r=>Ae Tryz.call141 (Ah rfl Ao hD (hC22 r) Tryz.func141 (nH r)) (hC22 r);refine As (D:=Ak) (C:=fun r=>yX r) (wr:=(fun _=>false)) rfl Ao hD hC23 Tryz.func71 (fun _ _=>none) (fun _=>rfl) ?_;rintro⟨key,kind,day,ticket,coupon,status,locator,coupons,taxes,amount,frm,til⟩ hf hp
 have hft:Az [slE 2 Tax.enc taxes]:=⟨hf.1.2.2.2.2.2.2.2.2.1,True.intro⟩;clear hf;obtain⟨hk,hcn,htn,hp1,hp2⟩:=hp;dsimp only at hk hcn htn hp1 hp2;subst hcn;rcases hk with rfl;have hex: ¬Cd 5=[]:=by rw[B8 (by decide)];decide
 have hta: ¬0+taxes.length≤0:=by omega
 (conv=>whnf)
 (repeat' (first|(with_reducible refine Ap ?_)|(exact absurd (by with_reducible assumption) hex)|refine tuU ?_|split<;>rename_i hh<;>try simp only[wS] at hh)<;>conv=>whnf)
 refine⟨([]:List Coupon),Nat.zero_le _,?_,?_⟩
 ·exact Ac _
 (conv=>whnf)
 (repeat' (first|(with_reducible refine Ap ?_)|(exact absurd (by with_reducible assumption) htn)|(exact absurd (by with_reducible assumption) hta)|((with_reducible apply Bv);(focus rfl);(focus rfl))|((with_reducible apply Bs);(focus rfl);(focus rfl);(focus rfl))|exact tN|with_reducible refine iQ ?_ ?_|refine tuU ?_|split<;>rename_i hh<;>try simp only[wS] at hh|with_reducible refine lnI fun hln=>?_)<;>conv=>whnf)
 refine⟨?_,fun(k:Nat) (hk:k≤taxes.length)=>?_⟩
 ·(conv=>whnf)
  refine⟨(0:Nat),[],?_,⟨⟨rfl,(nB rfl),rfl⟩,?_,?_⟩⟩
  ·exact Nat.zero_le _
  ·(conv=>whnf)
   (repeat' (first|with_reducible exact⟨⟩|refine tuA ?_|with_reducible refine iA ?_ ?_)<;>conv=>whnf)
   all_goals try simp only[wQ]
   all_goals (try first|omega)
   all_goals exact(P2 _).symm
  ·(conv=>whnf)
   (repeat' (first|with_reducible exact⟨⟩|((with_reducible refine Or.inr ?_);rfl)|refine tuA ?_|with_reducible refine iA ?_ ?_|with_reducible refine iL ?_ ?_|with_reducible refine iB ?_ ?_)<;>conv=>whnf)
   all_goals try simp only[wQ]
   all_goals (try first|omega|rfl|exact⟨fun h=>h,fun _ _=>True.intro⟩)
   ·intro e he;refine⟨?_,rfl⟩;show Bq 0 _ _ e=_;unfold Bq;rw[if_neg (by omega),Nat.sub_zero]
    simp only[rY,Pz]
   ·rw[Z7,Nat.zero_add];unfold gP5;rfl
   ·intro e he;rcases(by omega:e=0∨e=1∨e=2∨e=3∨e=4∨e=5) with rfl|rfl|rfl|rfl|rfl|rfl<;>exact⟨True.intro,rfl⟩
 ·have hfin:taxes.length≤k→ltB (C6 (gP5 ⟨key,5,day,ticket,coupon,status,locator,[],taxes,amount,frm,til⟩) 1 0 4) taxes k=((C6 (gP5 ⟨key,5,day,ticket,coupon,status,locator,[],taxes,amount,frm,til⟩) 1 0 4)&&C0 taxes):=fun h=>by
   obtain rfl:k=taxes.length:=by omega
   rw[Z8]
  have hcode:k<taxes.length→ -9223372036854775808≤fz k (0+Int.toNat (k:Int)) (taxes.getD (0+Int.toNat (k:Int)) default).code:=fun h=>by
   rw[Je (by omega),Nat.zero_add];exact aA hft h
  have hfz:fz k (0+Int.toNat (k:Int)) (taxes.getD (0+Int.toNat (k:Int)) default).code=(taxes.getD k default).code:=by
   rw[Je (by omega),Nat.zero_add];rfl
  (conv=>whnf)
  (repeat' (first|(with_reducible refine Ap ?_)|(exact absurd (by with_reducible assumption) Bool.false_ne_true)|((with_reducible apply Bv);(focus rfl);(focus rfl))|((with_reducible apply Bs);(focus rfl);(focus rfl);(focus rfl))|((with_reducible apply D9);(focus rfl);(focus rfl);(focus rfl))|exact tN|refine tuU ?_|split<;>rename_i hh<;>try simp only[wS] at hh)<;>conv=>whnf)
  all_goals try(show _=_;simp only[wQ])
  ·(conv=>whnf)
   refine⟨(k+1:Nat),[],?_,⟨⟨rfl,(nB rfl),rfl⟩,?_,?_⟩⟩
   ·exact⟨show k+1≤taxes.length by omega,show taxes.length - (k+1)<taxes.length - k by omega⟩
   ·(conv=>whnf)
    (repeat' (first|with_reducible exact⟨⟩|refine tuA ?_|with_reducible refine iA ?_ ?_)<;>conv=>whnf)
    all_goals try simp only[wQ]
    all_goals (try first|omega)
    all_goals (unfold I3;rw[if_neg (by omega),Nat.add_sub_cancel];split<;>omega)
   ·(conv=>whnf)
    (repeat' (first|with_reducible exact⟨⟩|((with_reducible refine Or.inr ?_);rfl)|refine tuA ?_|with_reducible refine iA ?_ ?_|with_reducible refine iL ?_ ?_|with_reducible refine iB ?_ ?_)<;>conv=>whnf)
    all_goals try simp only[wQ]
    all_goals (try first|omega|rfl|exact⟨fun h=>h,fun _ _=>True.intro⟩)
    ·intro e he;refine⟨?_,rfl⟩;simp only[Dk,decide_true,if_true,decide_eq_true_eq];by_cases h1:e=k
     ·subst h1;simp only[if_pos (show e=0+Int.toNat (e:Int) by omega)]
      rw[P1];simp only[Nat.zero_add,Int.toNat_natCast];rfl
     ·simp only[if_neg (show¬e=0+Int.toNat (k:Int) by omega)]
      rw[P0 h1]
    ·rw[L1 (by omega),Bool.eq_iff_iff]
     unfold C2;simp only[Bool.and_eq_true,Br,decide_eq_true_eq,Y2,decide_true,if_true,Je (Nat.le_refl k),Nat.zero_add,Int.toNat_natCast,true_and,and_assoc,cond_true,cond_false]
    ·intro e he;rcases(by omega:e=0∨e=1∨e=2∨e=3∨e=4∨e=5) with rfl|rfl|rfl|rfl|rfl|rfl<;>exact⟨True.intro,rfl⟩
  ·(conv=>whnf)
   refine⟨(k+1:Nat),[],?_,⟨⟨rfl,(nB rfl),rfl⟩,?_,?_⟩⟩
   ·exact⟨show k+1≤taxes.length by omega,show taxes.length - (k+1)<taxes.length - k by omega⟩
   ·(conv=>whnf)
    (repeat' (first|with_reducible exact⟨⟩|refine tuA ?_|with_reducible refine iA ?_ ?_)<;>conv=>whnf)
    all_goals try simp only[wQ]
    all_goals (try first|omega)
    all_goals (unfold I3;rw[if_neg (by omega),Nat.add_sub_cancel];split<;>omega)
   ·(conv=>whnf)
    (repeat' (first|with_reducible exact⟨⟩|((with_reducible refine Or.inr ?_);rfl)|refine tuA ?_|with_reducible refine iA ?_ ?_|with_reducible refine iL ?_ ?_|with_reducible refine iB ?_ ?_)<;>conv=>whnf)
    all_goals try simp only[wQ]
    all_goals (try first|omega|rfl|exact⟨fun h=>h,fun _ _=>True.intro⟩)
    ·intro e he;refine⟨?_,rfl⟩;simp only[Dk,decide_true,if_true,decide_eq_true_eq];by_cases h1:e=k
     ·subst h1;simp only[if_pos (show e=0+Int.toNat (e:Int) by omega)]
      rw[P1];simp only[Nat.zero_add,Int.toNat_natCast];rfl
     ·simp only[if_neg (show¬e=0+Int.toNat (k:Int) by omega)]
      rw[P0 h1]
    ·rw[L1 (by omega),Bool.eq_iff_iff]
     unfold C2;simp only[Bool.and_eq_true,Br,decide_eq_true_eq,Y2,decide_true,if_true,Je (Nat.le_refl k),Nat.zero_add,Int.toNat_natCast,true_and,and_assoc,cond_true,cond_false]
    ·intro e he;rcases(by omega:e=0∨e=1∨e=2∨e=3∨e=4∨e=5) with rfl|rfl|rfl|rfl|rfl|rfl<;>exact⟨True.intro,rfl⟩
  ·exfalso;rw[hfin (by omega)] at hh
   simp only[Bool.and_eq_true,Br,List.length_nil] at hh;omega
  ·symm;refine Bool.eq_false_iff.2 fun hm=>?_;rw[Np] at hm;exact Wh (m:=4) (by simp only[hm])
def Aus:PC:=PC.of (fun r:Request=>[.agg r.enc]) (fun r=>(r.kind=5)∧r.coupons=[]∧r.taxes=[]∧Eh r) (fun r=>.bool (sB (Af r)))
theorem Aut{W:World}(hW:Tabs W):GoodP (Fw W) Tryz.prog 71 Aus:=by
 have hD:=B6 hW;have hC0:∀ r:Request,Ad (Fw W) Tryz.prog Rp:=fun r=>(xY hW);refine As (D:=Ak) (C:=fun r=>Rp) (wr:=(fun _=>false)) rfl Ao hD hC0 Tryz.func71 (fun _ _=>none) (fun _=>rfl) ?_;rintro⟨key,kind,day,ticket,coupon,status,locator,coupons,taxes,amount,frm,til⟩ hf hp;have hft:Az [slE 2 Tax.enc taxes]:=⟨hf.1.2.2.2.2.2.2.2.2.1,True.intro⟩;clear hf;obtain⟨hk,hcn,htn,hp1,hp2⟩:=hp;dsimp only at hk hcn htn hp1 hp2;subst hcn;subst htn;rcases hk with rfl;have hex: ¬Cd 5=[]:=by rw[B8 (by decide)];decide
 (conv=>whnf)
 (repeat' (first|(with_reducible refine Ap ?_)|(exact absurd (by with_reducible assumption) hex)|refine tuU ?_|split<;>rename_i hh<;>try simp only[wS] at hh)<;>conv=>whnf)
 refine⟨([]:List Coupon),Nat.zero_le _,?_,?_⟩
 ·exact Ac _
 (conv=>whnf)
 refine⟨([]:List Tax),Nat.zero_le _,?_,?_⟩
 ·exact Ac _
 (conv=>whnf)
 (repeat' (first|(with_reducible refine Ap ?_)|((with_reducible apply Bv);(focus rfl);(focus rfl))|((with_reducible apply Bs);(focus rfl);(focus rfl);(focus rfl))|exact tN|with_reducible refine iQ ?_ ?_|refine tuU ?_|split<;>rename_i hh<;>try simp only[wS] at hh|with_reducible refine lnI fun hln=>?_)<;>conv=>whnf)
 all_goals try(show _=_;simp only[wQ])
 ·exfalso;simp only[Bool.and_eq_true,Br,List.length_nil] at hh;omega
 ·symm;refine Bool.eq_false_iff.2 fun hm=>?_;rw[Np] at hm;exact Wh (m:=4) (by simp only[hm])
end
end Go.Vc.Z
