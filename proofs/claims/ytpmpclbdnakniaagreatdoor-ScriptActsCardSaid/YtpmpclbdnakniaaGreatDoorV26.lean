/- request.May, of the kind exchange. -/
import Derived.Test.YtpmpclbdnakniaaGreatDoorV25
set_option linter.all false
set_option linter.unusedVariables false
set_option linter.unusedSimpArgs false
namespace Go.Vc.Z
open Go Go.Vc Go.Proofs Go.RowKit Go.Pl Go.Lib
noncomputable section
set_option maxRecDepth 100000
attribute [local irreducible] inK Utf8.decode Utf8.encode Lib.itoa Pl.worth Pl.allDig
attribute [local irreducible] Lib.join
def Ao0:PC:=PC.of (fun r:Request=>[.agg r.enc]) (fun r=>(r.kind=5)∧¬r.coupons.length=0∧¬r.taxes.length=0∧Fy r) (fun r=>.bool (sB (Af r)))
def iI(r:Request):List AV→List Blk→Nat→Option LR:=fun cs H i=>cond (Nat.beq i 0) (some (.order [0,1,2,3,4,5,6,7,8,9,10,11,12,13,14,15,16,17,18])) (cond (Nat.beq i 6) (some (.order [0,1,2,3,4,5,6,7,8,9,10,11,12,13,14,15])) ((fun cs H i=>cond (Nat.beq i 2) (some (.inv (Aoq (gP5 r) 4 r cs H))) none) cs H i))
def tE(r:Request):List (FuncId × Ctr):=(277,inl TY (Qn) Aj (fun _=>false) (iI r) Tryz.f277)::Zw
def tF(r:Request):FuncId→Option Ctr:=Az Aj (tE r)
def iJ(r:Request):List AV→List Blk→Nat→Option LR:=fun cs H i=>cond (Nat.beq i 0) (some (.order [0,1,2,3,4,5,6,7,8,9,10,11,12,13,14,15,16,17])) ((fun cs H i=>cond (Nat.beq i 3) (some (.inv (Aor (lcB (gP5 r) 4 r.coupons r.coupons.length) r cs H))) none) cs H i)
def tG(r:Request):List (FuncId × Ctr):=(229,inl TY (tF r) Aj (fun _=>false) (iJ r) Tryz.f229)::tE r
def tH(r:Request):FuncId→Option Ctr:=Az Aj (tG r)
def tI(r:Request):List (FuncId × Ctr):=(228,inl TY (tH r) Aj (fun _=>false) (fun _ _ _=>none) Tryz.f228)::tG r
def tJ(r:Request):FuncId→Option Ctr:=Az Aj (tI r)
def tM(r:Request):List (FuncId × Ctr):=(234,inl TY (tJ r) Aj (fun _=>false) (fun _ _ _=>none) Tryz.f234)::tI r
def tN(r:Request):FuncId→Option Ctr:=Az Aj (tM r)
def tP(r:Request):List (FuncId × Ctr):=(164,inl TY (tN r) Aj (fun _=>false) (fun _ _ _=>none) Tryz.f164)::tM r
def tQ(r:Request):FuncId→Option Ctr:=Az Aj (tP r)
def iM(r:Request):List AV→List Blk→Nat→Option LR:=fun _ _ i=>cond (Nat.beq i 2) (some (.unroll 7)) none
def Aje(r:Request):List (FuncId × Ctr):=(141,inl TY (tQ r) Aj (fun _=>false) (iM r) Tryz.f141)::tP r
def tR(r:Request):FuncId→Option Ctr:=Az Aj (Aje r)
set_option maxHeartbeats 4000000 in
theorem Ao1{W:World}(hW:Tabs W):GoodP (Fw W) Tryz.prog 71 Ao0:=by
 have hD:=Cd hW
 have hC18:∀ r:Request,Ad (Fw W) Tryz.prog Qn:=fun r=>(qO hW)
 have hC19:∀ r:Request,Ad (Fw W) Tryz.prog (tF r):=fun r=>Ae Tryz.call277 (Ag rfl Ao hD (hC18 r) Tryz.func277 (iI r)) (hC18 r)
 have hC20:∀ r:Request,Ad (Fw W) Tryz.prog (tH r):=fun r=>Ae Tryz.call229 (Ag rfl Ao hD (hC19 r) Tryz.func229 (iJ r)) (hC19 r)
 have hC21:∀ r:Request,Ad (Fw W) Tryz.prog (tJ r):=fun r=>Ae Tryz.call228 (Ag rfl Ao hD (hC20 r) Tryz.func228 (fun _ _ _=>none)) (hC20 r)
 have hC22:∀ r:Request,Ad (Fw W) Tryz.prog (tN r):=fun r=>Ae Tryz.call234 (Ag rfl Ao hD (hC21 r) Tryz.func234 (fun _ _ _=>none)) (hC21 r)
 have hC23:∀ r:Request,Ad (Fw W) Tryz.prog (tQ r):=fun r=>Ae Tryz.call164 (Ag rfl Ao hD (hC22 r) Tryz.func164 (fun _ _ _=>none)) (hC22 r)
 have hC24:∀ r:Request,Ad (Fw W) Tryz.prog (tR r):=fun r=>Ae Tryz.call141 (Ag rfl Ao hD (hC23 r) Tryz.func141 (iM r)) (hC23 r)
 refine As (D:=Aj) (C:=fun r=>tR r) (wr:=(fun _=>false)) rfl Ao hD hC24 Tryz.func71 (fun _ _=>none) (fun _=>rfl) ?_
 rintro⟨key,kind,day,ticket,coupon,status,locator,coupons,taxes,amount,frm,til⟩ hf hp
 have hft:A0 [slE 2 Tax.enc taxes]:=⟨hf.1.2.2.2.2.2.2.2.2.1,True.intro⟩
 clear hf
 obtain⟨hk,hcn,htn,hp1,hp2⟩:=hp
 dsimp only at hk hcn htn hp1 hp2
 rcases hk with rfl
 have hex: ¬Ci 5=[]:=by rw[Ce (by decide)];decide
 have hca: ¬0+coupons.length≤0:=by omega
 have hta: ¬0+taxes.length≤0:=by omega
 (conv=>whnf)
 (repeat' ((first
  |(with_reducible refine Ar ?_)
  |(exact absurd (by with_reducible assumption) hex)
  |(exact absurd (by with_reducible assumption) hcn)
  |(exact absurd (by with_reducible assumption) htn)
  |(exact absurd (by with_reducible assumption) hca)
  |(exact absurd (by with_reducible assumption) hta)
  |((with_reducible apply B8);(focus rfl);(focus rfl))
  |((with_reducible apply B6);(focus rfl);(focus rfl);(focus rfl))
  |((refine⟨rfl,_,?_,rfl⟩);(try simp only[Bh,Cm,Bt,cond_true,cond_false,Bool.true_and,Bool.and_false,Bool.false_and,List.length_nil])<;>first|rfl|exact C9 (by omega)|exact Da (by omega)|exact Db (by omega)|(rename_i hh;(try simp only[List.length_nil] at hh);first|(rw[hh];first|rfl|(simp;done))|(rw[hh.1,hh.2];first|rfl|(simp;done))|(simp[hh];done)|(rcases hh with hh|hh<;>first|(rw[hh];first|rfl|(simp;done))|(simp[hh];done))))
  |with_reducible refine iQ ?_ ?_
  |((with_reducible refine aI ?_ ?_);focus (first|with_reducible exact⟨⟩|exact tO|((with_reducible show okQ _ _=true);rfl)|omega|exact tK|(simp only[Ap,ty2,ty3,ty4,ty5,ty9,Cu,Ck,Cv,Cl,Cq,Cw,Cx,Cy,Bm,Bl,Bn,Bo,Bp,Bq,Br];first|omega|(refine⟨?_,?_⟩<;>omega))))
  |(split<;>rename_i hh<;>(try simp only[wS] at hh))
  |with_reducible refine lnI fun hln=>?_
  |fail)<;>(conv=>whnf)))
 refine⟨?_,fun(i:Nat) (hi:i≤coupons.length)=>?_⟩
 ·(conv=>whnf)
  refine⟨(0:Nat),[],?_,⟨⟨rfl,(nB rfl),rfl⟩,?_,?_⟩⟩
  ·exact Nat.zero_le _
  ·exact tL
  ·(conv=>whnf)
   (repeat' ((first|with_reducible exact⟨⟩|((with_reducible refine Or.inr ?_);rfl)|((with_reducible refine aI ?_ ?_);focus (exact tA))|with_reducible refine iA ?_ ?_|with_reducible refine iL ?_ ?_|with_reducible refine iB ?_ ?_|fail)<;>(conv=>whnf)))
   all_goals (try simp only[wQ])
   all_goals (try first|omega|rfl|exact⟨fun h=>h,fun _ _=>True.intro⟩)
   all_goals (try first|exact fun _ _=>⟨True.intro,rfl⟩)
   ·intro e he
    refine⟨?_,rfl⟩
    show B9 0 _ _ e=_
    unfold B9
    rw[if_neg (by omega),Nat.sub_zero]
    simp only[nI,O2]
   ·rw[X8,Nat.zero_add];unfold gP5;rfl
   ·intro e he
    rcases(by omega:e=0∨e=1∨e=2∨e=3∨e=4∨e=5) with rfl|rfl|rfl|rfl|rfl|rfl<;>exact⟨True.intro,rfl⟩
 ·(conv=>whnf)
  (repeat' ((first
   |(with_reducible refine Ar ?_)
   |((with_reducible apply B8);(focus rfl);(focus rfl))
   |((with_reducible apply B6);(focus rfl);(focus rfl);(focus rfl))
   |((with_reducible apply En);(focus rfl);(focus rfl);(focus rfl))
   |(refine Oq ?_)
   |((refine⟨rfl,_,?_,rfl⟩);(try simp only[Bh,Cm,Bt,cond_true,cond_false,Bool.true_and,Bool.and_false,Bool.false_and,List.length_nil])<;>first|rfl|exact C9 (by omega)|exact Da (by omega)|exact Db (by omega)|(rename_i hh;(try simp only[List.length_nil] at hh);first|(rw[hh];first|rfl|(simp;done))|(rw[hh.1,hh.2];first|rfl|(simp;done))|(simp[hh];done)|(rcases hh with hh|hh<;>first|(rw[hh];first|rfl|(simp;done))|(simp[hh];done))))
   |with_reducible refine iQ ?_ ?_
   |((with_reducible refine aI ?_ ?_);focus (first|((with_reducible show okQ _ _=true);rfl)|omega|exact tK))
   |(split<;>rename_i hh<;>(try simp only[wS] at hh))
   |with_reducible refine lnI fun hln=>?_
   |fail)<;>(conv=>whnf)))
  ·(conv=>whnf)
   refine⟨(i+1:Nat),[],?_,⟨⟨rfl,(nB rfl),rfl⟩,?_,?_⟩⟩
   ·exact⟨show i+1≤coupons.length by omega,show coupons.length - (i+1)<coupons.length - i by omega⟩
   ·exact tL
   ·(conv=>whnf)
    (repeat' ((first|with_reducible exact⟨⟩|((with_reducible refine Or.inr ?_);rfl)|((with_reducible refine aI ?_ ?_);focus (exact tA))|with_reducible refine iA ?_ ?_|with_reducible refine iL ?_ ?_|with_reducible refine iB ?_ ?_|fail)<;>(conv=>whnf)))
    all_goals (try simp only[wQ])
    all_goals (try first|omega|rfl|exact⟨fun h=>h,fun _ _=>True.intro⟩)
    all_goals (try first|exact fun _ _=>⟨True.intro,rfl⟩)
    ·intro e he
     refine⟨?_,rfl⟩
     simp only[D2,decide_true,if_true,decide_eq_true_eq]
     by_cases h1:e=i
     ·subst h1
      simp only[if_pos (show e=0+Int.toNat (e:Int) by omega)]
      rw[cW];simp only[Nat.zero_add,Int.toNat_natCast];rfl
     ·simp only[if_neg (show¬e=0+Int.toNat (i:Int) by omega)]
      rw[cV h1]
    ·rw[Yb (by omega),Bool.eq_iff_iff]
     simp only[Bool.and_eq_true,B0,Rj,beq_iff_eq,Wv,decide_true,if_true,Jc (Nat.le_refl i),Nat.zero_add,Int.toNat_natCast,true_and,and_assoc,cond_true,cond_false]
    ·intro e he
     rcases(by omega:e=0∨e=1∨e=2∨e=3∨e=4∨e=5) with rfl|rfl|rfl|rfl|rfl|rfl<;>exact⟨True.intro,rfl⟩
  ·obtain rfl:i=coupons.length:=by omega
   refine⟨?_,fun(k:Nat) (hk:k≤taxes.length)=>?_⟩
   ·(conv=>whnf)
    refine⟨(0:Nat),[],?_,⟨⟨rfl,(nB rfl),rfl⟩,?_,?_⟩⟩
    ·exact Nat.zero_le _
    ·(conv=>whnf)
     (repeat' ((first|with_reducible exact⟨⟩|((with_reducible refine aI ?_ ?_);focus (exact tA))|with_reducible refine iA ?_ ?_|fail)<;>(conv=>whnf)))
     all_goals (try simp only[wQ])
     all_goals (try first|omega)
     all_goals exact(O5 _).symm
    ·(conv=>whnf)
     (repeat' ((first|with_reducible exact⟨⟩|((with_reducible refine Or.inr ?_);rfl)|((with_reducible refine aI ?_ ?_);focus (exact tA))|with_reducible refine iA ?_ ?_|with_reducible refine iL ?_ ?_|with_reducible refine iB ?_ ?_|fail)<;>(conv=>whnf)))
     all_goals (try simp only[wQ])
     all_goals (try first|omega|rfl|exact⟨fun h=>h,fun _ _=>True.intro⟩)
     all_goals (try first|exact fun _ _=>⟨True.intro,rfl⟩)
     ·intro e he
      refine⟨?_,rfl⟩
      show B9 0 _ _ e=_
      unfold B9
      rw[if_neg (by omega),Nat.sub_zero]
      simp only[nJ,O2]
     ·rw[X9,Nat.zero_add]
     ·intro e he
      rcases(by omega:e=0∨e=1∨e=2∨e=3∨e=4∨e=5) with rfl|rfl|rfl|rfl|rfl|rfl<;>exact⟨True.intro,rfl⟩
   ·have hfin:taxes.length≤k→ltB (lcB (gP5 ⟨key,5,day,ticket,coupon,status,locator,coupons,taxes,amount,frm,til⟩) 4 coupons coupons.length) taxes k=(gP5 ⟨key,5,day,ticket,coupon,status,locator,coupons,taxes,amount,frm,til⟩&&Fh 4 coupons&&Dg taxes):=fun h=>by
     obtain rfl:k=taxes.length:=by omega
     rw[Ya,Qm]
    have hcode:k<taxes.length→ -9223372036854775808≤fz k (0+Int.toNat (k:Int)) (taxes.getD (0+Int.toNat (k:Int)) default).code:=fun h=>by
     rw[Jc (by omega),Nat.zero_add];exact Yc hft h
    have hfz:fz k (0+Int.toNat (k:Int)) (taxes.getD (0+Int.toNat (k:Int)) default).code=(taxes.getD k default).code:=by
     rw[Jc (by omega),Nat.zero_add];rfl
    (conv=>whnf)
    (repeat' ((first
     |(with_reducible refine Ar ?_)
     |(exact absurd (by with_reducible assumption) Bool.false_ne_true)
     |((with_reducible apply B8);(focus rfl);(focus rfl))
     |((with_reducible apply B6);(focus rfl);(focus rfl);(focus rfl))
     |((with_reducible apply En);(focus rfl);(focus rfl);(focus rfl))
     |((refine⟨rfl,_,?_,rfl⟩);(try simp only[Bh,Cm,Bt,cond_true,cond_false,Bool.true_and,Bool.and_false,Bool.false_and,List.length_nil])<;>first|rfl|exact C9 (by omega)|exact Da (by omega)|exact Db (by omega)|(rename_i hh;(try simp only[List.length_nil] at hh);first|(rw[hh];first|rfl|(simp;done))|(rw[hh.1,hh.2];first|rfl|(simp;done))|(simp[hh];done)|(rcases hh with hh|hh<;>first|(rw[hh];first|rfl|(simp;done))|(simp[hh];done))))
     |((with_reducible refine aI ?_ ?_);focus (first|exact tO|exact tK))
     |(split<;>rename_i hh<;>(try simp only[wS] at hh))
     |fail)<;>(conv=>whnf)))
    all_goals (try (show _=_;simp only[wQ]))
    ·(conv=>whnf)
     refine⟨(k+1:Nat),[],?_,⟨⟨rfl,(nB rfl),rfl⟩,?_,?_⟩⟩
     ·exact⟨show k+1≤taxes.length by omega,show taxes.length - (k+1)<taxes.length - k by omega⟩
     ·(conv=>whnf)
      (repeat' ((first|with_reducible exact⟨⟩|((with_reducible refine aI ?_ ?_);focus (exact tA))|with_reducible refine iA ?_ ?_|fail)<;>(conv=>whnf)))
      all_goals (try simp only[wQ])
      all_goals (try first|omega)
      all_goals (unfold Iy;rw[if_neg (by omega),Nat.add_sub_cancel];split<;>omega)
     ·(conv=>whnf)
      (repeat' ((first|with_reducible exact⟨⟩|((with_reducible refine Or.inr ?_);rfl)|((with_reducible refine aI ?_ ?_);focus (exact tA))|with_reducible refine iA ?_ ?_|with_reducible refine iL ?_ ?_|with_reducible refine iB ?_ ?_|fail)<;>(conv=>whnf)))
      all_goals (try simp only[wQ])
      all_goals (try first|omega|rfl|exact⟨fun h=>h,fun _ _=>True.intro⟩)
      all_goals (try first|exact fun _ _=>⟨True.intro,rfl⟩)
      ·intro e he
       refine⟨?_,rfl⟩
       simp only[D2,decide_true,if_true,decide_eq_true_eq]
       by_cases h1:e=k
       ·subst h1
        simp only[if_pos (show e=0+Int.toNat (e:Int) by omega)]
        rw[O4];simp only[Nat.zero_add,Int.toNat_natCast];rfl
       ·simp only[if_neg (show¬e=0+Int.toNat (k:Int) by omega)]
        rw[O3 h1]
      ·rw[Lj (by omega),Bool.eq_iff_iff]
       unfold Di
       simp only[Bool.and_eq_true,B0,decide_eq_true_eq,Wv,decide_true,if_true,Jc (Nat.le_refl k),Nat.zero_add,Int.toNat_natCast,true_and,and_assoc,cond_true,cond_false]
      ·intro e he
       rcases(by omega:e=0∨e=1∨e=2∨e=3∨e=4∨e=5) with rfl|rfl|rfl|rfl|rfl|rfl<;>exact⟨True.intro,rfl⟩
    ·(conv=>whnf)
     refine⟨(k+1:Nat),[],?_,⟨⟨rfl,(nB rfl),rfl⟩,?_,?_⟩⟩
     ·exact⟨show k+1≤taxes.length by omega,show taxes.length - (k+1)<taxes.length - k by omega⟩
     ·(conv=>whnf)
      (repeat' ((first|with_reducible exact⟨⟩|((with_reducible refine aI ?_ ?_);focus (exact tA))|with_reducible refine iA ?_ ?_|fail)<;>(conv=>whnf)))
      all_goals (try simp only[wQ])
      all_goals (try first|omega)
      all_goals (unfold Iy;rw[if_neg (by omega),Nat.add_sub_cancel];split<;>omega)
     ·(conv=>whnf)
      (repeat' ((first|with_reducible exact⟨⟩|((with_reducible refine Or.inr ?_);rfl)|((with_reducible refine aI ?_ ?_);focus (exact tA))|with_reducible refine iA ?_ ?_|with_reducible refine iL ?_ ?_|with_reducible refine iB ?_ ?_|fail)<;>(conv=>whnf)))
      all_goals (try simp only[wQ])
      all_goals (try first|omega|rfl|exact⟨fun h=>h,fun _ _=>True.intro⟩)
      all_goals (try first|exact fun _ _=>⟨True.intro,rfl⟩)
      ·intro e he
       refine⟨?_,rfl⟩
       simp only[D2,decide_true,if_true,decide_eq_true_eq]
       by_cases h1:e=k
       ·subst h1
        simp only[if_pos (show e=0+Int.toNat (e:Int) by omega)]
        rw[O4];simp only[Nat.zero_add,Int.toNat_natCast];rfl
       ·simp only[if_neg (show¬e=0+Int.toNat (k:Int) by omega)]
        rw[O3 h1]
      ·rw[Lj (by omega),Bool.eq_iff_iff]
       unfold Di
       simp only[Bool.and_eq_true,B0,decide_eq_true_eq,Wv,decide_true,if_true,Jc (Nat.le_refl k),Nat.zero_add,Int.toNat_natCast,true_and,and_assoc,cond_true,cond_false]
      ·intro e he
       rcases(by omega:e=0∨e=1∨e=2∨e=3∨e=4∨e=5) with rfl|rfl|rfl|rfl|rfl|rfl<;>exact⟨True.intro,rfl⟩
    ·refine⟨((⟨[],5,0,0,coupon,status,locator,[],[],0,frm,til⟩,⟨[],5,0,0,0,0,[],[],[],0,0,0⟩):Request × Request),True.intro,?_,?_⟩
     ·exact tL
     (conv=>whnf)
     all_goals (try (show _=_;simp only[wQ]))
     rw[cond_true,Bool.eq_iff_iff,Ba,Mo]
     rw[hfin (by omega)] at hh
     simp only[Bool.and_eq_true,cY,Request.mk.injEq,true_and,and_true] at hh ⊢
     exact⟨fun h=>by simp_all,fun h=>by simp_all⟩
    ·symm
     refine Bool.eq_false_iff.2 fun hm=>?_
     rw[Mo] at hm
     rw[hfin (by omega)] at hh
     refine absurd hh ?_
     rw[Bool.not_eq_false]
     simp only[Bool.and_eq_true,cY]
     simp_all
def Ao2:PC:=PC.of (fun r:Request=>[.agg r.enc]) (fun r=>(r.kind=5)∧¬r.coupons.length=0∧r.taxes=[]∧Fy r) (fun r=>.bool (sB (Af r)))
def iO(r:Request):List AV→List Blk→Nat→Option LR:=fun cs H i=>cond (Nat.beq i 0) (some (.order [0,1,2,3,4,5,6,7,8,9,10,11,12,13,14,15,16,17,18])) (cond (Nat.beq i 6) (some (.order [0,1,2,3,4,5,6,7,8,9,10,11,12,13,14,15])) ((fun cs H i=>cond (Nat.beq i 2) (some (.inv (Aoq (gP5 r) 4 r cs H))) none) cs H i))
def tS(r:Request):List (FuncId × Ctr):=(277,inl TY (Qo) Aj (fun _=>false) (iO r) Tryz.f277)::Zx
def tT(r:Request):FuncId→Option Ctr:=Az Aj (tS r)
def tU(r:Request):List (FuncId × Ctr):=(228,inl TY (tT r) Aj (fun _=>false) (fun _ _ _=>none) Tryz.f228)::tS r
def tV(r:Request):FuncId→Option Ctr:=Az Aj (tU r)
def tW(r:Request):List (FuncId × Ctr):=(234,inl TY (tV r) Aj (fun _=>false) (fun _ _ _=>none) Tryz.f234)::tU r
def tX(r:Request):FuncId→Option Ctr:=Az Aj (tW r)
def tY(r:Request):List (FuncId × Ctr):=(164,inl TY (tX r) Aj (fun _=>false) (fun _ _ _=>none) Tryz.f164)::tW r
def tZ(r:Request):FuncId→Option Ctr:=Az Aj (tY r)
def iP(r:Request):List AV→List Blk→Nat→Option LR:=fun _ _ i=>cond (Nat.beq i 2) (some (.unroll 7)) none
def Ajf(r:Request):List (FuncId × Ctr):=(141,inl TY (tZ r) Aj (fun _=>false) (iP r) Tryz.f141)::tY r
def uA(r:Request):FuncId→Option Ctr:=Az Aj (Ajf r)
set_option maxHeartbeats 4000000 in
theorem Ao3{W:World}(hW:Tabs W):GoodP (Fw W) Tryz.prog 71 Ao2:=by
 have hD:=Cd hW
 have hC18:∀ r:Request,Ad (Fw W) Tryz.prog Qo:=fun r=>(rD hW)
 have hC19:∀ r:Request,Ad (Fw W) Tryz.prog (tT r):=fun r=>Ae Tryz.call277 (Ag rfl Ao hD (hC18 r) Tryz.func277 (iO r)) (hC18 r)
 have hC20:∀ r:Request,Ad (Fw W) Tryz.prog (tV r):=fun r=>Ae Tryz.call228 (Ag rfl Ao hD (hC19 r) Tryz.func228 (fun _ _ _=>none)) (hC19 r)
 have hC21:∀ r:Request,Ad (Fw W) Tryz.prog (tX r):=fun r=>Ae Tryz.call234 (Ag rfl Ao hD (hC20 r) Tryz.func234 (fun _ _ _=>none)) (hC20 r)
 have hC22:∀ r:Request,Ad (Fw W) Tryz.prog (tZ r):=fun r=>Ae Tryz.call164 (Ag rfl Ao hD (hC21 r) Tryz.func164 (fun _ _ _=>none)) (hC21 r)
 have hC23:∀ r:Request,Ad (Fw W) Tryz.prog (uA r):=fun r=>Ae Tryz.call141 (Ag rfl Ao hD (hC22 r) Tryz.func141 (iP r)) (hC22 r)
 refine As (D:=Aj) (C:=fun r=>uA r) (wr:=(fun _=>false)) rfl Ao hD hC23 Tryz.func71 (fun _ _=>none) (fun _=>rfl) ?_
 rintro⟨key,kind,day,ticket,coupon,status,locator,coupons,taxes,amount,frm,til⟩ hf hp
 have hft:A0 [slE 2 Tax.enc taxes]:=⟨hf.1.2.2.2.2.2.2.2.2.1,True.intro⟩
 clear hf
 obtain⟨hk,hcn,htn,hp1,hp2⟩:=hp
 dsimp only at hk hcn htn hp1 hp2
 subst htn
 rcases hk with rfl
 have hex: ¬Ci 5=[]:=by rw[Ce (by decide)];decide
 have hca: ¬0+coupons.length≤0:=by omega
 (conv=>whnf)
 (repeat' ((first
  |(with_reducible refine Ar ?_)
  |(exact absurd (by with_reducible assumption) hex)
  |(exact absurd (by with_reducible assumption) hcn)
  |(exact absurd (by with_reducible assumption) hca)
  |with_reducible refine iQ ?_ ?_
  |((with_reducible refine aI ?_ ?_);focus (first|with_reducible exact⟨⟩|((with_reducible show okQ _ _=true);rfl)|(simp only[Ap,ty2,ty3,ty4,ty5,ty9,Cu,Ck,Cv,Cl,Cq,Cw,Cx,Cy,Bm,Bl,Bn,Bo,Bp,Bq,Br];first|omega|(refine⟨?_,?_⟩<;>omega))))
  |(split<;>rename_i hh<;>(try simp only[wS] at hh))
  |fail)<;>(conv=>whnf)))
 refine⟨([]:List Tax),Nat.zero_le _,?_,?_⟩
 ·exact Ac _
 (conv=>whnf)
 (repeat' ((first
  |(with_reducible refine Ar ?_)
  |((with_reducible apply B8);(focus rfl);(focus rfl))
  |((with_reducible apply B6);(focus rfl);(focus rfl);(focus rfl))
  |((refine⟨rfl,_,?_,rfl⟩);(try simp only[Bh,Cm,Bt,cond_true,cond_false,Bool.true_and,Bool.and_false,Bool.false_and,List.length_nil])<;>first|rfl|exact C9 (by omega)|exact Da (by omega)|exact Db (by omega)|(rename_i hh;(try simp only[List.length_nil] at hh);first|(rw[hh];first|rfl|(simp;done))|(rw[hh.1,hh.2];first|rfl|(simp;done))|(simp[hh];done)|(rcases hh with hh|hh<;>first|(rw[hh];first|rfl|(simp;done))|(simp[hh];done))))
  |with_reducible refine iQ ?_ ?_
  |((with_reducible refine aI ?_ ?_);focus (first|with_reducible exact⟨⟩|exact tO|((with_reducible show okQ _ _=true);rfl)|omega|exact tK))
  |(split<;>rename_i hh<;>(try simp only[wS] at hh))
  |with_reducible refine lnI fun hln=>?_
  |fail)<;>(conv=>whnf)))
 refine⟨?_,fun(i:Nat) (hi:i≤coupons.length)=>?_⟩
 ·(conv=>whnf)
  refine⟨(0:Nat),[],?_,⟨⟨rfl,(nB rfl),rfl⟩,?_,?_⟩⟩
  ·exact Nat.zero_le _
  ·exact tL
  ·(conv=>whnf)
   (repeat' ((first|with_reducible exact⟨⟩|((with_reducible refine Or.inr ?_);rfl)|((with_reducible refine aI ?_ ?_);focus (exact tA))|with_reducible refine iA ?_ ?_|with_reducible refine iL ?_ ?_|with_reducible refine iB ?_ ?_|fail)<;>(conv=>whnf)))
   all_goals (try simp only[wQ])
   all_goals (try first|omega|rfl|exact⟨fun h=>h,fun _ _=>True.intro⟩)
   ·intro e he
    refine⟨?_,rfl⟩
    show B9 0 _ _ e=_
    unfold B9
    rw[if_neg (by omega),Nat.sub_zero]
    simp only[nI,O2]
   ·rw[X8,Nat.zero_add];unfold gP5;rfl
   ·intro e he
    rcases(by omega:e=0∨e=1∨e=2∨e=3∨e=4∨e=5) with rfl|rfl|rfl|rfl|rfl|rfl<;>exact⟨True.intro,rfl⟩
 ·(conv=>whnf)
  (repeat' ((first
   |(with_reducible refine Ar ?_)
   |((with_reducible apply B8);(focus rfl);(focus rfl))
   |((with_reducible apply B6);(focus rfl);(focus rfl);(focus rfl))
   |((with_reducible apply En);(focus rfl);(focus rfl);(focus rfl))
   |(refine Oq ?_)
   |((refine⟨rfl,_,?_,rfl⟩);(try simp only[Bh,Cm,Bt,cond_true,cond_false,Bool.true_and,Bool.and_false,Bool.false_and,List.length_nil])<;>first|rfl|exact C9 (by omega)|exact Da (by omega)|exact Db (by omega)|(rename_i hh;(try simp only[List.length_nil] at hh);first|(rw[hh];first|rfl|(simp;done))|(rw[hh.1,hh.2];first|rfl|(simp;done))|(simp[hh];done)|(rcases hh with hh|hh<;>first|(rw[hh];first|rfl|(simp;done))|(simp[hh];done))))
   |with_reducible refine iQ ?_ ?_
   |((with_reducible refine aI ?_ ?_);focus (first|((with_reducible show okQ _ _=true);rfl)|omega|exact tK))
   |(split<;>rename_i hh<;>(try simp only[wS] at hh))
   |with_reducible refine lnI fun hln=>?_
   |fail)<;>(conv=>whnf)))
  all_goals (try (show _=_;simp only[wQ]))
  ·(conv=>whnf)
   refine⟨(i+1:Nat),[],?_,⟨⟨rfl,(nB rfl),rfl⟩,?_,?_⟩⟩
   ·exact⟨show i+1≤coupons.length by omega,show coupons.length - (i+1)<coupons.length - i by omega⟩
   ·exact tL
   ·(conv=>whnf)
    (repeat' ((first|with_reducible exact⟨⟩|((with_reducible refine Or.inr ?_);rfl)|((with_reducible refine aI ?_ ?_);focus (exact tA))|with_reducible refine iA ?_ ?_|with_reducible refine iL ?_ ?_|with_reducible refine iB ?_ ?_|fail)<;>(conv=>whnf)))
    all_goals (try simp only[wQ])
    all_goals (try first|omega|rfl|exact⟨fun h=>h,fun _ _=>True.intro⟩)
    ·intro e he
     refine⟨?_,rfl⟩
     simp only[D2,decide_true,if_true,decide_eq_true_eq]
     by_cases h1:e=i
     ·subst h1
      simp only[if_pos (show e=0+Int.toNat (e:Int) by omega)]
      rw[cW];simp only[Nat.zero_add,Int.toNat_natCast];rfl
     ·simp only[if_neg (show¬e=0+Int.toNat (i:Int) by omega)]
      rw[cV h1]
    ·rw[Yb (by omega),Bool.eq_iff_iff]
     simp only[Bool.and_eq_true,B0,Rj,beq_iff_eq,Wv,decide_true,if_true,Jc (Nat.le_refl i),Nat.zero_add,Int.toNat_natCast,true_and,and_assoc,cond_true,cond_false]
    ·intro e he
     rcases(by omega:e=0∨e=1∨e=2∨e=3∨e=4∨e=5) with rfl|rfl|rfl|rfl|rfl|rfl<;>exact⟨True.intro,rfl⟩
  ·obtain rfl:i=coupons.length:=by omega
   have hfin:Dp (lcB (gP5 ⟨key,5,day,ticket,coupon,status,locator,coupons,[],amount,frm,til⟩) 4 coupons coupons.length) 0 ([]:List Tax).length 4=(gP5 ⟨key,5,day,ticket,coupon,status,locator,coupons,[],amount,frm,til⟩&&Fh 4 coupons&&Dg []):=by
    rw[Qm,Rk,Bool.and_true,Bool.eq_iff_iff];simp[B0]
   refine⟨((⟨[],5,0,0,coupon,status,locator,[],[],0,frm,til⟩,⟨[],5,0,0,0,0,[],[],[],0,0,0⟩):Request × Request),True.intro,?_,?_⟩
   ·exact tL
   (conv=>whnf)
   all_goals (try (show _=_;simp only[wQ]))
   rw[cond_true,Bool.eq_iff_iff,Ba,Mo]
   rw[hfin] at hh
   simp only[Bool.and_eq_true,cY,Request.mk.injEq,true_and,and_true] at hh ⊢
   exact⟨fun h=>by simp_all,fun h=>by simp_all⟩
  ·obtain rfl:i=coupons.length:=by omega
   have hfin:Dp (lcB (gP5 ⟨key,5,day,ticket,coupon,status,locator,coupons,[],amount,frm,til⟩) 4 coupons coupons.length) 0 ([]:List Tax).length 4=(gP5 ⟨key,5,day,ticket,coupon,status,locator,coupons,[],amount,frm,til⟩&&Fh 4 coupons&&Dg []):=by
    rw[Qm,Rk,Bool.and_true,Bool.eq_iff_iff];simp[B0]
   symm
   refine Bool.eq_false_iff.2 fun hm=>?_
   rw[Mo] at hm
   rw[hfin] at hh
   refine absurd hh ?_
   rw[Bool.not_eq_false]
   simp only[Bool.and_eq_true,cY]
   simp_all
def Ao4:PC:=PC.of (fun r:Request=>[.agg r.enc]) (fun r=>(r.kind=5)∧r.coupons=[]∧¬r.taxes.length=0∧Fy r) (fun r=>.bool (sB (Af r)))
def iR(r:Request):List AV→List Blk→Nat→Option LR:=fun cs H i=>cond (Nat.beq i 0) (some (.order [0,1,2,3,4,5,6,7,8,9,10,11,12,13,14,15,16,17])) ((fun cs H i=>cond (Nat.beq i 3) (some (.inv (Aor (Dp (gP5 r) 1 0 4) r cs H))) none) cs H i)
def uB(r:Request):List (FuncId × Ctr):=(229,inl TY (Qp) Aj (fun _=>false) (iR r) Tryz.f229)::Zy
def uC(r:Request):FuncId→Option Ctr:=Az Aj (uB r)
def uD(r:Request):List (FuncId × Ctr):=(164,inl TY (uC r) Aj (fun _=>false) (fun _ _ _=>none) Tryz.f164)::uB r
def uE(r:Request):FuncId→Option Ctr:=Az Aj (uD r)
def iV(r:Request):List AV→List Blk→Nat→Option LR:=fun _ _ i=>cond (Nat.beq i 2) (some (.unroll 7)) none
def Ajg(r:Request):List (FuncId × Ctr):=(141,inl TY (uE r) Aj (fun _=>false) (iV r) Tryz.f141)::uD r
def uF(r:Request):FuncId→Option Ctr:=Az Aj (Ajg r)
set_option maxHeartbeats 4000000 in
theorem Ao5{W:World}(hW:Tabs W):GoodP (Fw W) Tryz.prog 71 Ao4:=by
 have hD:=Cd hW
 have hC20:∀ r:Request,Ad (Fw W) Tryz.prog Qp:=fun r=>(rZ hW)
 have hC21:∀ r:Request,Ad (Fw W) Tryz.prog (uC r):=fun r=>Ae Tryz.call229 (Ag rfl Ao hD (hC20 r) Tryz.func229 (iR r)) (hC20 r)
 have hC22:∀ r:Request,Ad (Fw W) Tryz.prog (uE r):=fun r=>Ae Tryz.call164 (Ag rfl Ao hD (hC21 r) Tryz.func164 (fun _ _ _=>none)) (hC21 r)
 have hC23:∀ r:Request,Ad (Fw W) Tryz.prog (uF r):=fun r=>Ae Tryz.call141 (Ag rfl Ao hD (hC22 r) Tryz.func141 (iV r)) (hC22 r)
 refine As (D:=Aj) (C:=fun r=>uF r) (wr:=(fun _=>false)) rfl Ao hD hC23 Tryz.func71 (fun _ _=>none) (fun _=>rfl) ?_
 rintro⟨key,kind,day,ticket,coupon,status,locator,coupons,taxes,amount,frm,til⟩ hf hp
 have hft:A0 [slE 2 Tax.enc taxes]:=⟨hf.1.2.2.2.2.2.2.2.2.1,True.intro⟩
 clear hf
 obtain⟨hk,hcn,htn,hp1,hp2⟩:=hp
 dsimp only at hk hcn htn hp1 hp2
 subst hcn
 rcases hk with rfl
 have hex: ¬Ci 5=[]:=by rw[Ce (by decide)];decide
 have hta: ¬0+taxes.length≤0:=by omega
 (conv=>whnf)
 (repeat' ((first
  |(with_reducible refine Ar ?_)
  |(exact absurd (by with_reducible assumption) hex)
  |((with_reducible refine aI ?_ ?_);focus (first|with_reducible exact⟨⟩|((with_reducible show okQ _ _=true);rfl)))
  |(split<;>rename_i hh<;>(try simp only[wS] at hh))
  |fail)<;>(conv=>whnf)))
 refine⟨([]:List Coupon),Nat.zero_le _,?_,?_⟩
 ·exact Ac _
 (conv=>whnf)
 (repeat' ((first
  |(with_reducible refine Ar ?_)
  |(exact absurd (by with_reducible assumption) htn)
  |(exact absurd (by with_reducible assumption) hta)
  |((with_reducible apply B8);(focus rfl);(focus rfl))
  |((with_reducible apply B6);(focus rfl);(focus rfl);(focus rfl))
  |((refine⟨rfl,_,?_,rfl⟩);(try simp only[Bh,Cm,Bt,cond_true,cond_false,Bool.true_and,Bool.and_false,Bool.false_and,List.length_nil])<;>first|rfl|exact C9 (by omega)|exact Da (by omega)|exact Db (by omega)|(rename_i hh;(try simp only[List.length_nil] at hh);first|(rw[hh];first|rfl|(simp;done))|(rw[hh.1,hh.2];first|rfl|(simp;done))|(simp[hh];done)|(rcases hh with hh|hh<;>first|(rw[hh];first|rfl|(simp;done))|(simp[hh];done))))
  |with_reducible refine iQ ?_ ?_
  |((with_reducible refine aI ?_ ?_);focus (first|with_reducible exact⟨⟩|exact tO|((with_reducible show okQ _ _=true);rfl)|omega|exact tK|(simp only[Ap,ty2,ty3,ty4,ty5,ty9,Cu,Ck,Cv,Cl,Cq,Cw,Cx,Cy,Bm,Bl,Bn,Bo,Bp,Bq,Br];first|omega|(refine⟨?_,?_⟩<;>omega))))
  |(split<;>rename_i hh<;>(try simp only[wS] at hh))
  |with_reducible refine lnI fun hln=>?_
  |fail)<;>(conv=>whnf)))
 refine⟨?_,fun(k:Nat) (hk:k≤taxes.length)=>?_⟩
 ·(conv=>whnf)
  refine⟨(0:Nat),[],?_,⟨⟨rfl,(nB rfl),rfl⟩,?_,?_⟩⟩
  ·exact Nat.zero_le _
  ·(conv=>whnf)
   (repeat' ((first|with_reducible exact⟨⟩|((with_reducible refine aI ?_ ?_);focus (exact tA))|with_reducible refine iA ?_ ?_|fail)<;>(conv=>whnf)))
   all_goals (try simp only[wQ])
   all_goals (try first|omega)
   all_goals exact(O5 _).symm
  ·(conv=>whnf)
   (repeat' ((first|with_reducible exact⟨⟩|((with_reducible refine Or.inr ?_);rfl)|((with_reducible refine aI ?_ ?_);focus (exact tA))|with_reducible refine iA ?_ ?_|with_reducible refine iL ?_ ?_|with_reducible refine iB ?_ ?_|fail)<;>(conv=>whnf)))
   all_goals (try simp only[wQ])
   all_goals (try first|omega|rfl|exact⟨fun h=>h,fun _ _=>True.intro⟩)
   ·intro e he
    refine⟨?_,rfl⟩
    show B9 0 _ _ e=_
    unfold B9
    rw[if_neg (by omega),Nat.sub_zero]
    simp only[nJ,O2]
   ·rw[X9,Nat.zero_add];unfold gP5;rfl
   ·intro e he
    rcases(by omega:e=0∨e=1∨e=2∨e=3∨e=4∨e=5) with rfl|rfl|rfl|rfl|rfl|rfl<;>exact⟨True.intro,rfl⟩
 ·have hfin:taxes.length≤k→ltB (Dp (gP5 ⟨key,5,day,ticket,coupon,status,locator,[],taxes,amount,frm,til⟩) 1 0 4) taxes k=((Dp (gP5 ⟨key,5,day,ticket,coupon,status,locator,[],taxes,amount,frm,til⟩) 1 0 4)&&Dg taxes):=fun h=>by
   obtain rfl:k=taxes.length:=by omega
   rw[Ya]
  have hcode:k<taxes.length→ -9223372036854775808≤fz k (0+Int.toNat (k:Int)) (taxes.getD (0+Int.toNat (k:Int)) default).code:=fun h=>by
   rw[Jc (by omega),Nat.zero_add];exact Yc hft h
  have hfz:fz k (0+Int.toNat (k:Int)) (taxes.getD (0+Int.toNat (k:Int)) default).code=(taxes.getD k default).code:=by
   rw[Jc (by omega),Nat.zero_add];rfl
  (conv=>whnf)
  (repeat' ((first
   |(with_reducible refine Ar ?_)
   |(exact absurd (by with_reducible assumption) Bool.false_ne_true)
   |((with_reducible apply B8);(focus rfl);(focus rfl))
   |((with_reducible apply B6);(focus rfl);(focus rfl);(focus rfl))
   |((with_reducible apply En);(focus rfl);(focus rfl);(focus rfl))
   |((refine⟨rfl,_,?_,rfl⟩);(try simp only[Bh,Cm,Bt,cond_true,cond_false,Bool.true_and,Bool.and_false,Bool.false_and,List.length_nil])<;>first|rfl|exact C9 (by omega)|exact Da (by omega)|exact Db (by omega)|(rename_i hh;(try simp only[List.length_nil] at hh);first|(rw[hh];first|rfl|(simp;done))|(rw[hh.1,hh.2];first|rfl|(simp;done))|(simp[hh];done)|(rcases hh with hh|hh<;>first|(rw[hh];first|rfl|(simp;done))|(simp[hh];done))))
   |((with_reducible refine aI ?_ ?_);focus (first|exact tO|exact tK))
   |(split<;>rename_i hh<;>(try simp only[wS] at hh))
   |fail)<;>(conv=>whnf)))
  all_goals (try (show _=_;simp only[wQ]))
  ·(conv=>whnf)
   refine⟨(k+1:Nat),[],?_,⟨⟨rfl,(nB rfl),rfl⟩,?_,?_⟩⟩
   ·exact⟨show k+1≤taxes.length by omega,show taxes.length - (k+1)<taxes.length - k by omega⟩
   ·(conv=>whnf)
    (repeat' ((first|with_reducible exact⟨⟩|((with_reducible refine aI ?_ ?_);focus (exact tA))|with_reducible refine iA ?_ ?_|fail)<;>(conv=>whnf)))
    all_goals (try simp only[wQ])
    all_goals (try first|omega)
    all_goals (unfold Iy;rw[if_neg (by omega),Nat.add_sub_cancel];split<;>omega)
   ·(conv=>whnf)
    (repeat' ((first|with_reducible exact⟨⟩|((with_reducible refine Or.inr ?_);rfl)|((with_reducible refine aI ?_ ?_);focus (exact tA))|with_reducible refine iA ?_ ?_|with_reducible refine iL ?_ ?_|with_reducible refine iB ?_ ?_|fail)<;>(conv=>whnf)))
    all_goals (try simp only[wQ])
    all_goals (try first|omega|rfl|exact⟨fun h=>h,fun _ _=>True.intro⟩)
    ·intro e he
     refine⟨?_,rfl⟩
     simp only[D2,decide_true,if_true,decide_eq_true_eq]
     by_cases h1:e=k
     ·subst h1
      simp only[if_pos (show e=0+Int.toNat (e:Int) by omega)]
      rw[O4];simp only[Nat.zero_add,Int.toNat_natCast];rfl
     ·simp only[if_neg (show¬e=0+Int.toNat (k:Int) by omega)]
      rw[O3 h1]
    ·rw[Lj (by omega),Bool.eq_iff_iff]
     unfold Di
     simp only[Bool.and_eq_true,B0,decide_eq_true_eq,Wv,decide_true,if_true,Jc (Nat.le_refl k),Nat.zero_add,Int.toNat_natCast,true_and,and_assoc,cond_true,cond_false]
    ·intro e he
     rcases(by omega:e=0∨e=1∨e=2∨e=3∨e=4∨e=5) with rfl|rfl|rfl|rfl|rfl|rfl<;>exact⟨True.intro,rfl⟩
  ·(conv=>whnf)
   refine⟨(k+1:Nat),[],?_,⟨⟨rfl,(nB rfl),rfl⟩,?_,?_⟩⟩
   ·exact⟨show k+1≤taxes.length by omega,show taxes.length - (k+1)<taxes.length - k by omega⟩
   ·(conv=>whnf)
    (repeat' ((first|with_reducible exact⟨⟩|((with_reducible refine aI ?_ ?_);focus (exact tA))|with_reducible refine iA ?_ ?_|fail)<;>(conv=>whnf)))
    all_goals (try simp only[wQ])
    all_goals (try first|omega)
    all_goals (unfold Iy;rw[if_neg (by omega),Nat.add_sub_cancel];split<;>omega)
   ·(conv=>whnf)
    (repeat' ((first|with_reducible exact⟨⟩|((with_reducible refine Or.inr ?_);rfl)|((with_reducible refine aI ?_ ?_);focus (exact tA))|with_reducible refine iA ?_ ?_|with_reducible refine iL ?_ ?_|with_reducible refine iB ?_ ?_|fail)<;>(conv=>whnf)))
    all_goals (try simp only[wQ])
    all_goals (try first|omega|rfl|exact⟨fun h=>h,fun _ _=>True.intro⟩)
    ·intro e he
     refine⟨?_,rfl⟩
     simp only[D2,decide_true,if_true,decide_eq_true_eq]
     by_cases h1:e=k
     ·subst h1
      simp only[if_pos (show e=0+Int.toNat (e:Int) by omega)]
      rw[O4];simp only[Nat.zero_add,Int.toNat_natCast];rfl
     ·simp only[if_neg (show¬e=0+Int.toNat (k:Int) by omega)]
      rw[O3 h1]
    ·rw[Lj (by omega),Bool.eq_iff_iff]
     unfold Di
     simp only[Bool.and_eq_true,B0,decide_eq_true_eq,Wv,decide_true,if_true,Jc (Nat.le_refl k),Nat.zero_add,Int.toNat_natCast,true_and,and_assoc,cond_true,cond_false]
    ·intro e he
     rcases(by omega:e=0∨e=1∨e=2∨e=3∨e=4∨e=5) with rfl|rfl|rfl|rfl|rfl|rfl<;>exact⟨True.intro,rfl⟩
  ·exfalso
   rw[hfin (by omega)] at hh
   simp only[Bool.and_eq_true,B0,List.length_nil] at hh
   omega
  ·symm
   refine Bool.eq_false_iff.2 fun hm=>?_
   rw[Mo] at hm
   exact Un (m:=4) (by simp only[hm])
def Ao6:PC:=PC.of (fun r:Request=>[.agg r.enc]) (fun r=>(r.kind=5)∧r.coupons=[]∧r.taxes=[]∧Fy r) (fun r=>.bool (sB (Af r)))
set_option maxHeartbeats 4000000 in
theorem Ao7{W:World}(hW:Tabs W):GoodP (Fw W) Tryz.prog 71 Ao6:=by
 have hD:=Cd hW
 have hC0:∀ r:Request,Ad (Fw W) Tryz.prog Qq:=fun r=>(tD hW)
 refine As (D:=Aj) (C:=fun r=>Qq) (wr:=(fun _=>false)) rfl Ao hD hC0 Tryz.func71 (fun _ _=>none) (fun _=>rfl) ?_
 rintro⟨key,kind,day,ticket,coupon,status,locator,coupons,taxes,amount,frm,til⟩ hf hp
 have hft:A0 [slE 2 Tax.enc taxes]:=⟨hf.1.2.2.2.2.2.2.2.2.1,True.intro⟩
 clear hf
 obtain⟨hk,hcn,htn,hp1,hp2⟩:=hp
 dsimp only at hk hcn htn hp1 hp2
 subst hcn
 subst htn
 rcases hk with rfl
 have hex: ¬Ci 5=[]:=by rw[Ce (by decide)];decide
 (conv=>whnf)
 (repeat' ((first
  |(with_reducible refine Ar ?_)
  |(exact absurd (by with_reducible assumption) hex)
  |((with_reducible refine aI ?_ ?_);focus (with_reducible exact⟨⟩))
  |(split<;>rename_i hh<;>(try simp only[wS] at hh))
  |fail)<;>(conv=>whnf)))
 refine⟨([]:List Coupon),Nat.zero_le _,?_,?_⟩
 ·exact Ac _
 (conv=>whnf)
 refine⟨([]:List Tax),Nat.zero_le _,?_,?_⟩
 ·exact Ac _
 (conv=>whnf)
 (repeat' ((first
  |(with_reducible refine Ar ?_)
  |((with_reducible apply B8);(focus rfl);(focus rfl))
  |((with_reducible apply B6);(focus rfl);(focus rfl);(focus rfl))
  |((refine⟨rfl,_,?_,rfl⟩);(try simp only[Bh,Cm,Bt,cond_true,cond_false,Bool.true_and,Bool.and_false,Bool.false_and,List.length_nil])<;>first|rfl|exact C9 (by omega)|exact Da (by omega)|exact Db (by omega)|(rename_i hh;(try simp only[List.length_nil] at hh);first|(rw[hh];first|rfl|(simp;done))|(rw[hh.1,hh.2];first|rfl|(simp;done))|(simp[hh];done)|(rcases hh with hh|hh<;>first|(rw[hh];first|rfl|(simp;done))|(simp[hh];done))))
  |with_reducible refine iQ ?_ ?_
  |((with_reducible refine aI ?_ ?_);focus (first|with_reducible exact⟨⟩|exact tO|((with_reducible show okQ _ _=true);rfl)|omega|exact tK))
  |(split<;>rename_i hh<;>(try simp only[wS] at hh))
  |with_reducible refine lnI fun hln=>?_
  |fail)<;>(conv=>whnf)))
 all_goals (try (show _=_;simp only[wQ]))
 ·exfalso
  simp only[Bool.and_eq_true,B0,List.length_nil] at hh
  omega
 ·symm
  refine Bool.eq_false_iff.2 fun hm=>?_
  rw[Mo] at hm
  exact Un (m:=4) (by simp only[hm])
end
end Go.Vc.Z
