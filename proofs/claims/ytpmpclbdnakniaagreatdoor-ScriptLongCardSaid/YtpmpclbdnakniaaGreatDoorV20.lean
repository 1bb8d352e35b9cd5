/- request.May, of the kind exchange. -/
import Derived.Test.YtpmpclbdnakniaaGreatDoorV19
set_option linter.all false
set_option linter.unusedVariables false
set_option linter.unusedSimpArgs false
namespace Go.Vc.Z
open Go Go.Vc Go.Proofs Go.RowKit Go.Pl Go.Lib
noncomputable section
set_option maxRecDepth 100000
attribute [local irreducible] inK Utf8.decode Utf8.encode Lib.itoa Pl.worth Pl.allDig
attribute [local irreducible] Lib.join
def Aip:PC:=PC.of (fun r:Request=>[.agg r.enc]) (fun r=>(r.kind=5)∧¬r.coupons.length=0∧¬r.taxes.length=0∧E1 r) (fun r=>.bool (sB (Ah r)))
def Zi(r:Request):List AV→List Blk→Nat→Option LR:=fun cs H i=>cond (Nat.beq i 0) (some (.order [0,1,2,3,4,5,6,7,8,9,10,11,12,13,14,15,16,17,18])) (cond (Nat.beq i 6) (some (.order [0,1,2,3,4,5,6,7,8,9,10,11,12,13,14,15])) ((fun cs H i=>cond (Nat.beq i 2) (some (.inv (Aif (gP5 r) 4 r cs H))) none) cs H i))
def kL(r:Request):List (FuncId × Ctr):=(277,inl TY (Mv) Ak (fun _=>false) (Zi r) Tryz.f277)::Uh
def kM(r:Request):FuncId→Option Ctr:=Av Ak (kL r)
def Zj(r:Request):List AV→List Blk→Nat→Option LR:=fun cs H i=>cond (Nat.beq i 0) (some (.order [0,1,2,3,4,5,6,7,8,9,10,11,12,13,14,15,16,17])) ((fun cs H i=>cond (Nat.beq i 3) (some (.inv (Aig (lcB (gP5 r) 4 r.coupons r.coupons.length) r cs H))) none) cs H i)
def kN(r:Request):List (FuncId × Ctr):=(229,inl TY (kM r) Ak (fun _=>false) (Zj r) Tryz.f229)::kL r
def kO(r:Request):FuncId→Option Ctr:=Av Ak (kN r)
def kP(r:Request):List (FuncId × Ctr):=(228,inl TY (kO r) Ak (fun _=>false) (fun _ _ _=>none) Tryz.f228)::kN r
def kQ(r:Request):FuncId→Option Ctr:=Av Ak (kP r)
def kR(r:Request):List (FuncId × Ctr):=(234,inl TY (kQ r) Ak (fun _=>false) (fun _ _ _=>none) Tryz.f234)::kP r
def kS(r:Request):FuncId→Option Ctr:=Av Ak (kR r)
def kT(r:Request):List (FuncId × Ctr):=(164,inl TY (kS r) Ak (fun _=>false) (fun _ _ _=>none) Tryz.f164)::kR r
def kU(r:Request):FuncId→Option Ctr:=Av Ak (kT r)
def Zk(r:Request):List AV→List Blk→Nat→Option LR:=fun _ _ i=>cond (Nat.beq i 2) (some (.unroll 7)) none
def Acz(r:Request):List (FuncId × Ctr):=(141,inl TY (kU r) Ak (fun _=>false) (Zk r) Tryz.f141)::kT r
def kV(r:Request):FuncId→Option Ctr:=Av Ak (Acz r)
set_option maxHeartbeats 4000000 in
theorem Aiq{W:World}(hW:Tabs W):GoodP (Fw W) Tryz.prog 71 Aip:=by
 have hD:=B7 hW
 have hC18:∀ r:Request,Ad (Fw W) Tryz.prog Mv:=fun r=>(gO hW)
 have hC19:∀ r:Request,Ad (Fw W) Tryz.prog (kM r):=fun r=>Ab Tryz.call277 (Af rfl Aq hD (hC18 r) Tryz.func277 (Zi r)) (hC18 r)
 have hC20:∀ r:Request,Ad (Fw W) Tryz.prog (kO r):=fun r=>Ab Tryz.call229 (Af rfl Aq hD (hC19 r) Tryz.func229 (Zj r)) (hC19 r)
 have hC21:∀ r:Request,Ad (Fw W) Tryz.prog (kQ r):=fun r=>Ab Tryz.call228 (Af rfl Aq hD (hC20 r) Tryz.func228 (fun _ _ _=>none)) (hC20 r)
 have hC22:∀ r:Request,Ad (Fw W) Tryz.prog (kS r):=fun r=>Ab Tryz.call234 (Af rfl Aq hD (hC21 r) Tryz.func234 (fun _ _ _=>none)) (hC21 r)
 have hC23:∀ r:Request,Ad (Fw W) Tryz.prog (kU r):=fun r=>Ab Tryz.call164 (Af rfl Aq hD (hC22 r) Tryz.func164 (fun _ _ _=>none)) (hC22 r)
 have hC24:∀ r:Request,Ad (Fw W) Tryz.prog (kV r):=fun r=>Ab Tryz.call141 (Af rfl Aq hD (hC23 r) Tryz.func141 (Zk r)) (hC23 r)
 refine Ax (D:=Ak) (C:=fun r=>kV r) (wr:=(fun _=>false)) rfl Aq hD hC24 Tryz.func71 (fun _ _=>none) (fun _=>rfl) ?_
 rintro⟨key,kind,day,ticket,coupon,status,locator,coupons,taxes,amount,frm,til⟩ hf hp
 have hft:Bl [slE 2 Tax.enc taxes]:=⟨hf.1.2.2.2.2.2.2.2.2.1,True.intro⟩
 clear hf
 obtain⟨hk,hcn,htn,hp1,hp2⟩:=hp
 dsimp only at hk hcn htn hp1 hp2
 rcases hk with rfl
 have hex: ¬Ce 5=[]:=by rw[Cc (by decide)];decide
 have hca: ¬0+coupons.length≤0:=by omega
 have hta: ¬0+taxes.length≤0:=by omega
 (conv=>whnf)
 (repeat' ((first
  |(with_reducible refine Ac ?_)
  |(exact absurd (by with_reducible assumption) hex)
  |(exact absurd (by with_reducible assumption) hcn)
  |(exact absurd (by with_reducible assumption) htn)
  |(exact absurd (by with_reducible assumption) hca)
  |(exact absurd (by with_reducible assumption) hta)
  |((with_reducible apply Bv);(focus rfl);(focus rfl))
  |((with_reducible apply Bt);(focus rfl);(focus rfl);(focus rfl))
  |((refine⟨rfl,_,?_,rfl⟩);(try simp only[A9,Cs,Bw,cond_true,cond_false,Bool.true_and,Bool.and_false,Bool.false_and,List.length_nil])<;>first|rfl|exact Cy (by omega)|exact Cz (by omega)|exact C0 (by omega)|(rename_i hh;(try simp only[List.length_nil] at hh);first|(rw[hh];first|rfl|(simp;done))|(rw[hh.1,hh.2];first|rfl|(simp;done))|(simp[hh];done)|(rcases hh with hh|hh<;>first|(rw[hh];first|rfl|(simp;done))|(simp[hh];done))))
  |with_reducible refine iQ ?_ ?_
  |((with_reducible refine aI ?_ ?_);focus (first|with_reducible exact⟨⟩|exact tO|((with_reducible show okQ _ _=true);rfl)|omega|exact tK|(simp only[Ag,ty2,ty3,ty4,ty5,ty9,Cn,Ch,Co,Ci,Cl,Cp,Cq,Cr,Bf,Bc,Bg,Bd,Bh,Bi,Bj];first|omega|(refine⟨?_,?_⟩<;>omega))))
  |(split<;>rename_i hh<;>(try simp only[wS] at hh))
  |with_reducible refine lnI fun hln=>?_
  |fail)<;>(conv=>whnf)))
 refine⟨?_,fun(i:Nat) (hi:i≤coupons.length)=>?_⟩
 ·(conv=>whnf)
  refine⟨(0:Nat),[],?_,⟨⟨rfl,(nB rfl),rfl⟩,?_,?_⟩⟩
  ·exact Nat.zero_le _
  ·exact tL
  ·(conv=>whnf)
   (repeat' ((first|with_reducible exact⟨⟩|((with_reducible refine Or.inr ?_);rfl)|((with_reducible refine aI ?_ ?_);focus (exact tA))|with_reducible refine iA ?_ ?_|with_reducible refine iL ?_ ?_|with_reducible refine iB ?_ ?_|fail)<;>(conv=>whnf)))
   all_goals (try simp only[wQ])
   all_goals (try first|omega|rfl|exact⟨fun h=>h,fun _ _=>True.intro⟩)
   all_goals (try first|exact fun _ _=>⟨True.intro,rfl⟩)
   ·intro e he
    refine⟨?_,rfl⟩
    show Bu 0 _ _ e=_
    unfold Bu
    rw[if_neg (by omega),Nat.sub_zero]
    simp only[dE,Lk]
   ·rw[Sb,Nat.zero_add];unfold gP5;rfl
   ·intro e he
    rcases(by omega:e=0∨e=1∨e=2∨e=3∨e=4∨e=5) with rfl|rfl|rfl|rfl|rfl|rfl<;>exact⟨True.intro,rfl⟩
 ·(conv=>whnf)
  (repeat' ((first
   |(with_reducible refine Ac ?_)
   |((with_reducible apply Bv);(focus rfl);(focus rfl))
   |((with_reducible apply Bt);(focus rfl);(focus rfl);(focus rfl))
   |((with_reducible apply Eb);(focus rfl);(focus rfl);(focus rfl))
   |(refine Lg ?_)
   |((refine⟨rfl,_,?_,rfl⟩);(try simp only[A9,Cs,Bw,cond_true,cond_false,Bool.true_and,Bool.and_false,Bool.false_and,List.length_nil])<;>first|rfl|exact Cy (by omega)|exact Cz (by omega)|exact C0 (by omega)|(rename_i hh;(try simp only[List.length_nil] at hh);first|(rw[hh];first|rfl|(simp;done))|(rw[hh.1,hh.2];first|rfl|(simp;done))|(simp[hh];done)|(rcases hh with hh|hh<;>first|(rw[hh];first|rfl|(simp;done))|(simp[hh];done))))
   |with_reducible refine iQ ?_ ?_
   |((with_reducible refine aI ?_ ?_);focus (first|((with_reducible show okQ _ _=true);rfl)|omega|exact tK))
   |(split<;>rename_i hh<;>(try simp only[wS] at hh))
   |with_reducible refine lnI fun hln=>?_
   |fail)<;>(conv=>whnf)))
  ·(conv=>whnf)
   refine⟨(i+1:Nat),[],?_,⟨⟨rfl,(nB rfl),rfl⟩,?_,?_⟩⟩
   ·exact⟨show i+1≤coupons.length by omega,show coupons.length - (i+1)<coupons.length - i by omega⟩
   ·exact tL
   ·(conv=>whnf)
    (repeat' ((first|with_reducible exact⟨⟩|((with_reducible refine Or.inr ?_);rfl)|((with_reducible refine aI ?_ ?_);focus (exact tA))|with_reducible refine iA ?_ ?_|with_reducible refine iL ?_ ?_|with_reducible refine iB ?_ ?_|fail)<;>(conv=>whnf)))
    all_goals (try simp only[wQ])
    all_goals (try first|omega|rfl|exact⟨fun h=>h,fun _ _=>True.intro⟩)
    all_goals (try first|exact fun _ _=>⟨True.intro,rfl⟩)
    ·intro e he
     refine⟨?_,rfl⟩
     simp only[Dq,decide_true,if_true,decide_eq_true_eq]
     by_cases h1:e=i
     ·subst h1
      simp only[if_pos (show e=0+Int.toNat (e:Int) by omega)]
      rw[W4];simp only[Nat.zero_add,Int.toNat_natCast];rfl
     ·simp only[if_neg (show¬e=0+Int.toNat (i:Int) by omega)]
      rw[W3 h1]
    ·rw[Sf (by omega),Bool.eq_iff_iff]
     simp only[Bool.and_eq_true,Bs,Nn,beq_iff_eq,Rl,decide_true,if_true,G7 (Nat.le_refl i),Nat.zero_add,Int.toNat_natCast,true_and,and_assoc,cond_true,cond_false]
    ·intro e he
     rcases(by omega:e=0∨e=1∨e=2∨e=3∨e=4∨e=5) with rfl|rfl|rfl|rfl|rfl|rfl<;>exact⟨True.intro,rfl⟩
  ·obtain rfl:i=coupons.length:=by omega
   refine⟨?_,fun(k:Nat) (hk:k≤taxes.length)=>?_⟩
   ·(conv=>whnf)
    refine⟨(0:Nat),[],?_,⟨⟨rfl,(nB rfl),rfl⟩,?_,?_⟩⟩
    ·exact Nat.zero_le _
    ·(conv=>whnf)
     (repeat' ((first|with_reducible exact⟨⟩|((with_reducible refine aI ?_ ?_);focus (exact tA))|with_reducible refine iA ?_ ?_|fail)<;>(conv=>whnf)))
     all_goals (try simp only[wQ])
     all_goals (try first|omega)
     all_goals exact(Ln _).symm
    ·(conv=>whnf)
     (repeat' ((first|with_reducible exact⟨⟩|((with_reducible refine Or.inr ?_);rfl)|((with_reducible refine aI ?_ ?_);focus (exact tA))|with_reducible refine iA ?_ ?_|with_reducible refine iL ?_ ?_|with_reducible refine iB ?_ ?_|fail)<;>(conv=>whnf)))
     all_goals (try simp only[wQ])
     all_goals (try first|omega|rfl|exact⟨fun h=>h,fun _ _=>True.intro⟩)
     all_goals (try first|exact fun _ _=>⟨True.intro,rfl⟩)
     ·intro e he
      refine⟨?_,rfl⟩
      show Bu 0 _ _ e=_
      unfold Bu
      rw[if_neg (by omega),Nat.sub_zero]
      simp only[dF,Lk]
     ·rw[Sc,Nat.zero_add]
     ·intro e he
      rcases(by omega:e=0∨e=1∨e=2∨e=3∨e=4∨e=5) with rfl|rfl|rfl|rfl|rfl|rfl<;>exact⟨True.intro,rfl⟩
   ·have hfin:taxes.length≤k→ltB (lcB (gP5 ⟨key,5,day,ticket,coupon,status,locator,coupons,taxes,amount,frm,til⟩) 4 coupons coupons.length) taxes k=(gP5 ⟨key,5,day,ticket,coupon,status,locator,coupons,taxes,amount,frm,til⟩&&Gf 4 coupons&&Dv taxes):=fun h=>by
     obtain rfl:k=taxes.length:=by omega
     rw[Sd,Mu]
    have hcode:k<taxes.length→ -9223372036854775808≤fz k (0+Int.toNat (k:Int)) (taxes.getD (0+Int.toNat (k:Int)) default).code:=fun h=>by
     rw[G7 (by omega),Nat.zero_add];exact Sg hft h
    have hfz:fz k (0+Int.toNat (k:Int)) (taxes.getD (0+Int.toNat (k:Int)) default).code=(taxes.getD k default).code:=by
     rw[G7 (by omega),Nat.zero_add];rfl
    (conv=>whnf)
    (repeat' ((first
     |(with_reducible refine Ac ?_)
     |(exact absurd (by with_reducible assumption) Bool.false_ne_true)
     |((with_reducible apply Bv);(focus rfl);(focus rfl))
     |((with_reducible apply Bt);(focus rfl);(focus rfl);(focus rfl))
     |((with_reducible apply Eb);(focus rfl);(focus rfl);(focus rfl))
     |((refine⟨rfl,_,?_,rfl⟩);(try simp only[A9,Cs,Bw,cond_true,cond_false,Bool.true_and,Bool.and_false,Bool.false_and,List.length_nil])<;>first|rfl|exact Cy (by omega)|exact Cz (by omega)|exact C0 (by omega)|(rename_i hh;(try simp only[List.length_nil] at hh);first|(rw[hh];first|rfl|(simp;done))|(rw[hh.1,hh.2];first|rfl|(simp;done))|(simp[hh];done)|(rcases hh with hh|hh<;>first|(rw[hh];first|rfl|(simp;done))|(simp[hh];done))))
     |((with_reducible refine aI ?_ ?_);focus (first|exact tO|exact tK))
     |(split<;>rename_i hh<;>(try simp only[wS] at hh))
     |fail)<;>(conv=>whnf)))
    all_goals (try (show _=_;simp only[wQ]))
    ·(conv=>whnf)
     refine⟨(k+1:Nat),[],?_,⟨⟨rfl,(nB rfl),rfl⟩,?_,?_⟩⟩
     ·exact⟨show k+1≤taxes.length by omega,show taxes.length - (k+1)<taxes.length - k by omega⟩
     ·(conv=>whnf)
      (repeat' ((first|with_reducible exact⟨⟩|((with_reducible refine aI ?_ ?_);focus (exact tA))|with_reducible refine iA ?_ ?_|fail)<;>(conv=>whnf)))
      all_goals (try simp only[wQ])
      all_goals (try first|omega)
      all_goals (unfold Gz;rw[if_neg (by omega),Nat.add_sub_cancel];split<;>omega)
     ·(conv=>whnf)
      (repeat' ((first|with_reducible exact⟨⟩|((with_reducible refine Or.inr ?_);rfl)|((with_reducible refine aI ?_ ?_);focus (exact tA))|with_reducible refine iA ?_ ?_|with_reducible refine iL ?_ ?_|with_reducible refine iB ?_ ?_|fail)<;>(conv=>whnf)))
      all_goals (try simp only[wQ])
      all_goals (try first|omega|rfl|exact⟨fun h=>h,fun _ _=>True.intro⟩)
      all_goals (try first|exact fun _ _=>⟨True.intro,rfl⟩)
      ·intro e he
       refine⟨?_,rfl⟩
       simp only[Dq,decide_true,if_true,decide_eq_true_eq]
       by_cases h1:e=k
       ·subst h1
        simp only[if_pos (show e=0+Int.toNat (e:Int) by omega)]
        rw[Lm];simp only[Nat.zero_add,Int.toNat_natCast];rfl
       ·simp only[if_neg (show¬e=0+Int.toNat (k:Int) by omega)]
        rw[Ll h1]
      ·rw[I2 (by omega),Bool.eq_iff_iff]
       unfold D2
       simp only[Bool.and_eq_true,Bs,decide_eq_true_eq,Rl,decide_true,if_true,G7 (Nat.le_refl k),Nat.zero_add,Int.toNat_natCast,true_and,and_assoc,cond_true,cond_false]
      ·intro e he
       rcases(by omega:e=0∨e=1∨e=2∨e=3∨e=4∨e=5) with rfl|rfl|rfl|rfl|rfl|rfl<;>exact⟨True.intro,rfl⟩
    ·(conv=>whnf)
     refine⟨(k+1:Nat),[],?_,⟨⟨rfl,(nB rfl),rfl⟩,?_,?_⟩⟩
     ·exact⟨show k+1≤taxes.length by omega,show taxes.length - (k+1)<taxes.length - k by omega⟩
     ·(conv=>whnf)
      (repeat' ((first|with_reducible exact⟨⟩|((with_reducible refine aI ?_ ?_);focus (exact tA))|with_reducible refine iA ?_ ?_|fail)<;>(conv=>whnf)))
      all_goals (try simp only[wQ])
      all_goals (try first|omega)
      all_goals (unfold Gz;rw[if_neg (by omega),Nat.add_sub_cancel];split<;>omega)
     ·(conv=>whnf)
      (repeat' ((first|with_reducible exact⟨⟩|((with_reducible refine Or.inr ?_);rfl)|((with_reducible refine aI ?_ ?_);focus (exact tA))|with_reducible refine iA ?_ ?_|with_reducible refine iL ?_ ?_|with_reducible refine iB ?_ ?_|fail)<;>(conv=>whnf)))
      all_goals (try simp only[wQ])
      all_goals (try first|omega|rfl|exact⟨fun h=>h,fun _ _=>True.intro⟩)
      all_goals (try first|exact fun _ _=>⟨True.intro,rfl⟩)
      ·intro e he
       refine⟨?_,rfl⟩
       simp only[Dq,decide_true,if_true,decide_eq_true_eq]
       by_cases h1:e=k
       ·subst h1
        simp only[if_pos (show e=0+Int.toNat (e:Int) by omega)]
        rw[Lm];simp only[Nat.zero_add,Int.toNat_natCast];rfl
       ·simp only[if_neg (show¬e=0+Int.toNat (k:Int) by omega)]
        rw[Ll h1]
      ·rw[I2 (by omega),Bool.eq_iff_iff]
       unfold D2
       simp only[Bool.and_eq_true,Bs,decide_eq_true_eq,Rl,decide_true,if_true,G7 (Nat.le_refl k),Nat.zero_add,Int.toNat_natCast,true_and,and_assoc,cond_true,cond_false]
      ·intro e he
       rcases(by omega:e=0∨e=1∨e=2∨e=3∨e=4∨e=5) with rfl|rfl|rfl|rfl|rfl|rfl<;>exact⟨True.intro,rfl⟩
    ·refine⟨((⟨[],5,0,0,coupon,status,locator,[],[],0,frm,til⟩,⟨[],5,0,0,0,0,[],[],[],0,0,0⟩):Request × Request),True.intro,?_,?_⟩
     ·exact tL
     (conv=>whnf)
     all_goals (try (show _=_;simp only[wQ]))
     rw[cond_true,Bool.eq_iff_iff,A0,Jz]
     rw[hfin (by omega)] at hh
     simp only[Bool.and_eq_true,W6,Request.mk.injEq,true_and,and_true] at hh ⊢
     exact⟨fun h=>by simp_all,fun h=>by simp_all⟩
    ·symm
     refine Bool.eq_false_iff.2 fun hm=>?_
     rw[Jz] at hm
     rw[hfin (by omega)] at hh
     refine absurd hh ?_
     rw[Bool.not_eq_false]
     simp only[Bool.and_eq_true,W6]
     simp_all
def Air:PC:=PC.of (fun r:Request=>[.agg r.enc]) (fun r=>(r.kind=5)∧¬r.coupons.length=0∧r.taxes=[]∧E1 r) (fun r=>.bool (sB (Ah r)))
def Zl(r:Request):List AV→List Blk→Nat→Option LR:=fun cs H i=>cond (Nat.beq i 0) (some (.order [0,1,2,3,4,5,6,7,8,9,10,11,12,13,14,15,16,17,18])) (cond (Nat.beq i 6) (some (.order [0,1,2,3,4,5,6,7,8,9,10,11,12,13,14,15])) ((fun cs H i=>cond (Nat.beq i 2) (some (.inv (Aif (gP5 r) 4 r cs H))) none) cs H i))
def kW(r:Request):List (FuncId × Ctr):=(277,inl TY (Mw) Ak (fun _=>false) (Zl r) Tryz.f277)::Ui
def kX(r:Request):FuncId→Option Ctr:=Av Ak (kW r)
def kY(r:Request):List (FuncId × Ctr):=(228,inl TY (kX r) Ak (fun _=>false) (fun _ _ _=>none) Tryz.f228)::kW r
def kZ(r:Request):FuncId→Option Ctr:=Av Ak (kY r)
def lB(r:Request):List (FuncId × Ctr):=(234,inl TY (kZ r) Ak (fun _=>false) (fun _ _ _=>none) Tryz.f234)::kY r
def lC(r:Request):FuncId→Option Ctr:=Av Ak (lB r)
def lE(r:Request):List (FuncId × Ctr):=(164,inl TY (lC r) Ak (fun _=>false) (fun _ _ _=>none) Tryz.f164)::lB r
def lF(r:Request):FuncId→Option Ctr:=Av Ak (lE r)
def Zm(r:Request):List AV→List Blk→Nat→Option LR:=fun _ _ i=>cond (Nat.beq i 2) (some (.unroll 7)) none
def Ac0(r:Request):List (FuncId × Ctr):=(141,inl TY (lF r) Ak (fun _=>false) (Zm r) Tryz.f141)::lE r
def lG(r:Request):FuncId→Option Ctr:=Av Ak (Ac0 r)
set_option maxHeartbeats 4000000 in
theorem Ais{W:World}(hW:Tabs W):GoodP (Fw W) Tryz.prog 71 Air:=by
 have hD:=B7 hW
 have hC18:∀ r:Request,Ad (Fw W) Tryz.prog Mw:=fun r=>(iG hW)
 have hC19:∀ r:Request,Ad (Fw W) Tryz.prog (kX r):=fun r=>Ab Tryz.call277 (Af rfl Aq hD (hC18 r) Tryz.func277 (Zl r)) (hC18 r)
 have hC20:∀ r:Request,Ad (Fw W) Tryz.prog (kZ r):=fun r=>Ab Tryz.call228 (Af rfl Aq hD (hC19 r) Tryz.func228 (fun _ _ _=>none)) (hC19 r)
 have hC21:∀ r:Request,Ad (Fw W) Tryz.prog (lC r):=fun r=>Ab Tryz.call234 (Af rfl Aq hD (hC20 r) Tryz.func234 (fun _ _ _=>none)) (hC20 r)
 have hC22:∀ r:Request,Ad (Fw W) Tryz.prog (lF r):=fun r=>Ab Tryz.call164 (Af rfl Aq hD (hC21 r) Tryz.func164 (fun _ _ _=>none)) (hC21 r)
 have hC23:∀ r:Request,Ad (Fw W) Tryz.prog (lG r):=fun r=>Ab Tryz.call141 (Af rfl Aq hD (hC22 r) Tryz.func141 (Zm r)) (hC22 r)
 refine Ax (D:=Ak) (C:=fun r=>lG r) (wr:=(fun _=>false)) rfl Aq hD hC23 Tryz.func71 (fun _ _=>none) (fun _=>rfl) ?_
 rintro⟨key,kind,day,ticket,coupon,status,locator,coupons,taxes,amount,frm,til⟩ hf hp
 have hft:Bl [slE 2 Tax.enc taxes]:=⟨hf.1.2.2.2.2.2.2.2.2.1,True.intro⟩
 clear hf
 obtain⟨hk,hcn,htn,hp1,hp2⟩:=hp
 dsimp only at hk hcn htn hp1 hp2
 subst htn
 rcases hk with rfl
 have hex: ¬Ce 5=[]:=by rw[Cc (by decide)];decide
 have hca: ¬0+coupons.length≤0:=by omega
 (conv=>whnf)
 (repeat' ((first
  |(with_reducible refine Ac ?_)
  |(exact absurd (by with_reducible assumption) hex)
  |(exact absurd (by with_reducible assumption) hcn)
  |(exact absurd (by with_reducible assumption) hca)
  |with_reducible refine iQ ?_ ?_
  |((with_reducible refine aI ?_ ?_);focus (first|with_reducible exact⟨⟩|((with_reducible show okQ _ _=true);rfl)|(simp only[Ag,ty2,ty3,ty4,ty5,ty9,Cn,Ch,Co,Ci,Cl,Cp,Cq,Cr,Bf,Bc,Bg,Bd,Bh,Bi,Bj];first|omega|(refine⟨?_,?_⟩<;>omega))))
  |(split<;>rename_i hh<;>(try simp only[wS] at hh))
  |fail)<;>(conv=>whnf)))
 refine⟨([]:List Tax),Nat.zero_le _,?_,?_⟩
 ·exact Aj _
 (conv=>whnf)
 (repeat' ((first
  |(with_reducible refine Ac ?_)
  |((with_reducible apply Bv);(focus rfl);(focus rfl))
  |((with_reducible apply Bt);(focus rfl);(focus rfl);(focus rfl))
  |((refine⟨rfl,_,?_,rfl⟩);(try simp only[A9,Cs,Bw,cond_true,cond_false,Bool.true_and,Bool.and_false,Bool.false_and,List.length_nil])<;>first|rfl|exact Cy (by omega)|exact Cz (by omega)|exact C0 (by omega)|(rename_i hh;(try simp only[List.length_nil] at hh);first|(rw[hh];first|rfl|(simp;done))|(rw[hh.1,hh.2];first|rfl|(simp;done))|(simp[hh];done)|(rcases hh with hh|hh<;>first|(rw[hh];first|rfl|(simp;done))|(simp[hh];done))))
  |with_reducible refine iQ ?_ ?_
  |((with_reducible refine aI ?_ ?_);focus (first|with_reducible exact⟨⟩|exact tO|((with_reducible show okQ _ _=true);rfl)|omega|exact tK))
  |(split<;>rename_i hh<;>(try simp only[wS] at hh))
  |with_reducible refine lnI fun hln=>?_
  |fail)<;>(conv=>whnf)))
 refine⟨?_,fun(i:Nat) (hi:i≤coupons.length)=>?_⟩
 ·(conv=>whnf)
  refine⟨(0:Nat),[],?_,⟨⟨rfl,(nB rfl),rfl⟩,?_,?_⟩⟩
  ·exact Nat.zero_le _
  ·exact tL
  ·(conv=>whnf)
   (repeat' ((first|with_reducible exact⟨⟩|((with_reducible refine Or.inr ?_);rfl)|((with_reducible refine aI ?_ ?_);focus (exact tA))|with_reducible refine iA ?_ ?_|with_reducible refine iL ?_ ?_|with_reducible refine iB ?_ ?_|fail)<;>(conv=>whnf)))
   all_goals (try simp only[wQ])
   all_goals (try first|omega|rfl|exact⟨fun h=>h,fun _ _=>True.intro⟩)
   ·intro e he
    refine⟨?_,rfl⟩
    show Bu 0 _ _ e=_
    unfold Bu
    rw[if_neg (by omega),Nat.sub_zero]
    simp only[dE,Lk]
   ·rw[Sb,Nat.zero_add];unfold gP5;rfl
   ·intro e he
    rcases(by omega:e=0∨e=1∨e=2∨e=3∨e=4∨e=5) with rfl|rfl|rfl|rfl|rfl|rfl<;>exact⟨True.intro,rfl⟩
 ·(conv=>whnf)
  (repeat' ((first
   |(with_reducible refine Ac ?_)
   |((with_reducible apply Bv);(focus rfl);(focus rfl))
   |((with_reducible apply Bt);(focus rfl);(focus rfl);(focus rfl))
   |((with_reducible apply Eb);(focus rfl);(focus rfl);(focus rfl))
   |(refine Lg ?_)
   |((refine⟨rfl,_,?_,rfl⟩);(try simp only[A9,Cs,Bw,cond_true,cond_false,Bool.true_and,Bool.and_false,Bool.false_and,List.length_nil])<;>first|rfl|exact Cy (by omega)|exact Cz (by omega)|exact C0 (by omega)|(rename_i hh;(try simp only[List.length_nil] at hh);first|(rw[hh];first|rfl|(simp;done))|(rw[hh.1,hh.2];first|rfl|(simp;done))|(simp[hh];done)|(rcases hh with hh|hh<;>first|(rw[hh];first|rfl|(simp;done))|(simp[hh];done))))
   |with_reducible refine iQ ?_ ?_
   |((with_reducible refine aI ?_ ?_);focus (first|((with_reducible show okQ _ _=true);rfl)|omega|exact tK))
   |(split<;>rename_i hh<;>(try simp only[wS] at hh))
   |with_reducible refine lnI fun hln=>?_
   |fail)<;>(conv=>whnf)))
  all_goals (try (show _=_;simp only[wQ]))
  ·(conv=>whnf)
   refine⟨(i+1:Nat),[],?_,⟨⟨rfl,(nB rfl),rfl⟩,?_,?_⟩⟩
   ·exact⟨show i+1≤coupons.length by omega,show coupons.length - (i+1)<coupons.length - i by omega⟩
   ·exact tL
   ·(conv=>whnf)
    (repeat' ((first|with_reducible exact⟨⟩|((with_reducible refine Or.inr ?_);rfl)|((with_reducible refine aI ?_ ?_);focus (exact tA))|with_reducible refine iA ?_ ?_|with_reducible refine iL ?_ ?_|with_reducible refine iB ?_ ?_|fail)<;>(conv=>whnf)))
    all_goals (try simp only[wQ])
    all_goals (try first|omega|rfl|exact⟨fun h=>h,fun _ _=>True.intro⟩)
    ·intro e he
     refine⟨?_,rfl⟩
     simp only[Dq,decide_true,if_true,decide_eq_true_eq]
     by_cases h1:e=i
     ·subst h1
      simp only[if_pos (show e=0+Int.toNat (e:Int) by omega)]
      rw[W4];simp only[Nat.zero_add,Int.toNat_natCast];rfl
     ·simp only[if_neg (show¬e=0+Int.toNat (i:Int) by omega)]
      rw[W3 h1]
    ·rw[Sf (by omega),Bool.eq_iff_iff]
     simp only[Bool.and_eq_true,Bs,Nn,beq_iff_eq,Rl,decide_true,if_true,G7 (Nat.le_refl i),Nat.zero_add,Int.toNat_natCast,true_and,and_assoc,cond_true,cond_false]
    ·intro e he
     rcases(by omega:e=0∨e=1∨e=2∨e=3∨e=4∨e=5) with rfl|rfl|rfl|rfl|rfl|rfl<;>exact⟨True.intro,rfl⟩
  ·obtain rfl:i=coupons.length:=by omega
   have hfin:Dc (lcB (gP5 ⟨key,5,day,ticket,coupon,status,locator,coupons,[],amount,frm,til⟩) 4 coupons coupons.length) 0 ([]:List Tax).length 4=(gP5 ⟨key,5,day,ticket,coupon,status,locator,coupons,[],amount,frm,til⟩&&Gf 4 coupons&&Dv []):=by
    rw[Mu,No,Bool.and_true,Bool.eq_iff_iff];simp[Bs]
   refine⟨((⟨[],5,0,0,coupon,status,locator,[],[],0,frm,til⟩,⟨[],5,0,0,0,0,[],[],[],0,0,0⟩):Request × Request),True.intro,?_,?_⟩
   ·exact tL
   (conv=>whnf)
   all_goals (try (show _=_;simp only[wQ]))
   rw[cond_true,Bool.eq_iff_iff,A0,Jz]
   rw[hfin] at hh
   simp only[Bool.and_eq_true,W6,Request.mk.injEq,true_and,and_true] at hh ⊢
   exact⟨fun h=>by simp_all,fun h=>by simp_all⟩
  ·obtain rfl:i=coupons.length:=by omega
   have hfin:Dc (lcB (gP5 ⟨key,5,day,ticket,coupon,status,locator,coupons,[],amount,frm,til⟩) 4 coupons coupons.length) 0 ([]:List Tax).length 4=(gP5 ⟨key,5,day,ticket,coupon,status,locator,coupons,[],amount,frm,til⟩&&Gf 4 coupons&&Dv []):=by
    rw[Mu,No,Bool.and_true,Bool.eq_iff_iff];simp[Bs]
   symm
   refine Bool.eq_false_iff.2 fun hm=>?_
   rw[Jz] at hm
   rw[hfin] at hh
   refine absurd hh ?_
   rw[Bool.not_eq_false]
   simp only[Bool.and_eq_true,W6]
   simp_all
def Ait:PC:=PC.of (fun r:Request=>[.agg r.enc]) (fun r=>(r.kind=5)∧r.coupons=[]∧¬r.taxes.length=0∧E1 r) (fun r=>.bool (sB (Ah r)))
def Zn(r:Request):List AV→List Blk→Nat→Option LR:=fun cs H i=>cond (Nat.beq i 0) (some (.order [0,1,2,3,4,5,6,7,8,9,10,11,12,13,14,15,16,17])) ((fun cs H i=>cond (Nat.beq i 3) (some (.inv (Aig (Dc (gP5 r) 1 0 4) r cs H))) none) cs H i)
def lH(r:Request):List (FuncId × Ctr):=(229,inl TY (Mx) Ak (fun _=>false) (Zn r) Tryz.f229)::Uj
def lI(r:Request):FuncId→Option Ctr:=Av Ak (lH r)
def lJ(r:Request):List (FuncId × Ctr):=(164,inl TY (lI r) Ak (fun _=>false) (fun _ _ _=>none) Tryz.f164)::lH r
def lK(r:Request):FuncId→Option Ctr:=Av Ak (lJ r)
def Zo(r:Request):List AV→List Blk→Nat→Option LR:=fun _ _ i=>cond (Nat.beq i 2) (some (.unroll 7)) none
def Ac1(r:Request):List (FuncId × Ctr):=(141,inl TY (lK r) Ak (fun _=>false) (Zo r) Tryz.f141)::lJ r
def lL(r:Request):FuncId→Option Ctr:=Av Ak (Ac1 r)
set_option maxHeartbeats 4000000 in
theorem Aiu{W:World}(hW:Tabs W):GoodP (Fw W) Tryz.prog 71 Ait:=by
 have hD:=B7 hW
 have hC20:∀ r:Request,Ad (Fw W) Tryz.prog Mx:=fun r=>(jK hW)
 have hC21:∀ r:Request,Ad (Fw W) Tryz.prog (lI r):=fun r=>Ab Tryz.call229 (Af rfl Aq hD (hC20 r) Tryz.func229 (Zn r)) (hC20 r)
 have hC22:∀ r:Request,Ad (Fw W) Tryz.prog (lK r):=fun r=>Ab Tryz.call164 (Af rfl Aq hD (hC21 r) Tryz.func164 (fun _ _ _=>none)) (hC21 r)
 have hC23:∀ r:Request,Ad (Fw W) Tryz.prog (lL r):=fun r=>Ab Tryz.call141 (Af rfl Aq hD (hC22 r) Tryz.func141 (Zo r)) (hC22 r)
 refine Ax (D:=Ak) (C:=fun r=>lL r) (wr:=(fun _=>false)) rfl Aq hD hC23 Tryz.func71 (fun _ _=>none) (fun _=>rfl) ?_
 rintro⟨key,kind,day,ticket,coupon,status,locator,coupons,taxes,amount,frm,til⟩ hf hp
 have hft:Bl [slE 2 Tax.enc taxes]:=⟨hf.1.2.2.2.2.2.2.2.2.1,True.intro⟩
 clear hf
 obtain⟨hk,hcn,htn,hp1,hp2⟩:=hp
 dsimp only at hk hcn htn hp1 hp2
 subst hcn
 rcases hk with rfl
 have hex: ¬Ce 5=[]:=by rw[Cc (by decide)];decide
 have hta: ¬0+taxes.length≤0:=by omega
 (conv=>whnf)
 (repeat' ((first
  |(with_reducible refine Ac ?_)
  |(exact absurd (by with_reducible assumption) hex)
  |((with_reducible refine aI ?_ ?_);focus (first|with_reducible exact⟨⟩|((with_reducible show okQ _ _=true);rfl)))
  |(split<;>rename_i hh<;>(try simp only[wS] at hh))
  |fail)<;>(conv=>whnf)))
 refine⟨([]:List Coupon),Nat.zero_le _,?_,?_⟩
 ·exact Aj _
 (conv=>whnf)
 (repeat' ((first
  |(with_reducible refine Ac ?_)
  |(exact absurd (by with_reducible assumption) htn)
  |(exact absurd (by with_reducible assumption) hta)
  |((with_reducible apply Bv);(focus rfl);(focus rfl))
  |((with_reducible apply Bt);(focus rfl);(focus rfl);(focus rfl))
  |((refine⟨rfl,_,?_,rfl⟩);(try simp only[A9,Cs,Bw,cond_true,cond_false,Bool.true_and,Bool.and_false,Bool.false_and,List.length_nil])<;>first|rfl|exact Cy (by omega)|exact Cz (by omega)|exact C0 (by omega)|(rename_i hh;(try simp only[List.length_nil] at hh);first|(rw[hh];first|rfl|(simp;done))|(rw[hh.1,hh.2];first|rfl|(simp;done))|(simp[hh];done)|(rcases hh with hh|hh<;>first|(rw[hh];first|rfl|(simp;done))|(simp[hh];done))))
  |with_reducible refine iQ ?_ ?_
  |((with_reducible refine aI ?_ ?_);focus (first|with_reducible exact⟨⟩|exact tO|((with_reducible show okQ _ _=true);rfl)|omega|exact tK|(simp only[Ag,ty2,ty3,ty4,ty5,ty9,Cn,Ch,Co,Ci,Cl,Cp,Cq,Cr,Bf,Bc,Bg,Bd,Bh,Bi,Bj];first|omega|(refine⟨?_,?_⟩<;>omega))))
  |(split<;>rename_i hh<;>(try simp only[wS] at hh))
  |with_reducible refine lnI fun hln=>?_
  |fail)<;>(conv=>whnf)))
 refine⟨?_,fun(k:Nat) (hk:k≤taxes.length)=>?_⟩
 ·(conv=>whnf)
  refine⟨(0:Nat),[],?_,⟨⟨rfl,(nB rfl),rfl⟩,?_,?_⟩⟩
  ·exact Nat.zero_le _
  ·(conv=>whnf)
   (repeat' ((first|with_reducible exact⟨⟩|((with_reducible refine aI ?_ ?_);focus (exact tA))|with_reducible refine iA ?_ ?_|fail)<;>(conv=>whnf)))
   all_goals (try simp only[wQ])
   all_goals (try first|omega)
   all_goals exact(Ln _).symm
  ·(conv=>whnf)
   (repeat' ((first|with_reducible exact⟨⟩|((with_reducible refine Or.inr ?_);rfl)|((with_reducible refine aI ?_ ?_);focus (exact tA))|with_reducible refine iA ?_ ?_|with_reducible refine iL ?_ ?_|with_reducible refine iB ?_ ?_|fail)<;>(conv=>whnf)))
   all_goals (try simp only[wQ])
   all_goals (try first|omega|rfl|exact⟨fun h=>h,fun _ _=>True.intro⟩)
   ·intro e he
    refine⟨?_,rfl⟩
    show Bu 0 _ _ e=_
    unfold Bu
    rw[if_neg (by omega),Nat.sub_zero]
    simp only[dF,Lk]
   ·rw[Sc,Nat.zero_add];unfold gP5;rfl
   ·intro e he
    rcases(by omega:e=0∨e=1∨e=2∨e=3∨e=4∨e=5) with rfl|rfl|rfl|rfl|rfl|rfl<;>exact⟨True.intro,rfl⟩
 ·have hfin:taxes.length≤k→ltB (Dc (gP5 ⟨key,5,day,ticket,coupon,status,locator,[],taxes,amount,frm,til⟩) 1 0 4) taxes k=((Dc (gP5 ⟨key,5,day,ticket,coupon,status,locator,[],taxes,amount,frm,til⟩) 1 0 4)&&Dv taxes):=fun h=>by
   obtain rfl:k=taxes.length:=by omega
   rw[Sd]
  have hcode:k<taxes.length→ -9223372036854775808≤fz k (0+Int.toNat (k:Int)) (taxes.getD (0+Int.toNat (k:Int)) default).code:=fun h=>by
   rw[G7 (by omega),Nat.zero_add];exact Sg hft h
  have hfz:fz k (0+Int.toNat (k:Int)) (taxes.getD (0+Int.toNat (k:Int)) default).code=(taxes.getD k default).code:=by
   rw[G7 (by omega),Nat.zero_add];rfl
  (conv=>whnf)
  (repeat' ((first
   |(with_reducible refine Ac ?_)
   |(exact absurd (by with_reducible assumption) Bool.false_ne_true)
   |((with_reducible apply Bv);(focus rfl);(focus rfl))
   |((with_reducible apply Bt);(focus rfl);(focus rfl);(focus rfl))
   |((with_reducible apply Eb);(focus rfl);(focus rfl);(focus rfl))
   |((refine⟨rfl,_,?_,rfl⟩);(try simp only[A9,Cs,Bw,cond_true,cond_false,Bool.true_and,Bool.and_false,Bool.false_and,List.length_nil])<;>first|rfl|exact Cy (by omega)|exact Cz (by omega)|exact C0 (by omega)|(rename_i hh;(try simp only[List.length_nil] at hh);first|(rw[hh];first|rfl|(simp;done))|(rw[hh.1,hh.2];first|rfl|(simp;done))|(simp[hh];done)|(rcases hh with hh|hh<;>first|(rw[hh];first|rfl|(simp;done))|(simp[hh];done))))
   |((with_reducible refine aI ?_ ?_);focus (first|exact tO|exact tK))
   |(split<;>rename_i hh<;>(try simp only[wS] at hh))
   |fail)<;>(conv=>whnf)))
  all_goals (try (show _=_;simp only[wQ]))
  ·(conv=>whnf)
   refine⟨(k+1:Nat),[],?_,⟨⟨rfl,(nB rfl),rfl⟩,?_,?_⟩⟩
   ·exact⟨show k+1≤taxes.length by omega,show taxes.length - (k+1)<taxes.length - k by omega⟩
   ·(conv=>whnf)
    (repeat' ((first|with_reducible exact⟨⟩|((with_reducible refine aI ?_ ?_);focus (exact tA))|with_reducible refine iA ?_ ?_|fail)<;>(conv=>whnf)))
    all_goals (try simp only[wQ])
    all_goals (try first|omega)
    all_goals (unfold Gz;rw[if_neg (by omega),Nat.add_sub_cancel];split<;>omega)
   ·(conv=>whnf)
    (repeat' ((first|with_reducible exact⟨⟩|((with_reducible refine Or.inr ?_);rfl)|((with_reducible refine aI ?_ ?_);focus (exact tA))|with_reducible refine iA ?_ ?_|with_reducible refine iL ?_ ?_|with_reducible refine iB ?_ ?_|fail)<;>(conv=>whnf)))
    all_goals (try simp only[wQ])
    all_goals (try first|omega|rfl|exact⟨fun h=>h,fun _ _=>True.intro⟩)
    ·intro e he
     refine⟨?_,rfl⟩
     simp only[Dq,decide_true,if_true,decide_eq_true_eq]
     by_cases h1:e=k
     ·subst h1
      simp only[if_pos (show e=0+Int.toNat (e:Int) by omega)]
      rw[Lm];simp only[Nat.zero_add,Int.toNat_natCast];rfl
     ·simp only[if_neg (show¬e=0+Int.toNat (k:Int) by omega)]
      rw[Ll h1]
    ·rw[I2 (by omega),Bool.eq_iff_iff]
     unfold D2
     simp only[Bool.and_eq_true,Bs,decide_eq_true_eq,Rl,decide_true,if_true,G7 (Nat.le_refl k),Nat.zero_add,Int.toNat_natCast,true_and,and_assoc,cond_true,cond_false]
    ·intro e he
     rcases(by omega:e=0∨e=1∨e=2∨e=3∨e=4∨e=5) with rfl|rfl|rfl|rfl|rfl|rfl<;>exact⟨True.intro,rfl⟩
  ·(conv=>whnf)
   refine⟨(k+1:Nat),[],?_,⟨⟨rfl,(nB rfl),rfl⟩,?_,?_⟩⟩
   ·exact⟨show k+1≤taxes.length by omega,show taxes.length - (k+1)<taxes.length - k by omega⟩
   ·(conv=>whnf)
    (repeat' ((first|with_reducible exact⟨⟩|((with_reducible refine aI ?_ ?_);focus (exact tA))|with_reducible refine iA ?_ ?_|fail)<;>(conv=>whnf)))
    all_goals (try simp only[wQ])
    all_goals (try first|omega)
    all_goals (unfold Gz;rw[if_neg (by omega),Nat.add_sub_cancel];split<;>omega)
   ·(conv=>whnf)
    (repeat' ((first|with_reducible exact⟨⟩|((with_reducible refine Or.inr ?_);rfl)|((with_reducible refine aI ?_ ?_);focus (exact tA))|with_reducible refine iA ?_ ?_|with_reducible refine iL ?_ ?_|with_reducible refine iB ?_ ?_|fail)<;>(conv=>whnf)))
    all_goals (try simp only[wQ])
    all_goals (try first|omega|rfl|exact⟨fun h=>h,fun _ _=>True.intro⟩)
    ·intro e he
     refine⟨?_,rfl⟩
     simp only[Dq,decide_true,if_true,decide_eq_true_eq]
     by_cases h1:e=k
     ·subst h1
      simp only[if_pos (show e=0+Int.toNat (e:Int) by omega)]
      rw[Lm];simp only[Nat.zero_add,Int.toNat_natCast];rfl
     ·simp only[if_neg (show¬e=0+Int.toNat (k:Int) by omega)]
      rw[Ll h1]
    ·rw[I2 (by omega),Bool.eq_iff_iff]
     unfold D2
     simp only[Bool.and_eq_true,Bs,decide_eq_true_eq,Rl,decide_true,if_true,G7 (Nat.le_refl k),Nat.zero_add,Int.toNat_natCast,true_and,and_assoc,cond_true,cond_false]
    ·intro e he
     rcases(by omega:e=0∨e=1∨e=2∨e=3∨e=4∨e=5) with rfl|rfl|rfl|rfl|rfl|rfl<;>exact⟨True.intro,rfl⟩
  ·exfalso
   rw[hfin (by omega)] at hh
   simp only[Bool.and_eq_true,Bs,List.length_nil] at hh
   omega
  ·symm
   refine Bool.eq_false_iff.2 fun hm=>?_
   rw[Jz] at hm
   exact P0 (m:=4) (by simp only[hm])
def Aiv:PC:=PC.of (fun r:Request=>[.agg r.enc]) (fun r=>(r.kind=5)∧r.coupons=[]∧r.taxes=[]∧E1 r) (fun r=>.bool (sB (Ah r)))
set_option maxHeartbeats 4000000 in
theorem Aiw{W:World}(hW:Tabs W):GoodP (Fw W) Tryz.prog 71 Aiv:=by
 have hD:=B7 hW
 have hC0:∀ r:Request,Ad (Fw W) Tryz.prog My:=fun r=>(kK hW)
 refine Ax (D:=Ak) (C:=fun r=>My) (wr:=(fun _=>false)) rfl Aq hD hC0 Tryz.func71 (fun _ _=>none) (fun _=>rfl) ?_
 rintro⟨key,kind,day,ticket,coupon,status,locator,coupons,taxes,amount,frm,til⟩ hf hp
 have hft:Bl [slE 2 Tax.enc taxes]:=⟨hf.1.2.2.2.2.2.2.2.2.1,True.intro⟩
 clear hf
 obtain⟨hk,hcn,htn,hp1,hp2⟩:=hp
 dsimp only at hk hcn htn hp1 hp2
 subst hcn
 subst htn
 rcases hk with rfl
 have hex: ¬Ce 5=[]:=by rw[Cc (by decide)];decide
 (conv=>whnf)
 (repeat' ((first
  |(with_reducible refine Ac ?_)
  |(exact absurd (by with_reducible assumption) hex)
  |((with_reducible refine aI ?_ ?_);focus (with_reducible exact⟨⟩))
  |(split<;>rename_i hh<;>(try simp only[wS] at hh))
  |fail)<;>(conv=>whnf)))
 refine⟨([]:List Coupon),Nat.zero_le _,?_,?_⟩
 ·exact Aj _
 (conv=>whnf)
 refine⟨([]:List Tax),Nat.zero_le _,?_,?_⟩
 ·exact Aj _
 (conv=>whnf)
 (repeat' ((first
  |(with_reducible refine Ac ?_)
  |((with_reducible apply Bv);(focus rfl);(focus rfl))
  |((with_reducible apply Bt);(focus rfl);(focus rfl);(focus rfl))
  |((refine⟨rfl,_,?_,rfl⟩);(try simp only[A9,Cs,Bw,cond_true,cond_false,Bool.true_and,Bool.and_false,Bool.false_and,List.length_nil])<;>first|rfl|exact Cy (by omega)|exact Cz (by omega)|exact C0 (by omega)|(rename_i hh;(try simp only[List.length_nil] at hh);first|(rw[hh];first|rfl|(simp;done))|(rw[hh.1,hh.2];first|rfl|(simp;done))|(simp[hh];done)|(rcases hh with hh|hh<;>first|(rw[hh];first|rfl|(simp;done))|(simp[hh];done))))
  |with_reducible refine iQ ?_ ?_
  |((with_reducible refine aI ?_ ?_);focus (first|with_reducible exact⟨⟩|exact tO|((with_reducible show okQ _ _=true);rfl)|omega|exact tK))
  |(split<;>rename_i hh<;>(try simp only[wS] at hh))
  |with_reducible refine lnI fun hln=>?_
  |fail)<;>(conv=>whnf)))
 all_goals (try (show _=_;simp only[wQ]))
 ·exfalso
  simp only[Bool.and_eq_true,Bs,List.length_nil] at hh
  omega
 ·symm
  refine Bool.eq_false_iff.2 fun hm=>?_
  rw[Jz] at hm
  exact P0 (m:=4) (by simp only[hm])
end
end Go.Vc.Z
