/- Requests, the document's: which may be, which are the same. -/
import Derived.Test.YtpmpclbdnakniaaGreatDoorV13
import Derived.Test.YtpmpclbdnakniaaGreatDoorV9
set_option linter.all false
set_option linter.unusedVariables false
set_option linter.unusedSimpArgs false
namespace Go.Vc.Z
open Go Go.Vc Go.Proofs Go.RowKit Go.Pl Go.Lib
noncomputable section
set_option maxRecDepth 100000
attribute [local irreducible] inK Utf8.decode Utf8.encode Lib.itoa Pl.worth Pl.allDig
attribute [local irreducible] Lib.join
open Classical in
@[irreducible] def Dq(a b:Request):Bool:=decide (a=b)
theorem Bb{a b:Request}:Dq a b=true↔a=b:=by unfold Dq;simp
theorem Ta{a b:Request}(h:a≠b):false=Dq a b:=by
 cases hs:Dq a b with
 |false=>rfl
 |true=>exact absurd (Bb.1 hs) h
def Oi:PC:=PC.of (fun x:Request × Request=>[.agg x.1.enc,.agg x.2.enc]) (fun _=>True) (fun x=>.bool (sB (Dq x.1 x.2)))
def LSR{α:Type}[Inhabited α](x:Request × Request)(k:Nat)(l m:List α):LoopSpec:={
 α:=Nat
 keep:=[2,3,k]
 vals i:=[.ptr 0 0,.ptr 1 0,.int .i64 i]
 heap _:=[.var x.1.enc,.var x.2.enc]
 ok i:=i≤l.length∧∀ j,j<i→l.getD j default=m.getD j default
 μ i:=l.length - i }
def Wg:Request × Request→Nat→Option LR:=fun x i=>cond (Nat.beq i 6) (some (.inv (LSR x 5 x.1.coupons x.2.coupons))) (cond (Nat.beq i 11) (some (.inv (LSR x 6 x.1.taxes x.2.taxes))) (none))
set_option maxHeartbeats 2000000 in
theorem H6{W:World}(hW:Tabs W):GoodP (Fw W) Tryz.prog 28 Oi:=by
 have hD:=A9 hW
 have hC0:∀ x:Request × Request,Ad (Fw W) Tryz.prog An:=fun x=>(Bc hW)
 refine Ar (D:=A8) (C:=fun x=>An) (wr:=(fun _=>false)) rfl Ap hD hC0 Tryz.func28 (Wg) (fun _=>rfl) ?_
 rintro⟨a,b⟩ hf hp
 clear hf
 have kc:∀ c:Coupon,cEq c c=true:=fun c=>Xo.2 rfl
 have kx:∀ c:Tax,xEq c c=true:=fun c=>Xp.2 rfl
 (conv=>whnf)
 (repeat' ((first
  |(split<;>rename_i hh<;>(try simp only[wS] at hh))
  |with_reducible refine lnI fun hln=>?_
  |fail)<;>(conv=>whnf)))
 all_goals (try (show _=_;simp only[wQ]))
 all_goals try (refine Ta fun h=>?_;subst h;simp_all;done)
 refine⟨?_,fun(i:Nat) hi=>?_⟩
 ·(conv=>whnf)
  refine⟨(0:Nat),[],?_,⟨⟨rfl,(nB rfl),rfl⟩,?_,?_⟩⟩
  ·exact⟨Nat.zero_le _,fun j hj=>absurd hj (Nat.not_lt_zero _)⟩
  ·exact tL
  ·exact tL
 ·obtain⟨h1,m1⟩:=hi
  have h1:i≤a.coupons.length:=h1
  (conv=>whnf)
  (repeat' ((first
   |(refine Abx ?_)
   |((with_reducible refine aI ?_ ?_);focus (first|exact tO|((with_reducible refine⟨?_,?_⟩)<;>first|with_reducible assumption|omega)|exact tK|(dsimp only at*;simp only[Am,Go.Vc.lo,Go.Vc.hi];omega)))
   |(split<;>rename_i hh<;>(try simp only[wS] at hh))
   |with_reducible refine lnI fun hln=>?_
   |fail)<;>(conv=>whnf)))
  all_goals (try (show _=_;simp only[wQ]))
  ·refine Ta fun h=>?_;subst h;rw[kc _] at hh;cases hh
  ·(conv=>whnf)
   refine⟨(i+1:Nat),[],?_,⟨⟨rfl,(nB rfl),rfl⟩,?_,?_⟩⟩
   ·refine⟨⟨show i+1≤a.coupons.length by omega,fun j hj=>?_⟩,show a.coupons.length - (i+1)<a.coupons.length - i by omega⟩
    have hj:j<i+1:=hj
    by_cases he:j=i
    ·subst he;exact Xo.1 hh
    ·exact m1 j (by omega)
   ·exact tL
   ·exact tL
  refine⟨?_,fun(i:Nat) hi=>?_⟩
  ·(conv=>whnf)
   refine⟨(0:Nat),[],?_,⟨⟨rfl,(nB rfl),rfl⟩,?_,?_⟩⟩
   ·exact⟨Nat.zero_le _,fun j hj=>absurd hj (Nat.not_lt_zero _)⟩
   ·exact tL
   ·exact tL
  ·obtain⟨h1,m2⟩:=hi
   have h1:i≤a.taxes.length:=h1
   (conv=>whnf)
   (repeat' ((first
    |(refine Aby ?_)
    |((with_reducible refine aI ?_ ?_);focus (first|exact tO|((with_reducible refine⟨?_,?_⟩)<;>first|with_reducible assumption|omega)|exact tK|(dsimp only at*;simp only[Am,Go.Vc.lo,Go.Vc.hi];omega)))
    |(split<;>rename_i hh<;>(try simp only[wS] at hh))
    |with_reducible refine lnI fun hln=>?_
    |fail)<;>(conv=>whnf)))
   all_goals (try (show _=_;simp only[wQ]))
   ·refine Ta fun h=>?_;subst h;rw[kx _] at hh;cases hh
   ·(conv=>whnf)
    refine⟨(i+1:Nat),[],?_,⟨⟨rfl,(nB rfl),rfl⟩,?_,?_⟩⟩
    ·refine⟨⟨show i+1≤a.taxes.length by omega,fun j hj=>?_⟩,show a.taxes.length - (i+1)<a.taxes.length - i by omega⟩
     have hj:j<i+1:=hj
     by_cases he:j=i
     ·subst he;exact Xp.1 hh
     ·exact m2 j (by omega)
    ·exact tL
    ·exact tL
   refine(Bb.2 ?_).symm
   have e1:a.coupons=b.coupons:=I0 (by omega) fun j hj=>m1 j (by omega)
   have e2:a.taxes=b.taxes:=I0 (by omega) fun j hj=>m2 j (by omega)
   cases a;cases b
   simp only at*
   simp only[*]
@[irreducible] def Ba(r:Request)(c:Int):Bool:=
 if c=75 then Fp r.key else if c=68 then Fy r.day else if c=76 then Fx r.locator else if c=84 then Ee r.ticket
 else if c=78 then decide (1≤r.coupon)&&decide (r.coupon≤4) else if c=83 then Ir r.status else if c=65 then Dh r.amount
 else if c=74 then E8 12 r.coupons else if c=67 then E8 4 r.coupons else if c=88 then De r.taxes else Fy r.frm&&Fy r.til
def Ct(r:Request):Request:=cond (eqI r.kind 1) ⟨r.key,r.kind,r.day,0,0,0,r.locator,r.coupons,r.taxes,0,0,0⟩ (cond (eqI r.kind 2) ⟨r.key,r.kind,r.day,r.ticket,r.coupon,r.status,[],[],[],0,0,0⟩ (cond (eqI r.kind 3) ⟨r.key,r.kind,r.day,r.ticket,0,0,[],[],[],0,0,0⟩ (cond (eqI r.kind 4) ⟨r.key,r.kind,r.day,r.ticket,0,0,[],[],[],r.amount,0,0⟩ (cond (eqI r.kind 5) ⟨r.key,r.kind,r.day,r.ticket,0,0,[],r.coupons,r.taxes,r.amount,0,0⟩ (cond (eqI r.kind 6) ⟨r.key,r.kind,r.day,r.ticket,r.coupon,0,[],[],[],0,0,0⟩ (cond (eqI r.kind 7) ⟨r.key,r.kind,r.day,r.ticket,r.coupon,0,[],[],[],0,0,0⟩ (cond (eqI r.kind 8) ⟨[],r.kind,0,r.ticket,0,0,[],[],[],0,0,0⟩ (cond (eqI r.kind 9) ⟨[],r.kind,0,0,0,0,r.locator,[],[],0,0,0⟩ (cond (eqI r.kind 10) ⟨[],r.kind,0,0,0,0,[],[],[],0,r.frm,r.til⟩ (⟨[],r.kind,0,0,0,0,[],[],[],0,0,0⟩))))))))))
@[irreducible] def Ah(r:Request):Bool:=cond (eqI r.kind 1) (Ba r 75&&(Ba r 68&&(Ba r 76&&(Ba r 74&&(Ba r 88&&Dq r (Ct r)))))) (cond (eqI r.kind 2) (Ba r 75&&(Ba r 68&&(Ba r 84&&(Ba r 78&&(Ba r 83&&Dq r (Ct r)))))) (cond (eqI r.kind 3) (Ba r 75&&(Ba r 68&&(Ba r 84&&Dq r (Ct r)))) (cond (eqI r.kind 4) (Ba r 75&&(Ba r 68&&(Ba r 84&&(Ba r 65&&Dq r (Ct r))))) (cond (eqI r.kind 5) (Ba r 75&&(Ba r 68&&(Ba r 84&&(Ba r 65&&(Ba r 67&&(Ba r 88&&Dq r (Ct r))))))) (cond (eqI r.kind 6) (Ba r 75&&(Ba r 68&&(Ba r 84&&(Ba r 78&&Dq r (Ct r))))) (cond (eqI r.kind 7) (Ba r 75&&(Ba r 68&&(Ba r 84&&(Ba r 78&&Dq r (Ct r))))) (cond (eqI r.kind 8) (Ba r 84&&Dq r (Ct r)) (cond (eqI r.kind 9) (Ba r 76&&Dq r (Ct r)) (cond (eqI r.kind 10) (Ba r 82&&Dq r (Ct r)) (false))))))))))
theorem Tb{r:Request}(h:r.kind=1):Ah r=(Ba r 75&&(Ba r 68&&(Ba r 76&&(Ba r 74&&(Ba r 88&&Dq r (Ct r)))))):=by unfold Ah;rw[h];rfl
theorem Xw{r:Request}(h:r.kind=2):Ah r=(Ba r 75&&(Ba r 68&&(Ba r 84&&(Ba r 78&&(Ba r 83&&Dq r (Ct r)))))):=by unfold Ah;rw[h];rfl
theorem Xx{r:Request}(h:r.kind=3):Ah r=(Ba r 75&&(Ba r 68&&(Ba r 84&&Dq r (Ct r)))):=by unfold Ah;rw[h];rfl
theorem Xy{r:Request}(h:r.kind=4):Ah r=(Ba r 75&&(Ba r 68&&(Ba r 84&&(Ba r 65&&Dq r (Ct r))))):=by unfold Ah;rw[h];rfl
theorem Xz{r:Request}(h:r.kind=5):Ah r=(Ba r 75&&(Ba r 68&&(Ba r 84&&(Ba r 65&&(Ba r 67&&(Ba r 88&&Dq r (Ct r))))))):=by unfold Ah;rw[h];rfl
theorem X0{r:Request}(h:r.kind=6):Ah r=(Ba r 75&&(Ba r 68&&(Ba r 84&&(Ba r 78&&Dq r (Ct r))))):=by unfold Ah;rw[h];rfl
theorem X1{r:Request}(h:r.kind=7):Ah r=(Ba r 75&&(Ba r 68&&(Ba r 84&&(Ba r 78&&Dq r (Ct r))))):=by unfold Ah;rw[h];rfl
theorem X2{r:Request}(h:r.kind=8):Ah r=(Ba r 84&&Dq r (Ct r)):=by unfold Ah;rw[h];rfl
theorem X3{r:Request}(h:r.kind=9):Ah r=(Ba r 76&&Dq r (Ct r)):=by unfold Ah;rw[h];rfl
theorem Ug{r:Request}(h:r.kind=10):Ah r=(Ba r 82&&Dq r (Ct r)):=by unfold Ah;rw[h];rfl
theorem P9{r:Request}(h: ¬(1≤r.kind∧r.kind≤10)):Ah r=false:=by
 unfold Ah
 have e:∀ k:Int,1≤k→k≤10→eqI r.kind k=false:=fun k h1 h2=>by
  rw[Be,beq_eq_false_iff_ne];omega
 simp only[e 1 (by decide) (by decide),e 2 (by decide) (by decide),e 3 (by decide) (by decide),e 4 (by decide) (by decide),e 5 (by decide) (by decide),e 6 (by decide) (by decide),e 7 (by decide) (by decide),e 8 (by decide) (by decide),e 9 (by decide) (by decide),e 10 (by decide) (by decide),cond_false]
def Ano:PC:=PC.of (fun x:Request × Int=>[.agg x.1.enc,.int .u8 x.2]) (fun _=>True) (fun x=>.bool (sB (Ba x.1 x.2)))
def F8:PT:=C2 [(63,Amp),(64,Pw),(69,fK),(138,Amo),(139,zC),(165,Sz),(166,Ahw),(167,Ahk)]
theorem Jr{W:World}(hW:Tabs W):Cl (Fw W) Tryz.prog F8:=(Ab Tryz.call63 (Qu hW) (Ab Tryz.call64 (Rt hW) (Ab Tryz.call69 (Oc hW) (Ab Tryz.call138 (Od hW) (Ab Tryz.call139 (H1 hW) (Ab Tryz.call165 (S4 hW) (Ab Tryz.call166 (O5 hW) (Ab Tryz.call167 (Qy hW) As))))))))
def F9:FuncId→Option Ctr:=Aw F8 []
theorem Rv{W:World}(hW:Tabs W):Ad (Fw W) Tryz.prog F9:=(Au (Jr hW))
set_option maxHeartbeats 2000000 in
theorem Rw{W:World}(hW:Tabs W):GoodP (Fw W) Tryz.prog 76 Ano:=by
 have hD:=Jr hW
 have hC0:∀ x:Request × Int,Ad (Fw W) Tryz.prog F9:=fun x=>(Rv hW)
 refine Ar (D:=F8) (C:=fun x=>F9) (wr:=(fun _=>false)) rfl Ap hD hC0 Tryz.func76 (fun _ _=>none) (fun _=>rfl) ?_
 rintro⟨r,c⟩ hf hp
 clear hf
 have hb:Ba r c=if c=75 then Fp r.key else if c=68 then Fy r.day else if c=76 then Fx r.locator else if c=84 then Ee r.ticket else if c=78 then decide (1≤r.coupon)&&decide (r.coupon≤4) else if c=83 then Ir r.status else if c=65 then Dh r.amount else if c=74 then E8 12 r.coupons else if c=67 then E8 4 r.coupons else if c=88 then De r.taxes else Fy r.frm&&Fy r.til:=by unfold Ba;rfl
 (conv=>whnf)
 (repeat' ((first
  |((with_reducible refine aI ?_ ?_);focus (with_reducible exact⟨⟩))
  |(split<;>rename_i hh<;>(try simp only[wS] at hh))
  |fail)<;>(conv=>whnf)))
 all_goals (try (show _=_;simp only[wQ]))
 all_goals try (
  first
  |refine⟨(r.coupons,(12:Int)),True.intro,Ac _,?_⟩
  |refine⟨(r.coupons,(4:Int)),True.intro,Ac _,?_⟩
  |refine⟨r.taxes,True.intro,Ac _,?_⟩
  (conv=>whnf)
  all_goals (try (show _=_;simp only[wQ])))
 all_goals (rw[hb];simp[*,Ca];try (intros;omega))
def Anp:PC:=PC.of (fun r:Request=>[.agg r.enc]) (fun r=>1≤r.kind∧r.kind≤10) (fun r=>.agg (Ct r).enc)
def H7:PT:=C2 [(75,Ahu)]
theorem Na{W:World}(hW:Tabs W):Cl (Fw W) Tryz.prog H7:=(Ab Tryz.call75 (I1 hW) As)
def H8:FuncId→Option Ctr:=Aw H7 []
theorem Wh{W:World}(hW:Tabs W):Ad (Fw W) Tryz.prog H8:=(Au (Na hW))
def Wi:Request→Nat→Option LR:=fun r i=>cond (Nat.beq i 4) (some (.unroll 7)) (none)
set_option maxHeartbeats 2000000 in
theorem Wj{W:World}(hW:Tabs W):GoodP (Fw W) Tryz.prog 77 Anp:=by
 have hD:=Na hW
 have hC0:∀ r:Request,Ad (Fw W) Tryz.prog H8:=fun r=>(Wh hW)
 refine Ar (D:=H7) (C:=fun r=>H8) (wr:=(fun _=>false)) rfl Ap hD hC0 Tryz.func77 (Wi) (fun _=>rfl) ?_
 rintro⟨key,kind,day,ticket,coupon,status,locator,coupons,taxes,amount,frm,til⟩ hf hp
 clear hf
 rcases kinds hp with rfl|rfl|rfl|rfl|rfl|rfl|rfl|rfl|rfl|rfl
 all_goals (
  (conv=>whnf)
  (repeat' ((first
   |with_reducible exact⟨⟩
   |((with_reducible refine aI ?_ ?_);focus (refine⟨?_,?_⟩<;>exact of_decide_eq_true rfl))
   |((with_reducible refine aI ?_ ?_);focus (first|with_reducible exact⟨⟩|with_reducible rfl|exact tK))
   |with_reducible refine lnI fun hln=>?_
   |with_reducible refine iA ?_ ?_
   |fail)<;>(conv=>whnf)))
  all_goals (try (show _=_;simp only[wQ]))
  )
 all_goals first|rfl|exact⟨rfl,fun h=>h,fun _ _=>rfl⟩
def Acc:PC:=PC.of (fun r:Request=>[.agg r.enc]) (fun _=>True) (fun r=>.bool (sB (Ah r)))
def I6:PT:=C2 [(28,Oi),(75,Ahu),(76,Ano),(77,Anp)]
theorem Oj{W:World}(hW:Tabs W):Cl (Fw W) Tryz.prog I6:=(Ab Tryz.call28 (H6 hW) (Ab Tryz.call75 (I1 hW) (Ab Tryz.call76 (Rw hW) (Ab Tryz.call77 (Wj hW) As))))
def I7:FuncId→Option Ctr:=Aw I6 []
theorem X4{W:World}(hW:Tabs W):Ad (Fw W) Tryz.prog I7:=(Au (Oj hW))
def X5:Request→Nat→Option LR:=fun r i=>cond (Nat.beq i 3) (some (.unroll 7)) (none)
set_option maxHeartbeats 4000000 in
theorem X6{W:World}(hW:Tabs W):GoodP (Fw W) Tryz.prog 25 Acc:=by
 have hD:=Oj hW
 have hC0:∀ r:Request,Ad (Fw W) Tryz.prog I7:=fun r=>(X4 hW)
 refine Ar (D:=I6) (C:=fun r=>I7) (wr:=(fun _=>false)) rfl Ap hD hC0 Tryz.func25 (X5) (fun _=>rfl) ?_
 rintro⟨key,kind,day,ticket,coupon,status,locator,coupons,taxes,amount,frm,til⟩ hf hp
 clear hf
 by_cases h:1≤kind∧kind≤10
 ·rcases kinds h with rfl|rfl|rfl|rfl|rfl|rfl|rfl|rfl|rfl|rfl
  ·have hm:=Tb (r:=⟨key,1,day,ticket,coupon,status,locator,coupons,taxes,amount,frm,til⟩) rfl
   (conv=>whnf)
   (repeat' ((first
    |((with_reducible refine aI ?_ ?_);focus (refine⟨?_,?_⟩<;>exact of_decide_eq_true rfl))
    |((with_reducible refine aI ?_ ?_);focus (first|with_reducible exact⟨⟩|exact tO))
    |with_reducible refine lnI fun hln=>?_
    |fail)<;>(conv=>whnf)))
   refine⟨((⟨key,1,day,ticket,coupon,status,locator,coupons,taxes,amount,frm,til⟩:Request),(75:Int)),True.intro,?_,?_⟩
   ·exact Ac _
   (conv=>whnf)
   (repeat' ((first
    |((with_reducible refine aI ?_ ?_);focus (refine⟨?_,?_⟩<;>exact of_decide_eq_true rfl))
    |((with_reducible refine aI ?_ ?_);focus (first|exact tO|exact tK))
    |(split<;>rename_i hh<;>(try simp only[wS] at hh))
    |with_reducible refine lnI fun hln=>?_
    |fail)<;>(conv=>whnf)))
   all_goals (try (show _=_;simp only[wQ]))
   ·rw[hm];simp[*]
   refine⟨((⟨key,1,day,ticket,coupon,status,locator,coupons,taxes,amount,frm,til⟩:Request),(68:Int)),True.intro,?_,?_⟩
   ·exact Ac _
   (conv=>whnf)
   (repeat' ((first
    |((with_reducible refine aI ?_ ?_);focus (refine⟨?_,?_⟩<;>exact of_decide_eq_true rfl))
    |((with_reducible refine aI ?_ ?_);focus (first|exact tO|exact tK))
    |(split<;>rename_i hh<;>(try simp only[wS] at hh))
    |with_reducible refine lnI fun hln=>?_
    |fail)<;>(conv=>whnf)))
   all_goals (try (show _=_;simp only[wQ]))
   ·rw[hm];simp[*]
   refine⟨((⟨key,1,day,ticket,coupon,status,locator,coupons,taxes,amount,frm,til⟩:Request),(76:Int)),True.intro,?_,?_⟩
   ·exact Ac _
   (conv=>whnf)
   (repeat' ((first
    |((with_reducible refine aI ?_ ?_);focus (refine⟨?_,?_⟩<;>exact of_decide_eq_true rfl))
    |((with_reducible refine aI ?_ ?_);focus (first|exact tO|exact tK))
    |(split<;>rename_i hh<;>(try simp only[wS] at hh))
    |with_reducible refine lnI fun hln=>?_
    |fail)<;>(conv=>whnf)))
   all_goals (try (show _=_;simp only[wQ]))
   ·rw[hm];simp[*]
   refine⟨((⟨key,1,day,ticket,coupon,status,locator,coupons,taxes,amount,frm,til⟩:Request),(74:Int)),True.intro,?_,?_⟩
   ·exact Ac _
   (conv=>whnf)
   (repeat' ((first
    |((with_reducible refine aI ?_ ?_);focus (refine⟨?_,?_⟩<;>exact of_decide_eq_true rfl))
    |((with_reducible refine aI ?_ ?_);focus (first|exact tO|exact tK))
    |(split<;>rename_i hh<;>(try simp only[wS] at hh))
    |with_reducible refine lnI fun hln=>?_
    |fail)<;>(conv=>whnf)))
   all_goals (try (show _=_;simp only[wQ]))
   ·rw[hm];simp[*]
   refine⟨((⟨key,1,day,ticket,coupon,status,locator,coupons,taxes,amount,frm,til⟩:Request),(88:Int)),True.intro,?_,?_⟩
   ·exact Ac _
   (conv=>whnf)
   (repeat' ((first
    |((with_reducible refine aI ?_ ?_);focus (exact tK))
    |(split<;>rename_i hh<;>(try simp only[wS] at hh))
    |with_reducible refine lnI fun hln=>?_
    |fail)<;>(conv=>whnf)))
   all_goals (try (show _=_;simp only[wQ]))
   ·rw[hm];simp[*]
   refine⟨(⟨key,1,day,ticket,coupon,status,locator,coupons,taxes,amount,frm,til⟩:Request),⟨of_decide_eq_true rfl,of_decide_eq_true rfl⟩,?_,?_⟩
   ·exact Ac _
   (conv=>whnf)
   (repeat' ((first
    |((with_reducible refine aI ?_ ?_);focus (exact tO))
    |fail)<;>(conv=>whnf)))
   refine⟨((⟨key,1,day,ticket,coupon,status,locator,coupons,taxes,amount,frm,til⟩:Request),Ct ⟨key,1,day,ticket,coupon,status,locator,coupons,taxes,amount,frm,til⟩),True.intro,?_,?_⟩
   ·exact Ac _
   (conv=>whnf)
   all_goals (try (show _=_;simp only[wQ]))
   rw[hm];simp[*]
  ·have hm:=Xw (r:=⟨key,2,day,ticket,coupon,status,locator,coupons,taxes,amount,frm,til⟩) rfl
   (conv=>whnf)
   (repeat' ((first
    |((with_reducible refine aI ?_ ?_);focus (refine⟨?_,?_⟩<;>exact of_decide_eq_true rfl))
    |((with_reducible refine aI ?_ ?_);focus (first|with_reducible exact⟨⟩|exact tO))
    |with_reducible refine lnI fun hln=>?_
    |fail)<;>(conv=>whnf)))
   refine⟨((⟨key,2,day,ticket,coupon,status,locator,coupons,taxes,amount,frm,til⟩:Request),(75:Int)),True.intro,?_,?_⟩
   ·exact Ac _
   (conv=>whnf)
   (repeat' ((first
    |((with_reducible refine aI ?_ ?_);focus (refine⟨?_,?_⟩<;>exact of_decide_eq_true rfl))
    |((with_reducible refine aI ?_ ?_);focus (first|exact tO|exact tK))
    |(split<;>rename_i hh<;>(try simp only[wS] at hh))
    |with_reducible refine lnI fun hln=>?_
    |fail)<;>(conv=>whnf)))
   all_goals (try (show _=_;simp only[wQ]))
   ·rw[hm];simp[*]
   refine⟨((⟨key,2,day,ticket,coupon,status,locator,coupons,taxes,amount,frm,til⟩:Request),(68:Int)),True.intro,?_,?_⟩
   ·exact Ac _
   (conv=>whnf)
   (repeat' ((first
    |((with_reducible refine aI ?_ ?_);focus (refine⟨?_,?_⟩<;>exact of_decide_eq_true rfl))
    |((with_reducible refine aI ?_ ?_);focus (first|exact tO|exact tK))
    |(split<;>rename_i hh<;>(try simp only[wS] at hh))
    |with_reducible refine lnI fun hln=>?_
    |fail)<;>(conv=>whnf)))
   all_goals (try (show _=_;simp only[wQ]))
   ·rw[hm];simp[*]
   refine⟨((⟨key,2,day,ticket,coupon,status,locator,coupons,taxes,amount,frm,til⟩:Request),(84:Int)),True.intro,?_,?_⟩
   ·exact Ac _
   (conv=>whnf)
   (repeat' ((first
    |((with_reducible refine aI ?_ ?_);focus (refine⟨?_,?_⟩<;>exact of_decide_eq_true rfl))
    |((with_reducible refine aI ?_ ?_);focus (first|exact tO|exact tK))
    |(split<;>rename_i hh<;>(try simp only[wS] at hh))
    |with_reducible refine lnI fun hln=>?_
    |fail)<;>(conv=>whnf)))
   all_goals (try (show _=_;simp only[wQ]))
   ·rw[hm];simp[*]
   refine⟨((⟨key,2,day,ticket,coupon,status,locator,coupons,taxes,amount,frm,til⟩:Request),(78:Int)),True.intro,?_,?_⟩
   ·exact Ac _
   (conv=>whnf)
   (repeat' ((first
    |((with_reducible refine aI ?_ ?_);focus (refine⟨?_,?_⟩<;>exact of_decide_eq_true rfl))
    |((with_reducible refine aI ?_ ?_);focus (first|exact tO|exact tK))
    |(split<;>rename_i hh<;>(try simp only[wS] at hh))
    |with_reducible refine lnI fun hln=>?_
    |fail)<;>(conv=>whnf)))
   all_goals (try (show _=_;simp only[wQ]))
   ·rw[hm];simp[*]
   refine⟨((⟨key,2,day,ticket,coupon,status,locator,coupons,taxes,amount,frm,til⟩:Request),(83:Int)),True.intro,?_,?_⟩
   ·exact Ac _
   (conv=>whnf)
   (repeat' ((first
    |((with_reducible refine aI ?_ ?_);focus (exact tK))
    |(split<;>rename_i hh<;>(try simp only[wS] at hh))
    |with_reducible refine lnI fun hln=>?_
    |fail)<;>(conv=>whnf)))
   all_goals (try (show _=_;simp only[wQ]))
   ·rw[hm];simp[*]
   refine⟨(⟨key,2,day,ticket,coupon,status,locator,coupons,taxes,amount,frm,til⟩:Request),⟨of_decide_eq_true rfl,of_decide_eq_true rfl⟩,?_,?_⟩
   ·exact Ac _
   (conv=>whnf)
   (repeat' ((first
    |((with_reducible refine aI ?_ ?_);focus (exact tO))
    |fail)<;>(conv=>whnf)))
   refine⟨((⟨key,2,day,ticket,coupon,status,locator,coupons,taxes,amount,frm,til⟩:Request),Ct ⟨key,2,day,ticket,coupon,status,locator,coupons,taxes,amount,frm,til⟩),True.intro,?_,?_⟩
   ·exact Ac _
   (conv=>whnf)
   all_goals (try (show _=_;simp only[wQ]))
   rw[hm];simp[*]
  ·have hm:=Xx (r:=⟨key,3,day,ticket,coupon,status,locator,coupons,taxes,amount,frm,til⟩) rfl
   (conv=>whnf)
   (repeat' ((first
    |((with_reducible refine aI ?_ ?_);focus (refine⟨?_,?_⟩<;>exact of_decide_eq_true rfl))
    |((with_reducible refine aI ?_ ?_);focus (first|with_reducible exact⟨⟩|exact tO))
    |with_reducible refine lnI fun hln=>?_
    |fail)<;>(conv=>whnf)))
   refine⟨((⟨key,3,day,ticket,coupon,status,locator,coupons,taxes,amount,frm,til⟩:Request),(75:Int)),True.intro,?_,?_⟩
   ·exact Ac _
   (conv=>whnf)
   (repeat' ((first
    |((with_reducible refine aI ?_ ?_);focus (refine⟨?_,?_⟩<;>exact of_decide_eq_true rfl))
    |((with_reducible refine aI ?_ ?_);focus (first|exact tO|exact tK))
    |(split<;>rename_i hh<;>(try simp only[wS] at hh))
    |with_reducible refine lnI fun hln=>?_
    |fail)<;>(conv=>whnf)))
   all_goals (try (show _=_;simp only[wQ]))
   ·rw[hm];simp[*]
   refine⟨((⟨key,3,day,ticket,coupon,status,locator,coupons,taxes,amount,frm,til⟩:Request),(68:Int)),True.intro,?_,?_⟩
   ·exact Ac _
   (conv=>whnf)
   (repeat' ((first
    |((with_reducible refine aI ?_ ?_);focus (refine⟨?_,?_⟩<;>exact of_decide_eq_true rfl))
    |((with_reducible refine aI ?_ ?_);focus (first|exact tO|exact tK))
    |(split<;>rename_i hh<;>(try simp only[wS] at hh))
    |with_reducible refine lnI fun hln=>?_
    |fail)<;>(conv=>whnf)))
   all_goals (try (show _=_;simp only[wQ]))
   ·rw[hm];simp[*]
   refine⟨((⟨key,3,day,ticket,coupon,status,locator,coupons,taxes,amount,frm,til⟩:Request),(84:Int)),True.intro,?_,?_⟩
   ·exact Ac _
   (conv=>whnf)
   (repeat' ((first
    |((with_reducible refine aI ?_ ?_);focus (exact tK))
    |(split<;>rename_i hh<;>(try simp only[wS] at hh))
    |with_reducible refine lnI fun hln=>?_
    |fail)<;>(conv=>whnf)))
   all_goals (try (show _=_;simp only[wQ]))
   ·rw[hm];simp[*]
   refine⟨(⟨key,3,day,ticket,coupon,status,locator,coupons,taxes,amount,frm,til⟩:Request),⟨of_decide_eq_true rfl,of_decide_eq_true rfl⟩,?_,?_⟩
   ·exact Ac _
   (conv=>whnf)
   (repeat' ((first
    |((with_reducible refine aI ?_ ?_);focus (exact tO))
    |fail)<;>(conv=>whnf)))
   refine⟨((⟨key,3,day,ticket,coupon,status,locator,coupons,taxes,amount,frm,til⟩:Request),Ct ⟨key,3,day,ticket,coupon,status,locator,coupons,taxes,amount,frm,til⟩),True.intro,?_,?_⟩
   ·exact Ac _
   (conv=>whnf)
   all_goals (try (show _=_;simp only[wQ]))
   rw[hm];simp[*]
  ·have hm:=Xy (r:=⟨key,4,day,ticket,coupon,status,locator,coupons,taxes,amount,frm,til⟩) rfl
   (conv=>whnf)
   (repeat' ((first
    |((with_reducible refine aI ?_ ?_);focus (refine⟨?_,?_⟩<;>exact of_decide_eq_true rfl))
    |((with_reducible refine aI ?_ ?_);focus (first|with_reducible exact⟨⟩|exact tO))
    |with_reducible refine lnI fun hln=>?_
    |fail)<;>(conv=>whnf)))
   refine⟨((⟨key,4,day,ticket,coupon,status,locator,coupons,taxes,amount,frm,til⟩:Request),(75:Int)),True.intro,?_,?_⟩
   ·exact Ac _
   (conv=>whnf)
   (repeat' ((first
    |((with_reducible refine aI ?_ ?_);focus (refine⟨?_,?_⟩<;>exact of_decide_eq_true rfl))
    |((with_reducible refine aI ?_ ?_);focus (first|exact tO|exact tK))
    |(split<;>rename_i hh<;>(try simp only[wS] at hh))
    |with_reducible refine lnI fun hln=>?_
    |fail)<;>(conv=>whnf)))
   all_goals (try (show _=_;simp only[wQ]))
   ·rw[hm];simp[*]
   refine⟨((⟨key,4,day,ticket,coupon,status,locator,coupons,taxes,amount,frm,til⟩:Request),(68:Int)),True.intro,?_,?_⟩
   ·exact Ac _
   (conv=>whnf)
   (repeat' ((first
    |((with_reducible refine aI ?_ ?_);focus (refine⟨?_,?_⟩<;>exact of_decide_eq_true rfl))
    |((with_reducible refine aI ?_ ?_);focus (first|exact tO|exact tK))
    |(split<;>rename_i hh<;>(try simp only[wS] at hh))
    |with_reducible refine lnI fun hln=>?_
    |fail)<;>(conv=>whnf)))
   all_goals (try (show _=_;simp only[wQ]))
   ·rw[hm];simp[*]
   refine⟨((⟨key,4,day,ticket,coupon,status,locator,coupons,taxes,amount,frm,til⟩:Request),(84:Int)),True.intro,?_,?_⟩
   ·exact Ac _
   (conv=>whnf)
   (repeat' ((first
    |((with_reducible refine aI ?_ ?_);focus (refine⟨?_,?_⟩<;>exact of_decide_eq_true rfl))
    |((with_reducible refine aI ?_ ?_);focus (first|exact tO|exact tK))
    |(split<;>rename_i hh<;>(try simp only[wS] at hh))
    |with_reducible refine lnI fun hln=>?_
    |fail)<;>(conv=>whnf)))
   all_goals (try (show _=_;simp only[wQ]))
   ·rw[hm];simp[*]
   refine⟨((⟨key,4,day,ticket,coupon,status,locator,coupons,taxes,amount,frm,til⟩:Request),(65:Int)),True.intro,?_,?_⟩
   ·exact Ac _
   (conv=>whnf)
   (repeat' ((first
    |((with_reducible refine aI ?_ ?_);focus (exact tK))
    |(split<;>rename_i hh<;>(try simp only[wS] at hh))
    |with_reducible refine lnI fun hln=>?_
    |fail)<;>(conv=>whnf)))
   all_goals (try (show _=_;simp only[wQ]))
   ·rw[hm];simp[*]
   refine⟨(⟨key,4,day,ticket,coupon,status,locator,coupons,taxes,amount,frm,til⟩:Request),⟨of_decide_eq_true rfl,of_decide_eq_true rfl⟩,?_,?_⟩
   ·exact Ac _
   (conv=>whnf)
   (repeat' ((first
    |((with_reducible refine aI ?_ ?_);focus (exact tO))
    |fail)<;>(conv=>whnf)))
   refine⟨((⟨key,4,day,ticket,coupon,status,locator,coupons,taxes,amount,frm,til⟩:Request),Ct ⟨key,4,day,ticket,coupon,status,locator,coupons,taxes,amount,frm,til⟩),True.intro,?_,?_⟩
   ·exact Ac _
   (conv=>whnf)
   all_goals (try (show _=_;simp only[wQ]))
   rw[hm];simp[*]
  ·have hm:=Xz (r:=⟨key,5,day,ticket,coupon,status,locator,coupons,taxes,amount,frm,til⟩) rfl
   (conv=>whnf)
   (repeat' ((first
    |((with_reducible refine aI ?_ ?_);focus (refine⟨?_,?_⟩<;>exact of_decide_eq_true rfl))
    |((with_reducible refine aI ?_ ?_);focus (first|with_reducible exact⟨⟩|exact tO))
    |with_reducible refine lnI fun hln=>?_
    |fail)<;>(conv=>whnf)))
   refine⟨((⟨key,5,day,ticket,coupon,status,locator,coupons,taxes,amount,frm,til⟩:Request),(75:Int)),True.intro,?_,?_⟩
   ·exact Ac _
   (conv=>whnf)
   (repeat' ((first
    |((with_reducible refine aI ?_ ?_);focus (refine⟨?_,?_⟩<;>exact of_decide_eq_true rfl))
    |((with_reducible refine aI ?_ ?_);focus (first|exact tO|exact tK))
    |(split<;>rename_i hh<;>(try simp only[wS] at hh))
    |with_reducible refine lnI fun hln=>?_
    |fail)<;>(conv=>whnf)))
   all_goals (try (show _=_;simp only[wQ]))
   ·rw[hm];simp[*]
   refine⟨((⟨key,5,day,ticket,coupon,status,locator,coupons,taxes,amount,frm,til⟩:Request),(68:Int)),True.intro,?_,?_⟩
   ·exact Ac _
   (conv=>whnf)
   (repeat' ((first
    |((with_reducible refine aI ?_ ?_);focus (refine⟨?_,?_⟩<;>exact of_decide_eq_true rfl))
    |((with_reducible refine aI ?_ ?_);focus (first|exact tO|exact tK))
    |(split<;>rename_i hh<;>(try simp only[wS] at hh))
    |with_reducible refine lnI fun hln=>?_
    |fail)<;>(conv=>whnf)))
   all_goals (try (show _=_;simp only[wQ]))
   ·rw[hm];simp[*]
   refine⟨((⟨key,5,day,ticket,coupon,status,locator,coupons,taxes,amount,frm,til⟩:Request),(84:Int)),True.intro,?_,?_⟩
   ·exact Ac _
   (conv=>whnf)
   (repeat' ((first
    |((with_reducible refine aI ?_ ?_);focus (refine⟨?_,?_⟩<;>exact of_decide_eq_true rfl))
    |((with_reducible refine aI ?_ ?_);focus (first|exact tO|exact tK))
    |(split<;>rename_i hh<;>(try simp only[wS] at hh))
    |with_reducible refine lnI fun hln=>?_
    |fail)<;>(conv=>whnf)))
   all_goals (try (show _=_;simp only[wQ]))
   ·rw[hm];simp[*]
   refine⟨((⟨key,5,day,ticket,coupon,status,locator,coupons,taxes,amount,frm,til⟩:Request),(65:Int)),True.intro,?_,?_⟩
   ·exact Ac _
   (conv=>whnf)
   (repeat' ((first
    |((with_reducible refine aI ?_ ?_);focus (refine⟨?_,?_⟩<;>exact of_decide_eq_true rfl))
    |((with_reducible refine aI ?_ ?_);focus (first|exact tO|exact tK))
    |(split<;>rename_i hh<;>(try simp only[wS] at hh))
    |with_reducible refine lnI fun hln=>?_
    |fail)<;>(conv=>whnf)))
   all_goals (try (show _=_;simp only[wQ]))
   ·rw[hm];simp[*]
   refine⟨((⟨key,5,day,ticket,coupon,status,locator,coupons,taxes,amount,frm,til⟩:Request),(67:Int)),True.intro,?_,?_⟩
   ·exact Ac _
   (conv=>whnf)
   (repeat' ((first
    |((with_reducible refine aI ?_ ?_);focus (refine⟨?_,?_⟩<;>exact of_decide_eq_true rfl))
    |((with_reducible refine aI ?_ ?_);focus (first|exact tO|exact tK))
    |(split<;>rename_i hh<;>(try simp only[wS] at hh))
    |with_reducible refine lnI fun hln=>?_
    |fail)<;>(conv=>whnf)))
   all_goals (try (show _=_;simp only[wQ]))
   ·rw[hm];simp[*]
   refine⟨((⟨key,5,day,ticket,coupon,status,locator,coupons,taxes,amount,frm,til⟩:Request),(88:Int)),True.intro,?_,?_⟩
   ·exact Ac _
   (conv=>whnf)
   (repeat' ((first
    |((with_reducible refine aI ?_ ?_);focus (exact tK))
    |(split<;>rename_i hh<;>(try simp only[wS] at hh))
    |with_reducible refine lnI fun hln=>?_
    |fail)<;>(conv=>whnf)))
   all_goals (try (show _=_;simp only[wQ]))
   ·rw[hm];simp[*]
   refine⟨(⟨key,5,day,ticket,coupon,status,locator,coupons,taxes,amount,frm,til⟩:Request),⟨of_decide_eq_true rfl,of_decide_eq_true rfl⟩,?_,?_⟩
   ·exact Ac _
   (conv=>whnf)
   (repeat' ((first
    |((with_reducible refine aI ?_ ?_);focus (exact tO))
    |fail)<;>(conv=>whnf)))
   refine⟨((⟨key,5,day,ticket,coupon,status,locator,coupons,taxes,amount,frm,til⟩:Request),Ct ⟨key,5,day,ticket,coupon,status,locator,coupons,taxes,amount,frm,til⟩),True.intro,?_,?_⟩
   ·exact Ac _
   (conv=>whnf)
   all_goals (try (show _=_;simp only[wQ]))
   rw[hm];simp[*]
  ·have hm:=X0 (r:=⟨key,6,day,ticket,coupon,status,locator,coupons,taxes,amount,frm,til⟩) rfl
   (conv=>whnf)
   (repeat' ((first
    |((with_reducible refine aI ?_ ?_);focus (refine⟨?_,?_⟩<;>exact of_decide_eq_true rfl))
    |((with_reducible refine aI ?_ ?_);focus (first|with_reducible exact⟨⟩|exact tO))
    |with_reducible refine lnI fun hln=>?_
    |fail)<;>(conv=>whnf)))
   refine⟨((⟨key,6,day,ticket,coupon,status,locator,coupons,taxes,amount,frm,til⟩:Request),(75:Int)),True.intro,?_,?_⟩
   ·exact Ac _
   (conv=>whnf)
   (repeat' ((first
    |((with_reducible refine aI ?_ ?_);focus (refine⟨?_,?_⟩<;>exact of_decide_eq_true rfl))
    |((with_reducible refine aI ?_ ?_);focus (first|exact tO|exact tK))
    |(split<;>rename_i hh<;>(try simp only[wS] at hh))
    |with_reducible refine lnI fun hln=>?_
    |fail)<;>(conv=>whnf)))
   all_goals (try (show _=_;simp only[wQ]))
   ·rw[hm];simp[*]
   refine⟨((⟨key,6,day,ticket,coupon,status,locator,coupons,taxes,amount,frm,til⟩:Request),(68:Int)),True.intro,?_,?_⟩
   ·exact Ac _
   (conv=>whnf)
   (repeat' ((first
    |((with_reducible refine aI ?_ ?_);focus (refine⟨?_,?_⟩<;>exact of_decide_eq_true rfl))
    |((with_reducible refine aI ?_ ?_);focus (first|exact tO|exact tK))
    |(split<;>rename_i hh<;>(try simp only[wS] at hh))
    |with_reducible refine lnI fun hln=>?_
    |fail)<;>(conv=>whnf)))
   all_goals (try (show _=_;simp only[wQ]))
   ·rw[hm];simp[*]
   refine⟨((⟨key,6,day,ticket,coupon,status,locator,coupons,taxes,amount,frm,til⟩:Request),(84:Int)),True.intro,?_,?_⟩
   ·exact Ac _
   (conv=>whnf)
   (repeat' ((first
    |((with_reducible refine aI ?_ ?_);focus (refine⟨?_,?_⟩<;>exact of_decide_eq_true rfl))
    |((with_reducible refine aI ?_ ?_);focus (first|exact tO|exact tK))
    |(split<;>rename_i hh<;>(try simp only[wS] at hh))
    |with_reducible refine lnI fun hln=>?_
    |fail)<;>(conv=>whnf)))
   all_goals (try (show _=_;simp only[wQ]))
   ·rw[hm];simp[*]
   refine⟨((⟨key,6,day,ticket,coupon,status,locator,coupons,taxes,amount,frm,til⟩:Request),(78:Int)),True.intro,?_,?_⟩
   ·exact Ac _
   (conv=>whnf)
   (repeat' ((first
    |((with_reducible refine aI ?_ ?_);focus (exact tK))
    |(split<;>rename_i hh<;>(try simp only[wS] at hh))
    |with_reducible refine lnI fun hln=>?_
    |fail)<;>(conv=>whnf)))
   all_goals (try (show _=_;simp only[wQ]))
   ·rw[hm];simp[*]
   refine⟨(⟨key,6,day,ticket,coupon,status,locator,coupons,taxes,amount,frm,til⟩:Request),⟨of_decide_eq_true rfl,of_decide_eq_true rfl⟩,?_,?_⟩
   ·exact Ac _
   (conv=>whnf)
   (repeat' ((first
    |((with_reducible refine aI ?_ ?_);focus (exact tO))
    |fail)<;>(conv=>whnf)))
   refine⟨((⟨key,6,day,ticket,coupon,status,locator,coupons,taxes,amount,frm,til⟩:Request),Ct ⟨key,6,day,ticket,coupon,status,locator,coupons,taxes,amount,frm,til⟩),True.intro,?_,?_⟩
   ·exact Ac _
   (conv=>whnf)
   all_goals (try (show _=_;simp only[wQ]))
   rw[hm];simp[*]
  ·have hm:=X1 (r:=⟨key,7,day,ticket,coupon,status,locator,coupons,taxes,amount,frm,til⟩) rfl
   (conv=>whnf)
   (repeat' ((first
    |((with_reducible refine aI ?_ ?_);focus (refine⟨?_,?_⟩<;>exact of_decide_eq_true rfl))
    |((with_reducible refine aI ?_ ?_);focus (first|with_reducible exact⟨⟩|exact tO))
    |with_reducible refine lnI fun hln=>?_
    |fail)<;>(conv=>whnf)))
   refine⟨((⟨key,7,day,ticket,coupon,status,locator,coupons,taxes,amount,frm,til⟩:Request),(75:Int)),True.intro,?_,?_⟩
   ·exact Ac _
   (conv=>whnf)
   (repeat' ((first
    |((with_reducible refine aI ?_ ?_);focus (refine⟨?_,?_⟩<;>exact of_decide_eq_true rfl))
    |((with_reducible refine aI ?_ ?_);focus (first|exact tO|exact tK))
    |(split<;>rename_i hh<;>(try simp only[wS] at hh))
    |with_reducible refine lnI fun hln=>?_
    |fail)<;>(conv=>whnf)))
   all_goals (try (show _=_;simp only[wQ]))
   ·rw[hm];simp[*]
   refine⟨((⟨key,7,day,ticket,coupon,status,locator,coupons,taxes,amount,frm,til⟩:Request),(68:Int)),True.intro,?_,?_⟩
   ·exact Ac _
   (conv=>whnf)
   (repeat' ((first
    |((with_reducible refine aI ?_ ?_);focus (refine⟨?_,?_⟩<;>exact of_decide_eq_true rfl))
    |((with_reducible refine aI ?_ ?_);focus (first|exact tO|exact tK))
    |(split<;>rename_i hh<;>(try simp only[wS] at hh))
    |with_reducible refine lnI fun hln=>?_
    |fail)<;>(conv=>whnf)))
   all_goals (try (show _=_;simp only[wQ]))
   ·rw[hm];simp[*]
   refine⟨((⟨key,7,day,ticket,coupon,status,locator,coupons,taxes,amount,frm,til⟩:Request),(84:Int)),True.intro,?_,?_⟩
   ·exact Ac _
   (conv=>whnf)
   (repeat' ((first
    |((with_reducible refine aI ?_ ?_);focus (refine⟨?_,?_⟩<;>exact of_decide_eq_true rfl))
    |((with_reducible refine aI ?_ ?_);focus (first|exact tO|exact tK))
    |(split<;>rename_i hh<;>(try simp only[wS] at hh))
    |with_reducible refine lnI fun hln=>?_
    |fail)<;>(conv=>whnf)))
   all_goals (try (show _=_;simp only[wQ]))
   ·rw[hm];simp[*]
   refine⟨((⟨key,7,day,ticket,coupon,status,locator,coupons,taxes,amount,frm,til⟩:Request),(78:Int)),True.intro,?_,?_⟩
   ·exact Ac _
   (conv=>whnf)
   (repeat' ((first
    |((with_reducible refine aI ?_ ?_);focus (exact tK))
    |(split<;>rename_i hh<;>(try simp only[wS] at hh))
    |with_reducible refine lnI fun hln=>?_
    |fail)<;>(conv=>whnf)))
   all_goals (try (show _=_;simp only[wQ]))
   ·rw[hm];simp[*]
   refine⟨(⟨key,7,day,ticket,coupon,status,locator,coupons,taxes,amount,frm,til⟩:Request),⟨of_decide_eq_true rfl,of_decide_eq_true rfl⟩,?_,?_⟩
   ·exact Ac _
   (conv=>whnf)
   (repeat' ((first
    |((with_reducible refine aI ?_ ?_);focus (exact tO))
    |fail)<;>(conv=>whnf)))
   refine⟨((⟨key,7,day,ticket,coupon,status,locator,coupons,taxes,amount,frm,til⟩:Request),Ct ⟨key,7,day,ticket,coupon,status,locator,coupons,taxes,amount,frm,til⟩),True.intro,?_,?_⟩
   ·exact Ac _
   (conv=>whnf)
   all_goals (try (show _=_;simp only[wQ]))
   rw[hm];simp[*]
  ·have hm:=X2 (r:=⟨key,8,day,ticket,coupon,status,locator,coupons,taxes,amount,frm,til⟩) rfl
   (conv=>whnf)
   (repeat' ((first
    |((with_reducible refine aI ?_ ?_);focus (refine⟨?_,?_⟩<;>exact of_decide_eq_true rfl))
    |((with_reducible refine aI ?_ ?_);focus (first|with_reducible exact⟨⟩|exact tO))
    |with_reducible refine lnI fun hln=>?_
    |fail)<;>(conv=>whnf)))
   refine⟨((⟨key,8,day,ticket,coupon,status,locator,coupons,taxes,amount,frm,til⟩:Request),(84:Int)),True.intro,?_,?_⟩
   ·exact Ac _
   (conv=>whnf)
   (repeat' ((first
    |((with_reducible refine aI ?_ ?_);focus (exact tK))
    |(split<;>rename_i hh<;>(try simp only[wS] at hh))
    |with_reducible refine lnI fun hln=>?_
    |fail)<;>(conv=>whnf)))
   all_goals (try (show _=_;simp only[wQ]))
   ·rw[hm];simp[*]
   refine⟨(⟨key,8,day,ticket,coupon,status,locator,coupons,taxes,amount,frm,til⟩:Request),⟨of_decide_eq_true rfl,of_decide_eq_true rfl⟩,?_,?_⟩
   ·exact Ac _
   (conv=>whnf)
   (repeat' ((first
    |((with_reducible refine aI ?_ ?_);focus (exact tO))
    |fail)<;>(conv=>whnf)))
   refine⟨((⟨key,8,day,ticket,coupon,status,locator,coupons,taxes,amount,frm,til⟩:Request),Ct ⟨key,8,day,ticket,coupon,status,locator,coupons,taxes,amount,frm,til⟩),True.intro,?_,?_⟩
   ·exact Ac _
   (conv=>whnf)
   all_goals (try (show _=_;simp only[wQ]))
   rw[hm];simp[*]
  ·have hm:=X3 (r:=⟨key,9,day,ticket,coupon,status,locator,coupons,taxes,amount,frm,til⟩) rfl
   (conv=>whnf)
   (repeat' ((first
    |((with_reducible refine aI ?_ ?_);focus (refine⟨?_,?_⟩<;>exact of_decide_eq_true rfl))
    |((with_reducible refine aI ?_ ?_);focus (first|with_reducible exact⟨⟩|exact tO))
    |with_reducible refine lnI fun hln=>?_
    |fail)<;>(conv=>whnf)))
   refine⟨((⟨key,9,day,ticket,coupon,status,locator,coupons,taxes,amount,frm,til⟩:Request),(76:Int)),True.intro,?_,?_⟩
   ·exact Ac _
   (conv=>whnf)
   (repeat' ((first
    |((with_reducible refine aI ?_ ?_);focus (exact tK))
    |(split<;>rename_i hh<;>(try simp only[wS] at hh))
    |with_reducible refine lnI fun hln=>?_
    |fail)<;>(conv=>whnf)))
   all_goals (try (show _=_;simp only[wQ]))
   ·rw[hm];simp[*]
   refine⟨(⟨key,9,day,ticket,coupon,status,locator,coupons,taxes,amount,frm,til⟩:Request),⟨of_decide_eq_true rfl,of_decide_eq_true rfl⟩,?_,?_⟩
   ·exact Ac _
   (conv=>whnf)
   (repeat' ((first
    |((with_reducible refine aI ?_ ?_);focus (exact tO))
    |fail)<;>(conv=>whnf)))
   refine⟨((⟨key,9,day,ticket,coupon,status,locator,coupons,taxes,amount,frm,til⟩:Request),Ct ⟨key,9,day,ticket,coupon,status,locator,coupons,taxes,amount,frm,til⟩),True.intro,?_,?_⟩
   ·exact Ac _
   (conv=>whnf)
   all_goals (try (show _=_;simp only[wQ]))
   rw[hm];simp[*]
  ·have hm:=Ug (r:=⟨key,10,day,ticket,coupon,status,locator,coupons,taxes,amount,frm,til⟩) rfl
   (conv=>whnf)
   (repeat' ((first
    |((with_reducible refine aI ?_ ?_);focus (refine⟨?_,?_⟩<;>exact of_decide_eq_true rfl))
    |((with_reducible refine aI ?_ ?_);focus (first|with_reducible exact⟨⟩|exact tO))
    |with_reducible refine lnI fun hln=>?_
    |fail)<;>(conv=>whnf)))
   refine⟨((⟨key,10,day,ticket,coupon,status,locator,coupons,taxes,amount,frm,til⟩:Request),(82:Int)),True.intro,?_,?_⟩
   ·exact Ac _
   (conv=>whnf)
   (repeat' ((first
    |((with_reducible refine aI ?_ ?_);focus (exact tK))
    |(split<;>rename_i hh<;>(try simp only[wS] at hh))
    |with_reducible refine lnI fun hln=>?_
    |fail)<;>(conv=>whnf)))
   all_goals (try (show _=_;simp only[wQ]))
   ·rw[hm];simp[*]
   refine⟨(⟨key,10,day,ticket,coupon,status,locator,coupons,taxes,amount,frm,til⟩:Request),⟨of_decide_eq_true rfl,of_decide_eq_true rfl⟩,?_,?_⟩
   ·exact Ac _
   (conv=>whnf)
   (repeat' ((first
    |((with_reducible refine aI ?_ ?_);focus (exact tO))
    |fail)<;>(conv=>whnf)))
   refine⟨((⟨key,10,day,ticket,coupon,status,locator,coupons,taxes,amount,frm,til⟩:Request),Ct ⟨key,10,day,ticket,coupon,status,locator,coupons,taxes,amount,frm,til⟩),True.intro,?_,?_⟩
   ·exact Ac _
   (conv=>whnf)
   all_goals (try (show _=_;simp only[wQ]))
   rw[hm];simp[*]
 ·have hl:Aqn kind=[]:=Aht h
  have hn:Ah ⟨key,kind,day,ticket,coupon,status,locator,coupons,taxes,amount,frm,til⟩=false:=P9 h
  (conv=>whnf)
  (repeat' ((first
   |((with_reducible refine aI ?_ ?_);focus (first|with_reducible exact⟨⟩|exact tO|((with_reducible refine⟨?_,?_⟩)<;>first|with_reducible assumption|omega)))
   |(split<;>rename_i hh<;>(try simp only[wS] at hh))
   |with_reducible refine lnI fun hln=>?_
   |fail)<;>(conv=>whnf)))
  all_goals (try (show _=_;simp only[wQ]))
  ·rw[hl] at hh;exact absurd hh (Int.lt_irrefl 0)
  ·exact absurd hl (by assumption)
  ·exact hn.symm
end
end Go.Vc.Z
