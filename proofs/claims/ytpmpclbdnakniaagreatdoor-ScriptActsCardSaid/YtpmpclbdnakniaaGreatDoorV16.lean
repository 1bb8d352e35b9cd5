/- Requests, the document's: which may be, which are the same. -/
import Derived.Test.YtpmpclbdnakniaaGreatDoorV13
import Derived.Test.YtpmpclbdnakniaaGreatDoorV9
set_option linter.all false
set_option linter.unusedVariables false
set_option linter.unusedSimpArgs false
namespace Go.Vc.Z
open Go Go.Vc Go.Proofs Go.RowKit Go.Pl Go.Lib
noncomputable section
set_option maxRecDepth 100000
attribute [local irreducible] inK Utf8.decode Utf8.encode Lib.itoa Pl.worth Pl.allDig
attribute [local irreducible] Lib.join
open Classical in
@[irreducible] def Du(a b:Request):Bool:=decide (a=b)
theorem Ba{a b:Request}:Du a b=true↔a=b:=by unfold Du;simp
theorem Te{a b:Request}(h:a≠b):false=Du a b:=by
 cases hs:Du a b with
 |false=>rfl
 |true=>exact absurd (Ba.1 hs) h
def Mj:PC:=PC.of (fun x:Request × Request=>[.agg x.1.enc,.agg x.2.enc]) (fun _=>True) (fun x=>.bool (sB (Du x.1 x.2)))
def LSR{α:Type}[Inhabited α](x:Request × Request)(k:Nat)(l m:List α):LoopSpec:={
 α:=Nat
 keep:=[2,3,k]
 vals i:=[.ptr 0 0,.ptr 1 0,.int .i64 i]
 heap _:=[.var x.1.enc,.var x.2.enc]
 ok i:=i≤l.length∧∀ j,j<i→l.getD j default=m.getD j default
 μ i:=l.length - i }
def Wh:Request × Request→Nat→Option LR:=fun x i=>cond (Nat.beq i 6) (some (.inv (LSR x 5 x.1.coupons x.2.coupons))) (cond (Nat.beq i 11) (some (.inv (LSR x 6 x.1.taxes x.2.taxes))) (none))
set_option maxHeartbeats 2000000 in
theorem Gc{W:World}(hW:Tabs W):GoodP (Fw W) Tryz.prog 28 Mj:=by
 have hD:=Bc hW
 have hC0:∀ x:Request × Request,Ad (Fw W) Tryz.prog Am:=fun x=>(Be hW)
 refine As (D:=A8) (C:=fun x=>Am) (wr:=(fun _=>false)) rfl Ao hD hC0 Tryz.func28 (Wh) (fun _=>rfl) ?_
 rintro⟨a,b⟩ hf hp
 clear hf
 have kc:∀ c:Coupon,cEq c c=true:=fun c=>Xm.2 rfl
 have kx:∀ c:Tax,xEq c c=true:=fun c=>Xn.2 rfl
 (conv=>whnf)
 (repeat' ((first
  |(split<;>rename_i hh<;>(try simp only[wS] at hh))
  |with_reducible refine lnI fun hln=>?_
  |fail)<;>(conv=>whnf)))
 all_goals (try (show _=_;simp only[wQ]))
 all_goals try (refine Te fun h=>?_;subst h;simp_all;done)
 refine⟨?_,fun(i:Nat) hi=>?_⟩
 ·(conv=>whnf)
  refine⟨(0:Nat),[],?_,⟨⟨rfl,(nB rfl),rfl⟩,?_,?_⟩⟩
  ·exact⟨Nat.zero_le _,fun j hj=>absurd hj (Nat.not_lt_zero _)⟩
  ·exact tL
  ·exact tL
 ·obtain⟨h1,m1⟩:=hi
  have h1:i≤a.coupons.length:=h1
  (conv=>whnf)
  (repeat' ((first
   |(refine Aaw ?_)
   |((with_reducible refine aI ?_ ?_);focus (first|exact tO|((with_reducible refine⟨?_,?_⟩)<;>first|with_reducible assumption|omega)|exact tK|(dsimp only at*;simp only[Ak,Go.Vc.lo,Go.Vc.hi];omega)))
   |(split<;>rename_i hh<;>(try simp only[wS] at hh))
   |with_reducible refine lnI fun hln=>?_
   |fail)<;>(conv=>whnf)))
  all_goals (try (show _=_;simp only[wQ]))
  ·refine Te fun h=>?_;subst h;rw[kc _] at hh;cases hh
  ·(conv=>whnf)
   refine⟨(i+1:Nat),[],?_,⟨⟨rfl,(nB rfl),rfl⟩,?_,?_⟩⟩
   ·refine⟨⟨show i+1≤a.coupons.length by omega,fun j hj=>?_⟩,show a.coupons.length - (i+1)<a.coupons.length - i by omega⟩
    have hj:j<i+1:=hj
    by_cases he:j=i
    ·subst he;exact Xm.1 hh
    ·exact m1 j (by omega)
   ·exact tL
   ·exact tL
  refine⟨?_,fun(i:Nat) hi=>?_⟩
  ·(conv=>whnf)
   refine⟨(0:Nat),[],?_,⟨⟨rfl,(nB rfl),rfl⟩,?_,?_⟩⟩
   ·exact⟨Nat.zero_le _,fun j hj=>absurd hj (Nat.not_lt_zero _)⟩
   ·exact tL
   ·exact tL
  ·obtain⟨h1,m2⟩:=hi
   have h1:i≤a.taxes.length:=h1
   (conv=>whnf)
   (repeat' ((first
    |(refine Aax ?_)
    |((with_reducible refine aI ?_ ?_);focus (first|exact tO|((with_reducible refine⟨?_,?_⟩)<;>first|with_reducible assumption|omega)|exact tK|(dsimp only at*;simp only[Ak,Go.Vc.lo,Go.Vc.hi];omega)))
    |(split<;>rename_i hh<;>(try simp only[wS] at hh))
    |with_reducible refine lnI fun hln=>?_
    |fail)<;>(conv=>whnf)))
   all_goals (try (show _=_;simp only[wQ]))
   ·refine Te fun h=>?_;subst h;rw[kx _] at hh;cases hh
   ·(conv=>whnf)
    refine⟨(i+1:Nat),[],?_,⟨⟨rfl,(nB rfl),rfl⟩,?_,?_⟩⟩
    ·refine⟨⟨show i+1≤a.taxes.length by omega,fun j hj=>?_⟩,show a.taxes.length - (i+1)<a.taxes.length - i by omega⟩
     have hj:j<i+1:=hj
     by_cases he:j=i
     ·subst he;exact Xn.1 hh
     ·exact m2 j (by omega)
    ·exact tL
    ·exact tL
   refine(Ba.2 ?_).symm
   have e1:a.coupons=b.coupons:=Jp (by omega) fun j hj=>m1 j (by omega)
   have e2:a.taxes=b.taxes:=Jp (by omega) fun j hj=>m2 j (by omega)
   cases a;cases b
   simp only at*
   simp only[*]
@[irreducible] def Bd(r:Request)(c:Int):Bool:=
 if c=75 then Gp r.key else if c=68 then F7 r.day else if c=76 then G3 r.locator else if c=84 then Es r.ticket
 else if c=78 then decide (1≤r.coupon)&&decide (r.coupon≤4) else if c=83 then Jf r.status else if c=65 then Di r.amount
 else if c=74 then Fh 12 r.coupons else if c=67 then Fh 4 r.coupons else if c=88 then Dg r.taxes else F7 r.frm&&F7 r.til
def C1(r:Request):Request:=cond (eqI r.kind 1) ⟨r.key,r.kind,r.day,0,0,0,r.locator,r.coupons,r.taxes,0,0,0⟩ (cond (eqI r.kind 2) ⟨r.key,r.kind,r.day,r.ticket,r.coupon,r.status,[],[],[],0,0,0⟩ (cond (eqI r.kind 3) ⟨r.key,r.kind,r.day,r.ticket,0,0,[],[],[],0,0,0⟩ (cond (eqI r.kind 4) ⟨r.key,r.kind,r.day,r.ticket,0,0,[],[],[],r.amount,0,0⟩ (cond (eqI r.kind 5) ⟨r.key,r.kind,r.day,r.ticket,0,0,[],r.coupons,r.taxes,r.amount,0,0⟩ (cond (eqI r.kind 6) ⟨r.key,r.kind,r.day,r.ticket,r.coupon,0,[],[],[],0,0,0⟩ (cond (eqI r.kind 7) ⟨r.key,r.kind,r.day,r.ticket,r.coupon,0,[],[],[],0,0,0⟩ (cond (eqI r.kind 8) ⟨[],r.kind,0,r.ticket,0,0,[],[],[],0,0,0⟩ (cond (eqI r.kind 9) ⟨[],r.kind,0,0,0,0,r.locator,[],[],0,0,0⟩ (cond (eqI r.kind 10) ⟨[],r.kind,0,0,0,0,[],[],[],0,r.frm,r.til⟩ (⟨[],r.kind,0,0,0,0,[],[],[],0,0,0⟩))))))))))
@[irreducible] def Af(r:Request):Bool:=cond (eqI r.kind 1) (Bd r 75&&(Bd r 68&&(Bd r 76&&(Bd r 74&&(Bd r 88&&Du r (C1 r)))))) (cond (eqI r.kind 2) (Bd r 75&&(Bd r 68&&(Bd r 84&&(Bd r 78&&(Bd r 83&&Du r (C1 r)))))) (cond (eqI r.kind 3) (Bd r 75&&(Bd r 68&&(Bd r 84&&Du r (C1 r)))) (cond (eqI r.kind 4) (Bd r 75&&(Bd r 68&&(Bd r 84&&(Bd r 65&&Du r (C1 r))))) (cond (eqI r.kind 5) (Bd r 75&&(Bd r 68&&(Bd r 84&&(Bd r 65&&(Bd r 67&&(Bd r 88&&Du r (C1 r))))))) (cond (eqI r.kind 6) (Bd r 75&&(Bd r 68&&(Bd r 84&&(Bd r 78&&Du r (C1 r))))) (cond (eqI r.kind 7) (Bd r 75&&(Bd r 68&&(Bd r 84&&(Bd r 78&&Du r (C1 r))))) (cond (eqI r.kind 8) (Bd r 84&&Du r (C1 r)) (cond (eqI r.kind 9) (Bd r 76&&Du r (C1 r)) (cond (eqI r.kind 10) (Bd r 82&&Du r (C1 r)) (false))))))))))
theorem Tf{r:Request}(h:r.kind=1):Af r=(Bd r 75&&(Bd r 68&&(Bd r 76&&(Bd r 74&&(Bd r 88&&Du r (C1 r)))))):=by unfold Af;rw[h];rfl
theorem Xu{r:Request}(h:r.kind=2):Af r=(Bd r 75&&(Bd r 68&&(Bd r 84&&(Bd r 78&&(Bd r 83&&Du r (C1 r)))))):=by unfold Af;rw[h];rfl
theorem Xv{r:Request}(h:r.kind=3):Af r=(Bd r 75&&(Bd r 68&&(Bd r 84&&Du r (C1 r)))):=by unfold Af;rw[h];rfl
theorem Xw{r:Request}(h:r.kind=4):Af r=(Bd r 75&&(Bd r 68&&(Bd r 84&&(Bd r 65&&Du r (C1 r))))):=by unfold Af;rw[h];rfl
theorem Xx{r:Request}(h:r.kind=5):Af r=(Bd r 75&&(Bd r 68&&(Bd r 84&&(Bd r 65&&(Bd r 67&&(Bd r 88&&Du r (C1 r))))))):=by unfold Af;rw[h];rfl
theorem Xy{r:Request}(h:r.kind=6):Af r=(Bd r 75&&(Bd r 68&&(Bd r 84&&(Bd r 78&&Du r (C1 r))))):=by unfold Af;rw[h];rfl
theorem Xz{r:Request}(h:r.kind=7):Af r=(Bd r 75&&(Bd r 68&&(Bd r 84&&(Bd r 78&&Du r (C1 r))))):=by unfold Af;rw[h];rfl
theorem X0{r:Request}(h:r.kind=8):Af r=(Bd r 84&&Du r (C1 r)):=by unfold Af;rw[h];rfl
theorem X1{r:Request}(h:r.kind=9):Af r=(Bd r 76&&Du r (C1 r)):=by unfold Af;rw[h];rfl
theorem Um{r:Request}(h:r.kind=10):Af r=(Bd r 82&&Du r (C1 r)):=by unfold Af;rw[h];rfl
theorem Qe{r:Request}(h: ¬(1≤r.kind∧r.kind≤10)):Af r=false:=by
 unfold Af
 have e:∀ k:Int,1≤k→k≤10→eqI r.kind k=false:=fun k h1 h2=>by
  rw[Bt,beq_eq_false_iff_ne];omega
 simp only[e 1 (by decide) (by decide),e 2 (by decide) (by decide),e 3 (by decide) (by decide),e 4 (by decide) (by decide),e 5 (by decide) (by decide),e 6 (by decide) (by decide),e 7 (by decide) (by decide),e 8 (by decide) (by decide),e 9 (by decide) (by decide),e 10 (by decide) (by decide),cond_false]
def Als:PC:=PC.of (fun x:Request × Int=>[.agg x.1.enc,.int .u8 x.2]) (fun _=>True) (fun x=>.bool (sB (Bd x.1 x.2)))
def Gq:PT:=C8 [(63,Akx),(64,P0),(69,eD),(138,Akw),(139,xN),(165,S5),(166,Agf),(167,Af6)]
theorem J9{W:World}(hW:Tabs W):Ct (Fw W) Tryz.prog Gq:=(Ab Tryz.call63 (Q7 hW) (Ab Tryz.call64 (Rx hW) (Ab Tryz.call69 (On hW) (Ab Tryz.call138 (Oo hW) (Ab Tryz.call139 (Iq hW) (Ab Tryz.call165 (S7 hW) (Ab Tryz.call166 (Pf hW) (Ab Tryz.call167 (Rb hW) Av))))))))
def Gr:FuncId→Option Ctr:=Az Gq []
theorem R1{W:World}(hW:Tabs W):Ad (Fw W) Tryz.prog Gr:=(Aw (J9 hW))
set_option maxHeartbeats 2000000 in
theorem R2{W:World}(hW:Tabs W):GoodP (Fw W) Tryz.prog 76 Als:=by
 have hD:=J9 hW
 have hC0:∀ x:Request × Int,Ad (Fw W) Tryz.prog Gr:=fun x=>(R1 hW)
 refine As (D:=Gq) (C:=fun x=>Gr) (wr:=(fun _=>false)) rfl Ao hD hC0 Tryz.func76 (fun _ _=>none) (fun _=>rfl) ?_
 rintro⟨r,c⟩ hf hp
 clear hf
 have hb:Bd r c=if c=75 then Gp r.key else if c=68 then F7 r.day else if c=76 then G3 r.locator else if c=84 then Es r.ticket else if c=78 then decide (1≤r.coupon)&&decide (r.coupon≤4) else if c=83 then Jf r.status else if c=65 then Di r.amount else if c=74 then Fh 12 r.coupons else if c=67 then Fh 4 r.coupons else if c=88 then Dg r.taxes else F7 r.frm&&F7 r.til:=by unfold Bd;rfl
 (conv=>whnf)
 (repeat' ((first
  |((with_reducible refine aI ?_ ?_);focus (with_reducible exact⟨⟩))
  |(split<;>rename_i hh<;>(try simp only[wS] at hh))
  |fail)<;>(conv=>whnf)))
 all_goals (try (show _=_;simp only[wQ]))
 all_goals try (
  first
  |refine⟨(r.coupons,(12:Int)),True.intro,Ac _,?_⟩
  |refine⟨(r.coupons,(4:Int)),True.intro,Ac _,?_⟩
  |refine⟨r.taxes,True.intro,Ac _,?_⟩
  (conv=>whnf)
  all_goals (try (show _=_;simp only[wQ])))
 all_goals (rw[hb];simp[*,Dc];try (intros;omega))
def Alt:PC:=PC.of (fun r:Request=>[.agg r.enc]) (fun r=>1≤r.kind∧r.kind≤10) (fun r=>.agg (C1 r).enc)
def Iu:PT:=C8 [(75,Aaz)]
theorem Nh{W:World}(hW:Tabs W):Ct (Fw W) Tryz.prog Iu:=(Ab Tryz.call75 (Gy hW) Av)
def Iv:FuncId→Option Ctr:=Az Iu []
theorem Wi{W:World}(hW:Tabs W):Ad (Fw W) Tryz.prog Iv:=(Aw (Nh hW))
def Wj:Request→Nat→Option LR:=fun r i=>cond (Nat.beq i 4) (some (.unroll 7)) (none)
set_option maxHeartbeats 2000000 in
theorem Wk{W:World}(hW:Tabs W):GoodP (Fw W) Tryz.prog 77 Alt:=by
 have hD:=Nh hW
 have hC0:∀ r:Request,Ad (Fw W) Tryz.prog Iv:=fun r=>(Wi hW)
 refine As (D:=Iu) (C:=fun r=>Iv) (wr:=(fun _=>false)) rfl Ao hD hC0 Tryz.func77 (Wj) (fun _=>rfl) ?_
 rintro⟨key,kind,day,ticket,coupon,status,locator,coupons,taxes,amount,frm,til⟩ hf hp
 clear hf
 rcases kinds hp with rfl|rfl|rfl|rfl|rfl|rfl|rfl|rfl|rfl|rfl
 all_goals (
  (conv=>whnf)
  (repeat' ((first
   |with_reducible exact⟨⟩
   |((with_reducible refine aI ?_ ?_);focus (refine⟨?_,?_⟩<;>exact of_decide_eq_true rfl))
   |((with_reducible refine aI ?_ ?_);focus (first|with_reducible exact⟨⟩|with_reducible rfl|exact tK))
   |with_reducible refine lnI fun hln=>?_
   |with_reducible refine iA ?_ ?_
   |fail)<;>(conv=>whnf)))
  all_goals (try (show _=_;simp only[wQ]))
  )
 all_goals first|rfl|exact⟨rfl,fun h=>h,fun _ _=>rfl⟩
def fL:PC:=PC.of (fun r:Request=>[.agg r.enc]) (fun _=>True) (fun r=>.bool (sB (Af r)))
def Jw:PT:=C8 [(28,Mj),(75,Aaz),(76,Als),(77,Alt)]
theorem Ow{W:World}(hW:Tabs W):Ct (Fw W) Tryz.prog Jw:=(Ab Tryz.call28 (Gc hW) (Ab Tryz.call75 (Gy hW) (Ab Tryz.call76 (R2 hW) (Ab Tryz.call77 (Wk hW) Av))))
def Jx:FuncId→Option Ctr:=Az Jw []
theorem X2{W:World}(hW:Tabs W):Ad (Fw W) Tryz.prog Jx:=(Aw (Ow hW))
def X3:Request→Nat→Option LR:=fun r i=>cond (Nat.beq i 3) (some (.unroll 7)) (none)
set_option maxHeartbeats 4000000 in
theorem Ox{W:World}(hW:Tabs W):GoodP (Fw W) Tryz.prog 25 fL:=by
 have hD:=Ow hW
 have hC0:∀ r:Request,Ad (Fw W) Tryz.prog Jx:=fun r=>(X2 hW)
 refine As (D:=Jw) (C:=fun r=>Jx) (wr:=(fun _=>false)) rfl Ao hD hC0 Tryz.func25 (X3) (fun _=>rfl) ?_
 rintro⟨key,kind,day,ticket,coupon,status,locator,coupons,taxes,amount,frm,til⟩ hf hp
 clear hf
 by_cases h:1≤kind∧kind≤10
 ·rcases kinds h with rfl|rfl|rfl|rfl|rfl|rfl|rfl|rfl|rfl|rfl
  ·have hm:=Tf (r:=⟨key,1,day,ticket,coupon,status,locator,coupons,taxes,amount,frm,til⟩) rfl
   (conv=>whnf)
   (repeat' ((first
    |((with_reducible refine aI ?_ ?_);focus (refine⟨?_,?_⟩<;>exact of_decide_eq_true rfl))
    |((with_reducible refine aI ?_ ?_);focus (first|with_reducible exact⟨⟩|exact tO))
    |with_reducible refine lnI fun hln=>?_
    |fail)<;>(conv=>whnf)))
   refine⟨((⟨key,1,day,ticket,coupon,status,locator,coupons,taxes,amount,frm,til⟩:Request),(75:Int)),True.intro,?_,?_⟩
   ·exact Ac _
   (conv=>whnf)
   (repeat' ((first
    |((with_reducible refine aI ?_ ?_);focus (refine⟨?_,?_⟩<;>exact of_decide_eq_true rfl))
    |((with_reducible refine aI ?_ ?_);focus (first|exact tO|exact tK))
    |(split<;>rename_i hh<;>(try simp only[wS] at hh))
    |with_reducible refine lnI fun hln=>?_
    |fail)<;>(conv=>whnf)))
   all_goals (try (show _=_;simp only[wQ]))
   ·rw[hm];simp[*]
   refine⟨((⟨key,1,day,ticket,coupon,status,locator,coupons,taxes,amount,frm,til⟩:Request),(68:Int)),True.intro,?_,?_⟩
   ·exact Ac _
   (conv=>whnf)
   (repeat' ((first
    |((with_reducible refine aI ?_ ?_);focus (refine⟨?_,?_⟩<;>exact of_decide_eq_true rfl))
    |((with_reducible refine aI ?_ ?_);focus (first|exact tO|exact tK))
    |(split<;>rename_i hh<;>(try simp only[wS] at hh))
    |with_reducible refine lnI fun hln=>?_
    |fail)<;>(conv=>whnf)))
   all_goals (try (show _=_;simp only[wQ]))
   ·rw[hm];simp[*]
   refine⟨((⟨key,1,day,ticket,coupon,status,locator,coupons,taxes,amount,frm,til⟩:Request),(76:Int)),True.intro,?_,?_⟩
   ·exact Ac _
   (conv=>whnf)
   (repeat' ((first
    |((with_reducible refine aI ?_ ?_);focus (refine⟨?_,?_⟩<;>exact of_decide_eq_true rfl))
    |((with_reducible refine aI ?_ ?_);focus (first|exact tO|exact tK))
    |(split<;>rename_i hh<;>(try simp only[wS] at hh))
    |with_reducible refine lnI fun hln=>?_
    |fail)<;>(conv=>whnf)))
   all_goals (try (show _=_;simp only[wQ]))
   ·rw[hm];simp[*]
   refine⟨((⟨key,1,day,ticket,coupon,status,locator,coupons,taxes,amount,frm,til⟩:Request),(74:Int)),True.intro,?_,?_⟩
   ·exact Ac _
   (conv=>whnf)
   (repeat' ((first
    |((with_reducible refine aI ?_ ?_);focus (refine⟨?_,?_⟩<;>exact of_decide_eq_true rfl))
    |((with_reducible refine aI ?_ ?_);focus (first|exact tO|exact tK))
    |(split<;>rename_i hh<;>(try simp only[wS] at hh))
    |with_reducible refine lnI fun hln=>?_
    |fail)<;>(conv=>whnf)))
   all_goals (try (show _=_;simp only[wQ]))
   ·rw[hm];simp[*]
   refine⟨((⟨key,1,day,ticket,coupon,status,locator,coupons,taxes,amount,frm,til⟩:Request),(88:Int)),True.intro,?_,?_⟩
   ·exact Ac _
   (conv=>whnf)
   (repeat' ((first
    |((with_reducible refine aI ?_ ?_);focus (exact tK))
    |(split<;>rename_i hh<;>(try simp only[wS] at hh))
    |with_reducible refine lnI fun hln=>?_
    |fail)<;>(conv=>whnf)))
   all_goals (try (show _=_;simp only[wQ]))
   ·rw[hm];simp[*]
   refine⟨(⟨key,1,day,ticket,coupon,status,locator,coupons,taxes,amount,frm,til⟩:Request),⟨of_decide_eq_true rfl,of_decide_eq_true rfl⟩,?_,?_⟩
   ·exact Ac _
   (conv=>whnf)
   (repeat' ((first
    |((with_reducible refine aI ?_ ?_);focus (exact tO))
    |fail)<;>(conv=>whnf)))
   refine⟨((⟨key,1,day,ticket,coupon,status,locator,coupons,taxes,amount,frm,til⟩:Request),C1 ⟨key,1,day,ticket,coupon,status,locator,coupons,taxes,amount,frm,til⟩),True.intro,?_,?_⟩
   ·exact Ac _
   (conv=>whnf)
   all_goals (try (show _=_;simp only[wQ]))
   rw[hm];simp[*]
  ·have hm:=Xu (r:=⟨key,2,day,ticket,coupon,status,locator,coupons,taxes,amount,frm,til⟩) rfl
   (conv=>whnf)
   (repeat' ((first
    |((with_reducible refine aI ?_ ?_);focus (refine⟨?_,?_⟩<;>exact of_decide_eq_true rfl))
    |((with_reducible refine aI ?_ ?_);focus (first|with_reducible exact⟨⟩|exact tO))
    |with_reducible refine lnI fun hln=>?_
    |fail)<;>(conv=>whnf)))
   refine⟨((⟨key,2,day,ticket,coupon,status,locator,coupons,taxes,amount,frm,til⟩:Request),(75:Int)),True.intro,?_,?_⟩
   ·exact Ac _
   (conv=>whnf)
   (repeat' ((first
    |((with_reducible refine aI ?_ ?_);focus (refine⟨?_,?_⟩<;>exact of_decide_eq_true rfl))
    |((with_reducible refine aI ?_ ?_);focus (first|exact tO|exact tK))
    |(split<;>rename_i hh<;>(try simp only[wS] at hh))
    |with_reducible refine lnI fun hln=>?_
    |fail)<;>(conv=>whnf)))
   all_goals (try (show _=_;simp only[wQ]))
   ·rw[hm];simp[*]
   refine⟨((⟨key,2,day,ticket,coupon,status,locator,coupons,taxes,amount,frm,til⟩:Request),(68:Int)),True.intro,?_,?_⟩
   ·exact Ac _
   (conv=>whnf)
   (repeat' ((first
    |((with_reducible refine aI ?_ ?_);focus (refine⟨?_,?_⟩<;>exact of_decide_eq_true rfl))
    |((with_reducible refine aI ?_ ?_);focus (first|exact tO|exact tK))
    |(split<;>rename_i hh<;>(try simp only[wS] at hh))
    |with_reducible refine lnI fun hln=>?_
    |fail)<;>(conv=>whnf)))
   all_goals (try (show _=_;simp only[wQ]))
   ·rw[hm];simp[*]
   refine⟨((⟨key,2,day,ticket,coupon,status,locator,coupons,taxes,amount,frm,til⟩:Request),(84:Int)),True.intro,?_,?_⟩
   ·exact Ac _
   (conv=>whnf)
   (repeat' ((first
    |((with_reducible refine aI ?_ ?_);focus (refine⟨?_,?_⟩<;>exact of_decide_eq_true rfl))
    |((with_reducible refine aI ?_ ?_);focus (first|exact tO|exact tK))
    |(split<;>rename_i hh<;>(try simp only[wS] at hh))
    |with_reducible refine lnI fun hln=>?_
    |fail)<;>(conv=>whnf)))
   all_goals (try (show _=_;simp only[wQ]))
   ·rw[hm];simp[*]
   refine⟨((⟨key,2,day,ticket,coupon,status,locator,coupons,taxes,amount,frm,til⟩:Request),(78:Int)),True.intro,?_,?_⟩
   ·exact Ac _
   (conv=>whnf)
   (repeat' ((first
    |((with_reducible refine aI ?_ ?_);focus (refine⟨?_,?_⟩<;>exact of_decide_eq_true rfl))
    |((with_reducible refine aI ?_ ?_);focus (first|exact tO|exact tK))
    |(split<;>rename_i hh<;>(try simp only[wS] at hh))
    |with_reducible refine lnI fun hln=>?_
    |fail)<;>(conv=>whnf)))
   all_goals (try (show _=_;simp only[wQ]))
   ·rw[hm];simp[*]
   refine⟨((⟨key,2,day,ticket,coupon,status,locator,coupons,taxes,amount,frm,til⟩:Request),(83:Int)),True.intro,?_,?_⟩
   ·exact Ac _
   (conv=>whnf)
   (repeat' ((first
    |((with_reducible refine aI ?_ ?_);focus (exact tK))
    |(split<;>rename_i hh<;>(try simp only[wS] at hh))
    |with_reducible refine lnI fun hln=>?_
    |fail)<;>(conv=>whnf)))
   all_goals (try (show _=_;simp only[wQ]))
   ·rw[hm];simp[*]
   refine⟨(⟨key,2,day,ticket,coupon,status,locator,coupons,taxes,amount,frm,til⟩:Request),⟨of_decide_eq_true rfl,of_decide_eq_true rfl⟩,?_,?_⟩
   ·exact Ac _
   (conv=>whnf)
   (repeat' ((first
    |((with_reducible refine aI ?_ ?_);focus (exact tO))
    |fail)<;>(conv=>whnf)))
   refine⟨((⟨key,2,day,ticket,coupon,status,locator,coupons,taxes,amount,frm,til⟩:Request),C1 ⟨key,2,day,ticket,coupon,status,locator,coupons,taxes,amount,frm,til⟩),True.intro,?_,?_⟩
   ·exact Ac _
   (conv=>whnf)
   all_goals (try (show _=_;simp only[wQ]))
   rw[hm];simp[*]
  ·have hm:=Xv (r:=⟨key,3,day,ticket,coupon,status,locator,coupons,taxes,amount,frm,til⟩) rfl
   (conv=>whnf)
   (repeat' ((first
    |((with_reducible refine aI ?_ ?_);focus (refine⟨?_,?_⟩<;>exact of_decide_eq_true rfl))
    |((with_reducible refine aI ?_ ?_);focus (first|with_reducible exact⟨⟩|exact tO))
    |with_reducible refine lnI fun hln=>?_
    |fail)<;>(conv=>whnf)))
   refine⟨((⟨key,3,day,ticket,coupon,status,locator,coupons,taxes,amount,frm,til⟩:Request),(75:Int)),True.intro,?_,?_⟩
   ·exact Ac _
   (conv=>whnf)
   (repeat' ((first
    |((with_reducible refine aI ?_ ?_);focus (refine⟨?_,?_⟩<;>exact of_decide_eq_true rfl))
    |((with_reducible refine aI ?_ ?_);focus (first|exact tO|exact tK))
    |(split<;>rename_i hh<;>(try simp only[wS] at hh))
    |with_reducible refine lnI fun hln=>?_
    |fail)<;>(conv=>whnf)))
   all_goals (try (show _=_;simp only[wQ]))
   ·rw[hm];simp[*]
   refine⟨((⟨key,3,day,ticket,coupon,status,locator,coupons,taxes,amount,frm,til⟩:Request),(68:Int)),True.intro,?_,?_⟩
   ·exact Ac _
   (conv=>whnf)
   (repeat' ((first
    |((with_reducible refine aI ?_ ?_);focus (refine⟨?_,?_⟩<;>exact of_decide_eq_true rfl))
    |((with_reducible refine aI ?_ ?_);focus (first|exact tO|exact tK))
    |(split<;>rename_i hh<;>(try simp only[wS] at hh))
    |with_reducible refine lnI fun hln=>?_
    |fail)<;>(conv=>whnf)))
   all_goals (try (show _=_;simp only[wQ]))
   ·rw[hm];simp[*]
   refine⟨((⟨key,3,day,ticket,coupon,status,locator,coupons,taxes,amount,frm,til⟩:Request),(84:Int)),True.intro,?_,?_⟩
   ·exact Ac _
   (conv=>whnf)
   (repeat' ((first
    |((with_reducible refine aI ?_ ?_);focus (exact tK))
    |(split<;>rename_i hh<;>(try simp only[wS] at hh))
    |with_reducible refine lnI fun hln=>?_
    |fail)<;>(conv=>whnf)))
   all_goals (try (show _=_;simp only[wQ]))
   ·rw[hm];simp[*]
   refine⟨(⟨key,3,day,ticket,coupon,status,locator,coupons,taxes,amount,frm,til⟩:Request),⟨of_decide_eq_true rfl,of_decide_eq_true rfl⟩,?_,?_⟩
   ·exact Ac _
   (conv=>whnf)
   (repeat' ((first
    |((with_reducible refine aI ?_ ?_);focus (exact tO))
    |fail)<;>(conv=>whnf)))
   refine⟨((⟨key,3,day,ticket,coupon,status,locator,coupons,taxes,amount,frm,til⟩:Request),C1 ⟨key,3,day,ticket,coupon,status,locator,coupons,taxes,amount,frm,til⟩),True.intro,?_,?_⟩
   ·exact Ac _
   (conv=>whnf)
   all_goals (try (show _=_;simp only[wQ]))
   rw[hm];simp[*]
  ·have hm:=Xw (r:=⟨key,4,day,ticket,coupon,status,locator,coupons,taxes,amount,frm,til⟩) rfl
   (conv=>whnf)
   (repeat' ((first
    |((with_reducible refine aI ?_ ?_);focus (refine⟨?_,?_⟩<;>exact of_decide_eq_true rfl))
    |((with_reducible refine aI ?_ ?_);focus (first|with_reducible exact⟨⟩|exact tO))
    |with_reducible refine lnI fun hln=>?_
    |fail)<;>(conv=>whnf)))
   refine⟨((⟨key,4,day,ticket,coupon,status,locator,coupons,taxes,amount,frm,til⟩:Request),(75:Int)),True.intro,?_,?_⟩
   ·exact Ac _
   (conv=>whnf)
   (repeat' ((first
    |((with_reducible refine aI ?_ ?_);focus (refine⟨?_,?_⟩<;>exact of_decide_eq_true rfl))
    |((with_reducible refine aI ?_ ?_);focus (first|exact tO|exact tK))
    |(split<;>rename_i hh<;>(try simp only[wS] at hh))
    |with_reducible refine lnI fun hln=>?_
    |fail)<;>(conv=>whnf)))
   all_goals (try (show _=_;simp only[wQ]))
   ·rw[hm];simp[*]
   refine⟨((⟨key,4,day,ticket,coupon,status,locator,coupons,taxes,amount,frm,til⟩:Request),(68:Int)),True.intro,?_,?_⟩
   ·exact Ac _
   (conv=>whnf)
   (repeat' ((first
    |((with_reducible refine aI ?_ ?_);focus (refine⟨?_,?_⟩<;>exact of_decide_eq_true rfl))
    |((with_reducible refine aI ?_ ?_);focus (first|exact tO|exact tK))
    |(split<;>rename_i hh<;>(try simp only[wS] at hh))
    |with_reducible refine lnI fun hln=>?_
    |fail)<;>(conv=>whnf)))
   all_goals (try (show _=_;simp only[wQ]))
   ·rw[hm];simp[*]
   refine⟨((⟨key,4,day,ticket,coupon,status,locator,coupons,taxes,amount,frm,til⟩:Request),(84:Int)),True.intro,?_,?_⟩
   ·exact Ac _
   (conv=>whnf)
   (repeat' ((first
    |((with_reducible refine aI ?_ ?_);focus (refine⟨?_,?_⟩<;>exact of_decide_eq_true rfl))
    |((with_reducible refine aI ?_ ?_);focus (first|exact tO|exact tK))
    |(split<;>rename_i hh<;>(try simp only[wS] at hh))
    |with_reducible refine lnI fun hln=>?_
    |fail)<;>(conv=>whnf)))
   all_goals (try (show _=_;simp only[wQ]))
   ·rw[hm];simp[*]
   refine⟨((⟨key,4,day,ticket,coupon,status,locator,coupons,taxes,amount,frm,til⟩:Request),(65:Int)),True.intro,?_,?_⟩
   ·exact Ac _
   (conv=>whnf)
   (repeat' ((first
    |((with_reducible refine aI ?_ ?_);focus (exact tK))
    |(split<;>rename_i hh<;>(try simp only[wS] at hh))
    |with_reducible refine lnI fun hln=>?_
    |fail)<;>(conv=>whnf)))
   all_goals (try (show _=_;simp only[wQ]))
   ·rw[hm];simp[*]
   refine⟨(⟨key,4,day,ticket,coupon,status,locator,coupons,taxes,amount,frm,til⟩:Request),⟨of_decide_eq_true rfl,of_decide_eq_true rfl⟩,?_,?_⟩
   ·exact Ac _
   (conv=>whnf)
   (repeat' ((first
    |((with_reducible refine aI ?_ ?_);focus (exact tO))
    |fail)<;>(conv=>whnf)))
   refine⟨((⟨key,4,day,ticket,coupon,status,locator,coupons,taxes,amount,frm,til⟩:Request),C1 ⟨key,4,day,ticket,coupon,status,locator,coupons,taxes,amount,frm,til⟩),True.intro,?_,?_⟩
   ·exact Ac _
   (conv=>whnf)
   all_goals (try (show _=_;simp only[wQ]))
   rw[hm];simp[*]
  ·have hm:=Xx (r:=⟨key,5,day,ticket,coupon,status,locator,coupons,taxes,amount,frm,til⟩) rfl
   (conv=>whnf)
   (repeat' ((first
    |((with_reducible refine aI ?_ ?_);focus (refine⟨?_,?_⟩<;>exact of_decide_eq_true rfl))
    |((with_reducible refine aI ?_ ?_);focus (first|with_reducible exact⟨⟩|exact tO))
    |with_reducible refine lnI fun hln=>?_
    |fail)<;>(conv=>whnf)))
   refine⟨((⟨key,5,day,ticket,coupon,status,locator,coupons,taxes,amount,frm,til⟩:Request),(75:Int)),True.intro,?_,?_⟩
   ·exact Ac _
   (conv=>whnf)
   (repeat' ((first
    |((with_reducible refine aI ?_ ?_);focus (refine⟨?_,?_⟩<;>exact of_decide_eq_true rfl))
    |((with_reducible refine aI ?_ ?_);focus (first|exact tO|exact tK))
    |(split<;>rename_i hh<;>(try simp only[wS] at hh))
    |with_reducible refine lnI fun hln=>?_
    |fail)<;>(conv=>whnf)))
   all_goals (try (show _=_;simp only[wQ]))
   ·rw[hm];simp[*]
   refine⟨((⟨key,5,day,ticket,coupon,status,locator,coupons,taxes,amount,frm,til⟩:Request),(68:Int)),True.intro,?_,?_⟩
   ·exact Ac _
   (conv=>whnf)
   (repeat' ((first
    |((with_reducible refine aI ?_ ?_);focus (refine⟨?_,?_⟩<;>exact of_decide_eq_true rfl))
    |((with_reducible refine aI ?_ ?_);focus (first|exact tO|exact tK))
    |(split<;>rename_i hh<;>(try simp only[wS] at hh))
    |with_reducible refine lnI fun hln=>?_
    |fail)<;>(conv=>whnf)))
   all_goals (try (show _=_;simp only[wQ]))
   ·rw[hm];simp[*]
   refine⟨((⟨key,5,day,ticket,coupon,status,locator,coupons,taxes,amount,frm,til⟩:Request),(84:Int)),True.intro,?_,?_⟩
   ·exact Ac _
   (conv=>whnf)
   (repeat' ((first
    |((with_reducible refine aI ?_ ?_);focus (refine⟨?_,?_⟩<;>exact of_decide_eq_true rfl))
    |((with_reducible refine aI ?_ ?_);focus (first|exact tO|exact tK))
    |(split<;>rename_i hh<;>(try simp only[wS] at hh))
    |with_reducible refine lnI fun hln=>?_
    |fail)<;>(conv=>whnf)))
   all_goals (try (show _=_;simp only[wQ]))
   ·rw[hm];simp[*]
   refine⟨((⟨key,5,day,ticket,coupon,status,locator,coupons,taxes,amount,frm,til⟩:Request),(65:Int)),True.intro,?_,?_⟩
   ·exact Ac _
   (conv=>whnf)
   (repeat' ((first
    |((with_reducible refine aI ?_ ?_);focus (refine⟨?_,?_⟩<;>exact of_decide_eq_true rfl))
    |((with_reducible refine aI ?_ ?_);focus (first|exact tO|exact tK))
    |(split<;>rename_i hh<;>(try simp only[wS] at hh))
    |with_reducible refine lnI fun hln=>?_
    |fail)<;>(conv=>whnf)))
   all_goals (try (show _=_;simp only[wQ]))
   ·rw[hm];simp[*]
   refine⟨((⟨key,5,day,ticket,coupon,status,locator,coupons,taxes,amount,frm,til⟩:Request),(67:Int)),True.intro,?_,?_⟩
   ·exact Ac _
   (conv=>whnf)
   (repeat' ((first
    |((with_reducible refine aI ?_ ?_);focus (refine⟨?_,?_⟩<;>exact of_decide_eq_true rfl))
    |((with_reducible refine aI ?_ ?_);focus (first|exact tO|exact tK))
    |(split<;>rename_i hh<;>(try simp only[wS] at hh))
    |with_reducible refine lnI fun hln=>?_
    |fail)<;>(conv=>whnf)))
   all_goals (try (show _=_;simp only[wQ]))
   ·rw[hm];simp[*]
   refine⟨((⟨key,5,day,ticket,coupon,status,locator,coupons,taxes,amount,frm,til⟩:Request),(88:Int)),True.intro,?_,?_⟩
   ·exact Ac _
   (conv=>whnf)
   (repeat' ((first
    |((with_reducible refine aI ?_ ?_);focus (exact tK))
    |(split<;>rename_i hh<;>(try simp only[wS] at hh))
    |with_reducible refine lnI fun hln=>?_
    |fail)<;>(conv=>whnf)))
   all_goals (try (show _=_;simp only[wQ]))
   ·rw[hm];simp[*]
   refine⟨(⟨key,5,day,ticket,coupon,status,locator,coupons,taxes,amount,frm,til⟩:Request),⟨of_decide_eq_true rfl,of_decide_eq_true rfl⟩,?_,?_⟩
   ·exact Ac _
   (conv=>whnf)
   (repeat' ((first
    |((with_reducible refine aI ?_ ?_);focus (exact tO))
    |fail)<;>(conv=>whnf)))
   refine⟨((⟨key,5,day,ticket,coupon,status,locator,coupons,taxes,amount,frm,til⟩:Request),C1 ⟨key,5,day,ticket,coupon,status,locator,coupons,taxes,amount,frm,til⟩),True.intro,?_,?_⟩
   ·exact Ac _
   (conv=>whnf)
   all_goals (try (show _=_;simp only[wQ]))
   rw[hm];simp[*]
  ·have hm:=Xy (r:=⟨key,6,day,ticket,coupon,status,locator,coupons,taxes,amount,frm,til⟩) rfl
   (conv=>whnf)
   (repeat' ((first
    |((with_reducible refine aI ?_ ?_);focus (refine⟨?_,?_⟩<;>exact of_decide_eq_true rfl))
    |((with_reducible refine aI ?_ ?_);focus (first|with_reducible exact⟨⟩|exact tO))
    |with_reducible refine lnI fun hln=>?_
    |fail)<;>(conv=>whnf)))
   refine⟨((⟨key,6,day,ticket,coupon,status,locator,coupons,taxes,amount,frm,til⟩:Request),(75:Int)),True.intro,?_,?_⟩
   ·exact Ac _
   (conv=>whnf)
   (repeat' ((first
    |((with_reducible refine aI ?_ ?_);focus (refine⟨?_,?_⟩<;>exact of_decide_eq_true rfl))
    |((with_reducible refine aI ?_ ?_);focus (first|exact tO|exact tK))
    |(split<;>rename_i hh<;>(try simp only[wS] at hh))
    |with_reducible refine lnI fun hln=>?_
    |fail)<;>(conv=>whnf)))
   all_goals (try (show _=_;simp only[wQ]))
   ·rw[hm];simp[*]
   refine⟨((⟨key,6,day,ticket,coupon,status,locator,coupons,taxes,amount,frm,til⟩:Request),(68:Int)),True.intro,?_,?_⟩
   ·exact Ac _
   (conv=>whnf)
   (repeat' ((first
    |((with_reducible refine aI ?_ ?_);focus (refine⟨?_,?_⟩<;>exact of_decide_eq_true rfl))
    |((with_reducible refine aI ?_ ?_);focus (first|exact tO|exact tK))
    |(split<;>rename_i hh<;>(try simp only[wS] at hh))
    |with_reducible refine lnI fun hln=>?_
    |fail)<;>(conv=>whnf)))
   all_goals (try (show _=_;simp only[wQ]))
   ·rw[hm];simp[*]
   refine⟨((⟨key,6,day,ticket,coupon,status,locator,coupons,taxes,amount,frm,til⟩:Request),(84:Int)),True.intro,?_,?_⟩
   ·exact Ac _
   (conv=>whnf)
   (repeat' ((first
    |((with_reducible refine aI ?_ ?_);focus (refine⟨?_,?_⟩<;>exact of_decide_eq_true rfl))
    |((with_reducible refine aI ?_ ?_);focus (first|exact tO|exact tK))
    |(split<;>rename_i hh<;>(try simp only[wS] at hh))
    |with_reducible refine lnI fun hln=>?_
    |fail)<;>(conv=>whnf)))
   all_goals (try (show _=_;simp only[wQ]))
   ·rw[hm];simp[*]
   refine⟨((⟨key,6,day,ticket,coupon,status,locator,coupons,taxes,amount,frm,til⟩:Request),(78:Int)),True.intro,?_,?_⟩
   ·exact Ac _
   (conv=>whnf)
   (repeat' ((first
    |((with_reducible refine aI ?_ ?_);focus (exact tK))
    |(split<;>rename_i hh<;>(try simp only[wS] at hh))
    |with_reducible refine lnI fun hln=>?_
    |fail)<;>(conv=>whnf)))
   all_goals (try (show _=_;simp only[wQ]))
   ·rw[hm];simp[*]
   refine⟨(⟨key,6,day,ticket,coupon,status,locator,coupons,taxes,amount,frm,til⟩:Request),⟨of_decide_eq_true rfl,of_decide_eq_true rfl⟩,?_,?_⟩
   ·exact Ac _
   (conv=>whnf)
   (repeat' ((first
    |((with_reducible refine aI ?_ ?_);focus (exact tO))
    |fail)<;>(conv=>whnf)))
   refine⟨((⟨key,6,day,ticket,coupon,status,locator,coupons,taxes,amount,frm,til⟩:Request),C1 ⟨key,6,day,ticket,coupon,status,locator,coupons,taxes,amount,frm,til⟩),True.intro,?_,?_⟩
   ·exact Ac _
   (conv=>whnf)
   all_goals (try (show _=_;simp only[wQ]))
   rw[hm];simp[*]
  ·have hm:=Xz (r:=⟨key,7,day,ticket,coupon,status,locator,coupons,taxes,amount,frm,til⟩) rfl
   (conv=>whnf)
   (repeat' ((first
    |((with_reducible refine aI ?_ ?_);focus (refine⟨?_,?_⟩<;>exact of_decide_eq_true rfl))
    |((with_reducible refine aI ?_ ?_);focus (first|with_reducible exact⟨⟩|exact tO))
    |with_reducible refine lnI fun hln=>?_
    |fail)<;>(conv=>whnf)))
   refine⟨((⟨key,7,day,ticket,coupon,status,locator,coupons,taxes,amount,frm,til⟩:Request),(75:Int)),True.intro,?_,?_⟩
   ·exact Ac _
   (conv=>whnf)
   (repeat' ((first
    |((with_reducible refine aI ?_ ?_);focus (refine⟨?_,?_⟩<;>exact of_decide_eq_true rfl))
    |((with_reducible refine aI ?_ ?_);focus (first|exact tO|exact tK))
    |(split<;>rename_i hh<;>(try simp only[wS] at hh))
    |with_reducible refine lnI fun hln=>?_
    |fail)<;>(conv=>whnf)))
   all_goals (try (show _=_;simp only[wQ]))
   ·rw[hm];simp[*]
   refine⟨((⟨key,7,day,ticket,coupon,status,locator,coupons,taxes,amount,frm,til⟩:Request),(68:Int)),True.intro,?_,?_⟩
   ·exact Ac _
   (conv=>whnf)
   (repeat' ((first
    |((with_reducible refine aI ?_ ?_);focus (refine⟨?_,?_⟩<;>exact of_decide_eq_true rfl))
    |((with_reducible refine aI ?_ ?_);focus (first|exact tO|exact tK))
    |(split<;>rename_i hh<;>(try simp only[wS] at hh))
    |with_reducible refine lnI fun hln=>?_
    |fail)<;>(conv=>whnf)))
   all_goals (try (show _=_;simp only[wQ]))
   ·rw[hm];simp[*]
   refine⟨((⟨key,7,day,ticket,coupon,status,locator,coupons,taxes,amount,frm,til⟩:Request),(84:Int)),True.intro,?_,?_⟩
   ·exact Ac _
   (conv=>whnf)
   (repeat' ((first
    |((with_reducible refine aI ?_ ?_);focus (refine⟨?_,?_⟩<;>exact of_decide_eq_true rfl))
    |((with_reducible refine aI ?_ ?_);focus (first|exact tO|exact tK))
    |(split<;>rename_i hh<;>(try simp only[wS] at hh))
    |with_reducible refine lnI fun hln=>?_
    |fail)<;>(conv=>whnf)))
   all_goals (try (show _=_;simp only[wQ]))
   ·rw[hm];simp[*]
   refine⟨((⟨key,7,day,ticket,coupon,status,locator,coupons,taxes,amount,frm,til⟩:Request),(78:Int)),True.intro,?_,?_⟩
   ·exact Ac _
   (conv=>whnf)
   (repeat' ((first
    |((with_reducible refine aI ?_ ?_);focus (exact tK))
    |(split<;>rename_i hh<;>(try simp only[wS] at hh))
    |with_reducible refine lnI fun hln=>?_
    |fail)<;>(conv=>whnf)))
   all_goals (try (show _=_;simp only[wQ]))
   ·rw[hm];simp[*]
   refine⟨(⟨key,7,day,ticket,coupon,status,locator,coupons,taxes,amount,frm,til⟩:Request),⟨of_decide_eq_true rfl,of_decide_eq_true rfl⟩,?_,?_⟩
   ·exact Ac _
   (conv=>whnf)
   (repeat' ((first
    |((with_reducible refine aI ?_ ?_);focus (exact tO))
    |fail)<;>(conv=>whnf)))
   refine⟨((⟨key,7,day,ticket,coupon,status,locator,coupons,taxes,amount,frm,til⟩:Request),C1 ⟨key,7,day,ticket,coupon,status,locator,coupons,taxes,amount,frm,til⟩),True.intro,?_,?_⟩
   ·exact Ac _
   (conv=>whnf)
   all_goals (try (show _=_;simp only[wQ]))
   rw[hm];simp[*]
  ·have hm:=X0 (r:=⟨key,8,day,ticket,coupon,status,locator,coupons,taxes,amount,frm,til⟩) rfl
   (conv=>whnf)
   (repeat' ((first
    |((with_reducible refine aI ?_ ?_);focus (refine⟨?_,?_⟩<;>exact of_decide_eq_true rfl))
    |((with_reducible refine aI ?_ ?_);focus (first|with_reducible exact⟨⟩|exact tO))
    |with_reducible refine lnI fun hln=>?_
    |fail)<;>(conv=>whnf)))
   refine⟨((⟨key,8,day,ticket,coupon,status,locator,coupons,taxes,amount,frm,til⟩:Request),(84:Int)),True.intro,?_,?_⟩
   ·exact Ac _
   (conv=>whnf)
   (repeat' ((first
    |((with_reducible refine aI ?_ ?_);focus (exact tK))
    |(split<;>rename_i hh<;>(try simp only[wS] at hh))
    |with_reducible refine lnI fun hln=>?_
    |fail)<;>(conv=>whnf)))
   all_goals (try (show _=_;simp only[wQ]))
   ·rw[hm];simp[*]
   refine⟨(⟨key,8,day,ticket,coupon,status,locator,coupons,taxes,amount,frm,til⟩:Request),⟨of_decide_eq_true rfl,of_decide_eq_true rfl⟩,?_,?_⟩
   ·exact Ac _
   (conv=>whnf)
   (repeat' ((first
    |((with_reducible refine aI ?_ ?_);focus (exact tO))
    |fail)<;>(conv=>whnf)))
   refine⟨((⟨key,8,day,ticket,coupon,status,locator,coupons,taxes,amount,frm,til⟩:Request),C1 ⟨key,8,day,ticket,coupon,status,locator,coupons,taxes,amount,frm,til⟩),True.intro,?_,?_⟩
   ·exact Ac _
   (conv=>whnf)
   all_goals (try (show _=_;simp only[wQ]))
   rw[hm];simp[*]
  ·have hm:=X1 (r:=⟨key,9,day,ticket,coupon,status,locator,coupons,taxes,amount,frm,til⟩) rfl
   (conv=>whnf)
   (repeat' ((first
    |((with_reducible refine aI ?_ ?_);focus (refine⟨?_,?_⟩<;>exact of_decide_eq_true rfl))
    |((with_reducible refine aI ?_ ?_);focus (first|with_reducible exact⟨⟩|exact tO))
    |with_reducible refine lnI fun hln=>?_
    |fail)<;>(conv=>whnf)))
   refine⟨((⟨key,9,day,ticket,coupon,status,locator,coupons,taxes,amount,frm,til⟩:Request),(76:Int)),True.intro,?_,?_⟩
   ·exact Ac _
   (conv=>whnf)
   (repeat' ((first
    |((with_reducible refine aI ?_ ?_);focus (exact tK))
    |(split<;>rename_i hh<;>(try simp only[wS] at hh))
    |with_reducible refine lnI fun hln=>?_
    |fail)<;>(conv=>whnf)))
   all_goals (try (show _=_;simp only[wQ]))
   ·rw[hm];simp[*]
   refine⟨(⟨key,9,day,ticket,coupon,status,locator,coupons,taxes,amount,frm,til⟩:Request),⟨of_decide_eq_true rfl,of_decide_eq_true rfl⟩,?_,?_⟩
   ·exact Ac _
   (conv=>whnf)
   (repeat' ((first
    |((with_reducible refine aI ?_ ?_);focus (exact tO))
    |fail)<;>(conv=>whnf)))
   refine⟨((⟨key,9,day,ticket,coupon,status,locator,coupons,taxes,amount,frm,til⟩:Request),C1 ⟨key,9,day,ticket,coupon,status,locator,coupons,taxes,amount,frm,til⟩),True.intro,?_,?_⟩
   ·exact Ac _
   (conv=>whnf)
   all_goals (try (show _=_;simp only[wQ]))
   rw[hm];simp[*]
  ·have hm:=Um (r:=⟨key,10,day,ticket,coupon,status,locator,coupons,taxes,amount,frm,til⟩) rfl
   (conv=>whnf)
   (repeat' ((first
    |((with_reducible refine aI ?_ ?_);focus (refine⟨?_,?_⟩<;>exact of_decide_eq_true rfl))
    |((with_reducible refine aI ?_ ?_);focus (first|with_reducible exact⟨⟩|exact tO))
    |with_reducible refine lnI fun hln=>?_
    |fail)<;>(conv=>whnf)))
   refine⟨((⟨key,10,day,ticket,coupon,status,locator,coupons,taxes,amount,frm,til⟩:Request),(82:Int)),True.intro,?_,?_⟩
   ·exact Ac _
   (conv=>whnf)
   (repeat' ((first
    |((with_reducible refine aI ?_ ?_);focus (exact tK))
    |(split<;>rename_i hh<;>(try simp only[wS] at hh))
    |with_reducible refine lnI fun hln=>?_
    |fail)<;>(conv=>whnf)))
   all_goals (try (show _=_;simp only[wQ]))
   ·rw[hm];simp[*]
   refine⟨(⟨key,10,day,ticket,coupon,status,locator,coupons,taxes,amount,frm,til⟩:Request),⟨of_decide_eq_true rfl,of_decide_eq_true rfl⟩,?_,?_⟩
   ·exact Ac _
   (conv=>whnf)
   (repeat' ((first
    |((with_reducible refine aI ?_ ?_);focus (exact tO))
    |fail)<;>(conv=>whnf)))
   refine⟨((⟨key,10,day,ticket,coupon,status,locator,coupons,taxes,amount,frm,til⟩:Request),C1 ⟨key,10,day,ticket,coupon,status,locator,coupons,taxes,amount,frm,til⟩),True.intro,?_,?_⟩
   ·exact Ac _
   (conv=>whnf)
   all_goals (try (show _=_;simp only[wQ]))
   rw[hm];simp[*]
 ·have hl:Xo kind=[]:=Age h
  have hn:Af ⟨key,kind,day,ticket,coupon,status,locator,coupons,taxes,amount,frm,til⟩=false:=Qe h
  (conv=>whnf)
  (repeat' ((first
   |((with_reducible refine aI ?_ ?_);focus (first|with_reducible exact⟨⟩|exact tO|((with_reducible refine⟨?_,?_⟩)<;>first|with_reducible assumption|omega)))
   |(split<;>rename_i hh<;>(try simp only[wS] at hh))
   |with_reducible refine lnI fun hln=>?_
   |fail)<;>(conv=>whnf)))
  all_goals (try (show _=_;simp only[wQ]))
  ·rw[hl] at hh;exact absurd hh (Int.lt_irrefl 0)
  ·exact absurd hl (by assumption)
  ·exact hn.symm
end
end Go.Vc.Z
