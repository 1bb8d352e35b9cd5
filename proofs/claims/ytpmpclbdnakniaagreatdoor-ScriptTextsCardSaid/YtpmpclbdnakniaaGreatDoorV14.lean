/- Requests, the document's: which may be, which are the same. -/
import Derived.Test.YtpmpclbdnakniaaGreatDoorV13
import Derived.Test.YtpmpclbdnakniaaGreatDoorV9
set_option linter.all false
namespace Go.Vc.Z
open Go Go.Vc Go.Proofs Go.RowKit Go.Pl Go.Lib
noncomputable section
set_option maxRecDepth 100000
attribute [local irreducible] inK Utf8.decode Utf8.encode Lib.itoa Pl.worth Pl.allDig
attribute [local irreducible] Lib.join
open Classical in
@[irreducible] def Df(a b:Request):Bool:=decide (a=b)
theorem Bc{a b:Request}:Df a b=true↔a=b:=by unfold Df;simp
theorem Uy{a b:Request}(h:a≠b):false=Df a b:=by
 cases hs:Df a b with
 |false=>rfl
 |true=>exact absurd (Bc.1 hs) h
def Pu:PC:=PC.of (fun x:Request × Request=>[.agg x.1.enc,.agg x.2.enc]) (fun _=>True) (fun x=>.bool (sB (Df x.1 x.2)))
def LSR{α:Type}[Inhabited α](x:Request × Request)(k:Nat)(l m:List α):LoopSpec:={
 α:=Nat
 keep:=[2,3,k]
 vals i:=[.ptr 0 0,.ptr 1 0,.int .i64 i]
 heap _:=[.var x.1.enc,.var x.2.enc]
 ok i:=i≤l.length∧∀ j,j<i→l.getD j default=m.getD j default
 μ i:=l.length - i }
def Yh:Request × Request→Nat→Option LR:=fun x i=>cond (Nat.beq i 6) (some (.inv (LSR x 5 x.1.coupons x.2.coupons))) (cond (Nat.beq i 11) (some (.inv (LSR x 6 x.1.taxes x.2.taxes))) (none))
set_option maxHeartbeats 2000000 in
theorem It{W:World}(hW:Tabs W):GoodP (Fw W) Tryz.prog 28 Pu:=by
 have hD:=A9 hW;have hC0:∀ x:Request × Request,Ad (Fw W) Tryz.prog Am:=fun x=>(Ba hW);refine As (D:=A8) (C:=fun x=>Am) (wr:=(fun _=>false)) rfl Ao hD hC0 Tryz.func28 (Yh) (fun _=>rfl) ?_;rintro⟨a,b⟩ hf hp;clear hf;have kc:∀ c:Coupon,cEq c c=true:=fun c=>Zs.2 rfl;have kx:∀ c:Tax,xEq c c=true:=fun c=>Zt.2 rfl
 (conv=>whnf)
 (repeat' (first|split<;>rename_i hh<;>try simp only[wS] at hh|with_reducible refine lnI fun hln=>?_)<;>conv=>whnf)
 all_goals try(show _=_;simp only[wQ])
 all_goals try (refine Uy fun h=>?_;subst h;simp_all;done)
 refine⟨?_,fun(i:Nat) hi=>?_⟩
 ·(conv=>whnf)
  refine⟨(0:Nat),[],?_,⟨⟨rfl,(nB rfl),rfl⟩,?_,?_⟩⟩
  ·exact⟨Nat.zero_le _,fun j hj=>absurd hj (Nat.not_lt_zero _)⟩
  ·exact tL
  ·exact tL
 ·obtain⟨h1,m1⟩:=hi;have h1:i≤a.coupons.length:=h1
  (conv=>whnf)
  (repeat' (first|(refine Aey ?_)|refine tuU ?_|split<;>rename_i hh<;>try simp only[wS] at hh|with_reducible refine lnI fun hln=>?_)<;>conv=>whnf)
  all_goals try(show _=_;simp only[wQ])
  ·refine Uy fun h=>?_;subst h;rw[kc _] at hh;cases hh
  ·(conv=>whnf)
   refine⟨(i+1:Nat),[],?_,⟨⟨rfl,(nB rfl),rfl⟩,?_,?_⟩⟩
   ·refine⟨⟨show i+1≤a.coupons.length by omega,fun j hj=>?_⟩,show a.coupons.length - (i+1)<a.coupons.length - i by omega⟩
    have hj:j<i+1:=hj;by_cases he:j=i
    ·subst he;exact Zs.1 hh
    ·exact m1 j (by omega)
   ·exact tL
   ·exact tL
  refine⟨?_,fun(i:Nat) hi=>?_⟩
  ·(conv=>whnf)
   refine⟨(0:Nat),[],?_,⟨⟨rfl,(nB rfl),rfl⟩,?_,?_⟩⟩
   ·exact⟨Nat.zero_le _,fun j hj=>absurd hj (Nat.not_lt_zero _)⟩
   ·exact tL
   ·exact tL
  ·obtain⟨h1,m2⟩:=hi;have h1:i≤a.taxes.length:=h1
   (conv=>whnf)
   (repeat' (first|(refine Aez ?_)|refine tuU ?_|split<;>rename_i hh<;>try simp only[wS] at hh|with_reducible refine lnI fun hln=>?_)<;>conv=>whnf)
   all_goals try(show _=_;simp only[wQ])
   ·refine Uy fun h=>?_;subst h;rw[kx _] at hh;cases hh
   ·(conv=>whnf)
    refine⟨(i+1:Nat),[],?_,⟨⟨rfl,(nB rfl),rfl⟩,?_,?_⟩⟩
    ·refine⟨⟨show i+1≤a.taxes.length by omega,fun j hj=>?_⟩,show a.taxes.length - (i+1)<a.taxes.length - i by omega⟩
     have hj:j<i+1:=hj;by_cases he:j=i
     ·subst he;exact Zt.1 hh
     ·exact m2 j (by omega)
    ·exact tL
    ·exact tL
   refine(Bc.2 ?_).symm;have e1:a.coupons=b.coupons:=Jr (by omega) fun j hj=>m1 j (by omega)
   have e2:a.taxes=b.taxes:=Jr (by omega) fun j hj=>m2 j (by omega)
   cases a;cases b;simp only at*;simp only[*]
@[irreducible] def Bb(r:Request)(c:Int):Bool:=
 if c=75 then F3 r.key else if c=68 then F0 r.day else if c=76 then Gb r.locator else if c=84 then Ed r.ticket
 else if c=78 then decide (1≤r.coupon)&&decide (r.coupon≤4) else if c=83 then Ji r.status else if c=65 then C2 r.amount
 else if c=74 then E5 12 r.coupons else if c=67 then E5 4 r.coupons else if c=88 then C0 r.taxes else F0 r.frm&&F0 r.til
def Cq(r:Request):Request:=cond (eqI r.kind 1) ⟨r.key,r.kind,r.day,0,0,0,r.locator,r.coupons,r.taxes,0,0,0⟩ (cond (eqI r.kind 2) ⟨r.key,r.kind,r.day,r.ticket,r.coupon,r.status,[],[],[],0,0,0⟩ (cond (eqI r.kind 3) ⟨r.key,r.kind,r.day,r.ticket,0,0,[],[],[],0,0,0⟩ (cond (eqI r.kind 4) ⟨r.key,r.kind,r.day,r.ticket,0,0,[],[],[],r.amount,0,0⟩ (cond (eqI r.kind 5) ⟨r.key,r.kind,r.day,r.ticket,0,0,[],r.coupons,r.taxes,r.amount,0,0⟩ (cond (eqI r.kind 6) ⟨r.key,r.kind,r.day,r.ticket,r.coupon,0,[],[],[],0,0,0⟩ (cond (eqI r.kind 7) ⟨r.key,r.kind,r.day,r.ticket,r.coupon,0,[],[],[],0,0,0⟩ (cond (eqI r.kind 8) ⟨[],r.kind,0,r.ticket,0,0,[],[],[],0,0,0⟩ (cond (eqI r.kind 9) ⟨[],r.kind,0,0,0,0,r.locator,[],[],0,0,0⟩ (cond (eqI r.kind 10) ⟨[],r.kind,0,0,0,0,[],[],[],0,r.frm,r.til⟩ (⟨[],r.kind,0,0,0,0,[],[],[],0,0,0⟩))))))))))
@[irreducible] def Af(r:Request):Bool:=cond (eqI r.kind 1) (Bb r 75&&(Bb r 68&&(Bb r 76&&(Bb r 74&&(Bb r 88&&Df r (Cq r)))))) (cond (eqI r.kind 2) (Bb r 75&&(Bb r 68&&(Bb r 84&&(Bb r 78&&(Bb r 83&&Df r (Cq r)))))) (cond (eqI r.kind 3) (Bb r 75&&(Bb r 68&&(Bb r 84&&Df r (Cq r)))) (cond (eqI r.kind 4) (Bb r 75&&(Bb r 68&&(Bb r 84&&(Bb r 65&&Df r (Cq r))))) (cond (eqI r.kind 5) (Bb r 75&&(Bb r 68&&(Bb r 84&&(Bb r 65&&(Bb r 67&&(Bb r 88&&Df r (Cq r))))))) (cond (eqI r.kind 6) (Bb r 75&&(Bb r 68&&(Bb r 84&&(Bb r 78&&Df r (Cq r))))) (cond (eqI r.kind 7) (Bb r 75&&(Bb r 68&&(Bb r 84&&(Bb r 78&&Df r (Cq r))))) (cond (eqI r.kind 8) (Bb r 84&&Df r (Cq r)) (cond (eqI r.kind 9) (Bb r 76&&Df r (Cq r)) (cond (eqI r.kind 10) (Bb r 82&&Df r (Cq r)) (false))))))))))
theorem Uz{r:Request}(h:r.kind=1):Af r=(Bb r 75&&(Bb r 68&&(Bb r 76&&(Bb r 74&&(Bb r 88&&Df r (Cq r)))))):=by unfold Af;rw[h];rfl
theorem Zv{r:Request}(h:r.kind=2):Af r=(Bb r 75&&(Bb r 68&&(Bb r 84&&(Bb r 78&&(Bb r 83&&Df r (Cq r)))))):=by unfold Af;rw[h];rfl
theorem Zw{r:Request}(h:r.kind=3):Af r=(Bb r 75&&(Bb r 68&&(Bb r 84&&Df r (Cq r)))):=by unfold Af;rw[h];rfl
theorem Zx{r:Request}(h:r.kind=4):Af r=(Bb r 75&&(Bb r 68&&(Bb r 84&&(Bb r 65&&Df r (Cq r))))):=by unfold Af;rw[h];rfl
theorem Zy{r:Request}(h:r.kind=5):Af r=(Bb r 75&&(Bb r 68&&(Bb r 84&&(Bb r 65&&(Bb r 67&&(Bb r 88&&Df r (Cq r))))))):=by unfold Af;rw[h];rfl
theorem Zz{r:Request}(h:r.kind=6):Af r=(Bb r 75&&(Bb r 68&&(Bb r 84&&(Bb r 78&&Df r (Cq r))))):=by unfold Af;rw[h];rfl
theorem Z0{r:Request}(h:r.kind=7):Af r=(Bb r 75&&(Bb r 68&&(Bb r 84&&(Bb r 78&&Df r (Cq r))))):=by unfold Af;rw[h];rfl
theorem Z1{r:Request}(h:r.kind=8):Af r=(Bb r 84&&Df r (Cq r)):=by unfold Af;rw[h];rfl
theorem Z2{r:Request}(h:r.kind=9):Af r=(Bb r 76&&Df r (Cq r)):=by unfold Af;rw[h];rfl
theorem Wd{r:Request}(h:r.kind=10):Af r=(Bb r 82&&Df r (Cq r)):=by unfold Af;rw[h];rfl
theorem Rf{r:Request}(h: ¬(1≤r.kind∧r.kind≤10)):Af r=false:=by
 unfold Af;have e:∀ k:Int,1≤k→k≤10→eqI r.kind k=false:=fun k h1 h2=>by
  rw[Ca,beq_eq_false_iff_ne];omega
 simp only[e 1 (by decide) (by decide),e 2 (by decide) (by decide),e 3 (by decide) (by decide),e 4 (by decide) (by decide),e 5 (by decide) (by decide),e 6 (by decide) (by decide),e 7 (by decide) (by decide),e 8 (by decide) (by decide),e 9 (by decide) (by decide),e 10 (by decide) (by decide),cond_false]
def Aqk:PC:=PC.of (fun x:Request × Int=>[.agg x.1.enc,.int .u8 x.2]) (fun _=>True) (fun x=>.bool (sB (Bb x.1 x.2)))
def Gk:PT:=Cg [(63,Ap0),(64,Q4),(69,kI),(138,Apz),(139,Acb),(165,Uv),(166,Ak1),(167,Aks)]
theorem Kj{W:World}(hW:Tabs W):Cb (Fw W) Tryz.prog Gk:=(Ab Tryz.call63 (Sk hW) (Ab Tryz.call64 (Tp hW) (Ab Tryz.call69 (Pq hW) (Ab Tryz.call138 (Pr hW) (Ab Tryz.call139 (Iq hW) (Ab Tryz.call165 (Ux hW) (Ab Tryz.call166 (Qj hW) (Ab Tryz.call167 (Sp hW) Aq))))))))
def Gl:FuncId→Option Ctr:=Av Gk []
theorem Ts{W:World}(hW:Tabs W):Ad (Fw W) Tryz.prog Gl:=(Ar (Kj hW))
set_option maxHeartbeats 2000000 in
theorem Tt{W:World}(hW:Tabs W):GoodP (Fw W) Tryz.prog 76 Aqk:=by
 have hD:=Kj hW;have hC0:∀ x:Request × Int,Ad (Fw W) Tryz.prog Gl:=fun x=>(Ts hW);refine As (D:=Gk) (C:=fun x=>Gl) (wr:=(fun _=>false)) rfl Ao hD hC0 Tryz.func76 (fun _ _=>none) (fun _=>rfl) ?_;rintro⟨r,c⟩ hf hp;clear hf;have hb:Bb r c=if c=75 then F3 r.key else if c=68 then F0 r.day else if c=76 then Gb r.locator else if c=84 then Ed r.ticket else if c=78 then decide (1≤r.coupon)&&decide (r.coupon≤4) else if c=83 then Ji r.status else if c=65 then C2 r.amount else if c=74 then E5 12 r.coupons else if c=67 then E5 4 r.coupons else if c=88 then C0 r.taxes else F0 r.frm&&F0 r.til:=by unfold Bb;rfl
 (conv=>whnf)
 (repeat' (first|refine tuU ?_|split<;>rename_i hh<;>try simp only[wS] at hh)<;>conv=>whnf)
 all_goals try(show _=_;simp only[wQ])
 all_goals try (
  first
  |refine⟨(r.coupons,(12:Int)),True.intro,Ac _,?_⟩
  |refine⟨(r.coupons,(4:Int)),True.intro,Ac _,?_⟩
  |refine⟨r.taxes,True.intro,Ac _,?_⟩
  (conv=>whnf)
  all_goals try(show _=_;simp only[wQ]))
 all_goals (rw[hb];simp[*,B7];try (intros;omega))
def Aql:PC:=PC.of (fun r:Request=>[.agg r.enc]) (fun r=>1≤r.kind∧r.kind≤10) (fun r=>.agg (Cq r).enc)
def Iu:PT:=Cg [(75,Ae0)]
theorem Og{W:World}(hW:Tabs W):Cb (Fw W) Tryz.prog Iu:=(Ab Tryz.call75 (Gv hW) Aq)
def Iv:FuncId→Option Ctr:=Av Iu []
theorem Yi{W:World}(hW:Tabs W):Ad (Fw W) Tryz.prog Iv:=(Ar (Og hW))
def Yj:Request→Nat→Option LR:=fun r i=>cond (Nat.beq i 4) (some (.unroll 7)) (none)
set_option maxHeartbeats 2000000 in
theorem Yk{W:World}(hW:Tabs W):GoodP (Fw W) Tryz.prog 77 Aql:=by
 have hD:=Og hW;have hC0:∀ r:Request,Ad (Fw W) Tryz.prog Iv:=fun r=>(Yi hW);refine As (D:=Iu) (C:=fun r=>Iv) (wr:=(fun _=>false)) rfl Ao hD hC0 Tryz.func77 (Yj) (fun _=>rfl) ?_;rintro⟨key,kind,day,ticket,coupon,status,locator,coupons,taxes,amount,frm,til⟩ hf hp;clear hf;rcases kinds hp with rfl|rfl|rfl|rfl|rfl|rfl|rfl|rfl|rfl|rfl;all_goals (
  (conv=>whnf)
  (repeat' (first|with_reducible exact⟨⟩|((with_reducible refine aI ?_ ?_);focus (refine⟨?_,?_⟩<;>exact of_decide_eq_true rfl))|refine tuU ?_|with_reducible refine lnI fun hln=>?_|with_reducible refine iA ?_ ?_)<;>conv=>whnf)
  all_goals try(show _=_;simp only[wQ])
  )
 all_goals first|rfl|exact⟨rfl,fun h=>h,fun _ _=>rfl⟩
def lB:PC:=PC.of (fun r:Request=>[.agg r.enc]) (fun _=>True) (fun r=>.bool (sB (Af r)))
def Jt:PT:=Cg [(28,Pu),(75,Ae0),(76,Aqk),(77,Aql)]
theorem Pv{W:World}(hW:Tabs W):Cb (Fw W) Tryz.prog Jt:=(Ab Tryz.call28 (It hW) (Ab Tryz.call75 (Gv hW) (Ab Tryz.call76 (Tt hW) (Ab Tryz.call77 (Yk hW) Aq))))
def Ju:FuncId→Option Ctr:=Av Jt []
theorem Z3{W:World}(hW:Tabs W):Ad (Fw W) Tryz.prog Ju:=(Ar (Pv hW))
def Z4:Request→Nat→Option LR:=fun r i=>cond (Nat.beq i 3) (some (.unroll 7)) (none)
set_option maxHeartbeats 4000000 in
theorem Pw{W:World}(hW:Tabs W):GoodP (Fw W) Tryz.prog 25 lB:=by
 have hD:=Pv hW;have hC0:∀ r:Request,Ad (Fw W) Tryz.prog Ju:=fun r=>(Z3 hW);refine As (D:=Jt) (C:=fun r=>Ju) (wr:=(fun _=>false)) rfl Ao hD hC0 Tryz.func25 (Z4) (fun _=>rfl) ?_;rintro⟨key,kind,day,ticket,coupon,status,locator,coupons,taxes,amount,frm,til⟩ hf hp;clear hf;by_cases h:1≤kind∧kind≤10
 ·rcases kinds h with rfl|rfl|rfl|rfl|rfl|rfl|rfl|rfl|rfl|rfl
  ·have hm:=Uz (r:=⟨key,1,day,ticket,coupon,status,locator,coupons,taxes,amount,frm,til⟩) rfl
   (conv=>whnf)
   (repeat' (first|((with_reducible refine aI ?_ ?_);focus (refine⟨?_,?_⟩<;>exact of_decide_eq_true rfl))|refine tuU ?_|with_reducible refine lnI fun hln=>?_)<;>conv=>whnf)
   refine⟨((⟨key,1,day,ticket,coupon,status,locator,coupons,taxes,amount,frm,til⟩:Request),(75:Int)),True.intro,?_,?_⟩
   ·exact Ac _
   (conv=>whnf)
   (repeat' (first|((with_reducible refine aI ?_ ?_);focus (refine⟨?_,?_⟩<;>exact of_decide_eq_true rfl))|refine tuU ?_|split<;>rename_i hh<;>try simp only[wS] at hh|with_reducible refine lnI fun hln=>?_)<;>conv=>whnf)
   all_goals try(show _=_;simp only[wQ])
   ·rw[hm];simp[*]
   refine⟨((⟨key,1,day,ticket,coupon,status,locator,coupons,taxes,amount,frm,til⟩:Request),(68:Int)),True.intro,?_,?_⟩
   ·exact Ac _
   (conv=>whnf)
   (repeat' (first|((with_reducible refine aI ?_ ?_);focus (refine⟨?_,?_⟩<;>exact of_decide_eq_true rfl))|refine tuU ?_|split<;>rename_i hh<;>try simp only[wS] at hh|with_reducible refine lnI fun hln=>?_)<;>conv=>whnf)
   all_goals try(show _=_;simp only[wQ])
   ·rw[hm];simp[*]
   refine⟨((⟨key,1,day,ticket,coupon,status,locator,coupons,taxes,amount,frm,til⟩:Request),(76:Int)),True.intro,?_,?_⟩
   ·exact Ac _
   (conv=>whnf)
   (repeat' (first|((with_reducible refine aI ?_ ?_);focus (refine⟨?_,?_⟩<;>exact of_decide_eq_true rfl))|refine tuU ?_|split<;>rename_i hh<;>try simp only[wS] at hh|with_reducible refine lnI fun hln=>?_)<;>conv=>whnf)
   all_goals try(show _=_;simp only[wQ])
   ·rw[hm];simp[*]
   refine⟨((⟨key,1,day,ticket,coupon,status,locator,coupons,taxes,amount,frm,til⟩:Request),(74:Int)),True.intro,?_,?_⟩
   ·exact Ac _
   (conv=>whnf)
   (repeat' (first|((with_reducible refine aI ?_ ?_);focus (refine⟨?_,?_⟩<;>exact of_decide_eq_true rfl))|refine tuU ?_|split<;>rename_i hh<;>try simp only[wS] at hh|with_reducible refine lnI fun hln=>?_)<;>conv=>whnf)
   all_goals try(show _=_;simp only[wQ])
   ·rw[hm];simp[*]
   refine⟨((⟨key,1,day,ticket,coupon,status,locator,coupons,taxes,amount,frm,til⟩:Request),(88:Int)),True.intro,?_,?_⟩
   ·exact Ac _
   (conv=>whnf)
   (repeat' (first|refine tuU ?_|split<;>rename_i hh<;>try simp only[wS] at hh|with_reducible refine lnI fun hln=>?_)<;>conv=>whnf)
   all_goals try(show _=_;simp only[wQ])
   ·rw[hm];simp[*]
   refine⟨(⟨key,1,day,ticket,coupon,status,locator,coupons,taxes,amount,frm,til⟩:Request),⟨of_decide_eq_true rfl,of_decide_eq_true rfl⟩,?_,?_⟩
   ·exact Ac _
   (conv=>whnf)
   (repeat' (first|refine tuU ?_)<;>conv=>whnf)
   refine⟨((⟨key,1,day,ticket,coupon,status,locator,coupons,taxes,amount,frm,til⟩:Request),Cq ⟨key,1,day,ticket,coupon,status,locator,coupons,taxes,amount,frm,til⟩),True.intro,?_,?_⟩
   ·exact Ac _
   (conv=>whnf)
   all_goals try(show _=_;simp only[wQ])
   rw[hm];simp[*]
  ·have hm:=Zv (r:=⟨key,2,day,ticket,coupon,status,locator,coupons,taxes,amount,frm,til⟩) rfl
   (conv=>whnf)
   (repeat' (first|((with_reducible refine aI ?_ ?_);focus (refine⟨?_,?_⟩<;>exact of_decide_eq_true rfl))|refine tuU ?_|with_reducible refine lnI fun hln=>?_)<;>conv=>whnf)
   refine⟨((⟨key,2,day,ticket,coupon,status,locator,coupons,taxes,amount,frm,til⟩:Request),(75:Int)),True.intro,?_,?_⟩
   ·exact Ac _
   (conv=>whnf)
   (repeat' (first|((with_reducible refine aI ?_ ?_);focus (refine⟨?_,?_⟩<;>exact of_decide_eq_true rfl))|refine tuU ?_|split<;>rename_i hh<;>try simp only[wS] at hh|with_reducible refine lnI fun hln=>?_)<;>conv=>whnf)
   all_goals try(show _=_;simp only[wQ])
   ·rw[hm];simp[*]
   refine⟨((⟨key,2,day,ticket,coupon,status,locator,coupons,taxes,amount,frm,til⟩:Request),(68:Int)),True.intro,?_,?_⟩
   ·exact Ac _
   (conv=>whnf)
   (repeat' (first|((with_reducible refine aI ?_ ?_);focus (refine⟨?_,?_⟩<;>exact of_decide_eq_true rfl))|refine tuU ?_|split<;>rename_i hh<;>try simp only[wS] at hh|with_reducible refine lnI fun hln=>?_)<;>conv=>whnf)
   all_goals try(show _=_;simp only[wQ])
   ·rw[hm];simp[*]
   refine⟨((⟨key,2,day,ticket,coupon,status,locator,coupons,taxes,amount,frm,til⟩:Request),(84:Int)),True.intro,?_,?_⟩
   ·exact Ac _
   (conv=>whnf)
   (repeat' (first|((with_reducible refine aI ?_ ?_);focus (refine⟨?_,?_⟩<;>exact of_decide_eq_true rfl))|refine tuU ?_|split<;>rename_i hh<;>try simp only[wS] at hh|with_reducible refine lnI fun hln=>?_)<;>conv=>whnf)
   all_goals try(show _=_;simp only[wQ])
   ·rw[hm];simp[*]
   refine⟨((⟨key,2,day,ticket,coupon,status,locator,coupons,taxes,amount,frm,til⟩:Request),(78:Int)),True.intro,?_,?_⟩
   ·exact Ac _
   (conv=>whnf)
   (repeat' (first|((with_reducible refine aI ?_ ?_);focus (refine⟨?_,?_⟩<;>exact of_decide_eq_true rfl))|refine tuU ?_|split<;>rename_i hh<;>try simp only[wS] at hh|with_reducible refine lnI fun hln=>?_)<;>conv=>whnf)
   all_goals try(show _=_;simp only[wQ])
   ·rw[hm];simp[*]
   refine⟨((⟨key,2,day,ticket,coupon,status,locator,coupons,taxes,amount,frm,til⟩:Request),(83:Int)),True.intro,?_,?_⟩
   ·exact Ac _
   (conv=>whnf)
   (repeat' (first|refine tuU ?_|split<;>rename_i hh<;>try simp only[wS] at hh|with_reducible refine lnI fun hln=>?_)<;>conv=>whnf)
   all_goals try(show _=_;simp only[wQ])
   ·rw[hm];simp[*]
   refine⟨(⟨key,2,day,ticket,coupon,status,locator,coupons,taxes,amount,frm,til⟩:Request),⟨of_decide_eq_true rfl,of_decide_eq_true rfl⟩,?_,?_⟩
   ·exact Ac _
   (conv=>whnf)
   (repeat' (first|refine tuU ?_)<;>conv=>whnf)
   refine⟨((⟨key,2,day,ticket,coupon,status,locator,coupons,taxes,amount,frm,til⟩:Request),Cq ⟨key,2,day,ticket,coupon,status,locator,coupons,taxes,amount,frm,til⟩),True.intro,?_,?_⟩
   ·exact Ac _
   (conv=>whnf)
   all_goals try(show _=_;simp only[wQ])
   rw[hm];simp[*]
  ·have hm:=Zw (r:=⟨key,3,day,ticket,coupon,status,locator,coupons,taxes,amount,frm,til⟩) rfl
   (conv=>whnf)
   (repeat' (first|((with_reducible refine aI ?_ ?_);focus (refine⟨?_,?_⟩<;>exact of_decide_eq_true rfl))|refine tuU ?_|with_reducible refine lnI fun hln=>?_)<;>conv=>whnf)
   refine⟨((⟨key,3,day,ticket,coupon,status,locator,coupons,taxes,amount,frm,til⟩:Request),(75:Int)),True.intro,?_,?_⟩
   ·exact Ac _
   (conv=>whnf)
   (repeat' (first|((with_reducible refine aI ?_ ?_);focus (refine⟨?_,?_⟩<;>exact of_decide_eq_true rfl))|refine tuU ?_|split<;>rename_i hh<;>try simp only[wS] at hh|with_reducible refine lnI fun hln=>?_)<;>conv=>whnf)
   all_goals try(show _=_;simp only[wQ])
   ·rw[hm];simp[*]
   refine⟨((⟨key,3,day,ticket,coupon,status,locator,coupons,taxes,amount,frm,til⟩:Request),(68:Int)),True.intro,?_,?_⟩
   ·exact Ac _
   (conv=>whnf)
   (repeat' (first|((with_reducible refine aI ?_ ?_);focus (refine⟨?_,?_⟩<;>exact of_decide_eq_true rfl))|refine tuU ?_|split<;>rename_i hh<;>try simp only[wS] at hh|with_reducible refine lnI fun hln=>?_)<;>conv=>whnf)
   all_goals try(show _=_;simp only[wQ])
   ·rw[hm];simp[*]
   refine⟨((⟨key,3,day,ticket,coupon,status,locator,coupons,taxes,amount,frm,til⟩:Request),(84:Int)),True.intro,?_,?_⟩
   ·exact Ac _
   (conv=>whnf)
   (repeat' (first|refine tuU ?_|split<;>rename_i hh<;>try simp only[wS] at hh|with_reducible refine lnI fun hln=>?_)<;>conv=>whnf)
   all_goals try(show _=_;simp only[wQ])
   ·rw[hm];simp[*]
   refine⟨(⟨key,3,day,ticket,coupon,status,locator,coupons,taxes,amount,frm,til⟩:Request),⟨of_decide_eq_true rfl,of_decide_eq_true rfl⟩,?_,?_⟩
   ·exact Ac _
   (conv=>whnf)
   (repeat' (first|refine tuU ?_)<;>conv=>whnf)
   refine⟨((⟨key,3,day,ticket,coupon,status,locator,coupons,taxes,amount,frm,til⟩:Request),Cq ⟨key,3,day,ticket,coupon,status,locator,coupons,taxes,amount,frm,til⟩),True.intro,?_,?_⟩
   ·exact Ac _
   (conv=>whnf)
   all_goals try(show _=_;simp only[wQ])
   rw[hm];simp[*]
  ·have hm:=Zx (r:=⟨key,4,day,ticket,coupon,status,locator,coupons,taxes,amount,frm,til⟩) rfl
   (conv=>whnf)
   (repeat' (first|((with_reducible refine aI ?_ ?_);focus (refine⟨?_,?_⟩<;>exact of_decide_eq_true rfl))|refine tuU ?_|with_reducible refine lnI fun hln=>?_)<;>conv=>whnf)
   refine⟨((⟨key,4,day,ticket,coupon,status,locator,coupons,taxes,amount,frm,til⟩:Request),(75:Int)),True.intro,?_,?_⟩
   ·exact Ac _
   (conv=>whnf)
   (repeat' (first|((with_reducible refine aI ?_ ?_);focus (refine⟨?_,?_⟩<;>exact of_decide_eq_true rfl))|refine tuU ?_|split<;>rename_i hh<;>try simp only[wS] at hh|with_reducible refine lnI fun hln=>?_)<;>conv=>whnf)
   all_goals try(show _=_;simp only[wQ])
   ·rw[hm];simp[*]
   refine⟨((⟨key,4,day,ticket,coupon,status,locator,coupons,taxes,amount,frm,til⟩:Request),(68:Int)),True.intro,?_,?_⟩
   ·exact Ac _
   (conv=>whnf)
   (repeat' (first|((with_reducible refine aI ?_ ?_);focus (refine⟨?_,?_⟩<;>exact of_decide_eq_true rfl))|refine tuU ?_|split<;>rename_i hh<;>try simp only[wS] at hh|with_reducible refine lnI fun hln=>?_)<;>conv=>whnf)
   all_goals try(show _=_;simp only[wQ])
   ·rw[hm];simp[*]
   refine⟨((⟨key,4,day,ticket,coupon,status,locator,coupons,taxes,amount,frm,til⟩:Request),(84:Int)),True.intro,?_,?_⟩
   ·exact Ac _
   (conv=>whnf)
   (repeat' (first|((with_reducible refine aI ?_ ?_);focus (refine⟨?_,?_⟩<;>exact of_decide_eq_true rfl))|refine tuU ?_|split<;>rename_i hh<;>try simp only[wS] at hh|with_reducible refine lnI fun hln=>?_)<;>conv=>whnf)
   all_goals try(show _=_;simp only[wQ])
   ·rw[hm];simp[*]
   refine⟨((⟨key,4,day,ticket,coupon,status,locator,coupons,taxes,amount,frm,til⟩:Request),(65:Int)),True.intro,?_,?_⟩
   ·exact Ac _
   (conv=>whnf)
   (repeat' (first|refine tuU ?_|split<;>rename_i hh<;>try simp only[wS] at hh|with_reducible refine lnI fun hln=>?_)<;>conv=>whnf)
   all_goals try(show _=_;simp only[wQ])
   ·rw[hm];simp[*]
   refine⟨(⟨key,4,day,ticket,coupon,status,locator,coupons,taxes,amount,frm,til⟩:Request),⟨of_decide_eq_true rfl,of_decide_eq_true rfl⟩,?_,?_⟩
   ·exact Ac _
   (conv=>whnf)
   (repeat' (first|refine tuU ?_)<;>conv=>whnf)
   refine⟨((⟨key,4,day,ticket,coupon,status,locator,coupons,taxes,amount,frm,til⟩:Request),Cq ⟨key,4,day,ticket,coupon,status,locator,coupons,taxes,amount,frm,til⟩),True.intro,?_,?_⟩
   ·exact Ac _
   (conv=>whnf)
   all_goals try(show _=_;simp only[wQ])
   rw[hm];simp[*]
  ·have hm:=Zy (r:=⟨key,5,day,ticket,coupon,status,locator,coupons,taxes,amount,frm,til⟩) rfl
   (conv=>whnf)
   (repeat' (first|((with_reducible refine aI ?_ ?_);focus (refine⟨?_,?_⟩<;>exact of_decide_eq_true rfl))|refine tuU ?_|with_reducible refine lnI fun hln=>?_)<;>conv=>whnf)
   refine⟨((⟨key,5,day,ticket,coupon,status,locator,coupons,taxes,amount,frm,til⟩:Request),(75:Int)),True.intro,?_,?_⟩
   ·exact Ac _
   (conv=>whnf)
   (repeat' (first|((with_reducible refine aI ?_ ?_);focus (refine⟨?_,?_⟩<;>exact of_decide_eq_true rfl))|refine tuU ?_|split<;>rename_i hh<;>try simp only[wS] at hh|with_reducible refine lnI fun hln=>?_)<;>conv=>whnf)
   all_goals try(show _=_;simp only[wQ])
   ·rw[hm];simp[*]
   refine⟨((⟨key,5,day,ticket,coupon,status,locator,coupons,taxes,amount,frm,til⟩:Request),(68:Int)),True.intro,?_,?_⟩
   ·exact Ac _
   (conv=>whnf)
   (repeat' (first|((with_reducible refine aI ?_ ?_);focus (refine⟨?_,?_⟩<;>exact of_decide_eq_true rfl))|refine tuU ?_|split<;>rename_i hh<;>try simp only[wS] at hh|with_reducible refine lnI fun hln=>?_)<;>conv=>whnf)
   all_goals try(show _=_;simp only[wQ])
   ·rw[hm];simp[*]
   refine⟨((⟨key,5,day,ticket,coupon,status,locator,coupons,taxes,amount,frm,til⟩:Request),(84:Int)),True.intro,?_,?_⟩
   ·exact Ac _
   (conv=>whnf)
   (repeat' (first|((with_reducible refine aI ?_ ?_);focus (refine⟨?_,?_⟩<;>exact of_decide_eq_true rfl))|refine tuU ?_|split<;>rename_i hh<;>try simp only[wS] at hh|with_reducible refine lnI fun hln=>?_)<;>conv=>whnf)
   all_goals try(show _=_;simp only[wQ])
   ·rw[hm];simp[*]
   refine⟨((⟨key,5,day,ticket,coupon,status,locator,coupons,taxes,amount,frm,til⟩:Request),(65:Int)),True.intro,?_,?_⟩
   ·exact Ac _
   (conv=>whnf)
   (repeat' (first|((with_reducible refine aI ?_ ?_);focus (refine⟨?_,?_⟩<;>exact of_decide_eq_true rfl))|refine tuU ?_|split<;>rename_i hh<;>try simp only[wS] at hh|with_reducible refine lnI fun hln=>?_)<;>conv=>whnf)
   all_goals try(show _=_;simp only[wQ])
   ·rw[hm];simp[*]
   refine⟨((⟨key,5,day,ticket,coupon,status,locator,coupons,taxes,amount,frm,til⟩:Request),(67:Int)),True.intro,?_,?_⟩
   ·exact Ac _
   (conv=>whnf)
   (repeat' (first|((with_reducible refine aI ?_ ?_);focus (refine⟨?_,?_⟩<;>exact of_decide_eq_true rfl))|refine tuU ?_|split<;>rename_i hh<;>try simp only[wS] at hh|with_reducible refine lnI fun hln=>?_)<;>conv=>whnf)
   all_goals try(show _=_;simp only[wQ])
   ·rw[hm];simp[*]
   refine⟨((⟨key,5,day,ticket,coupon,status,locator,coupons,taxes,amount,frm,til⟩:Request),(88:Int)),True.intro,?_,?_⟩
   ·exact Ac _
   (conv=>whnf)
   (repeat' (first|refine tuU ?_|split<;>rename_i hh<;>try simp only[wS] at hh|with_reducible refine lnI fun hln=>?_)<;>conv=>whnf)
   all_goals try(show _=_;simp only[wQ])
   ·rw[hm];simp[*]
   refine⟨(⟨key,5,day,ticket,coupon,status,locator,coupons,taxes,amount,frm,til⟩:Request),⟨of_decide_eq_true rfl,of_decide_eq_true rfl⟩,?_,?_⟩
   ·exact Ac _
   (conv=>whnf)
   (repeat' (first|refine tuU ?_)<;>conv=>whnf)
   refine⟨((⟨key,5,day,ticket,coupon,status,locator,coupons,taxes,amount,frm,til⟩:Request),Cq ⟨key,5,day,ticket,coupon,status,locator,coupons,taxes,amount,frm,til⟩),True.intro,?_,?_⟩
   ·exact Ac _
   (conv=>whnf)
   all_goals try(show _=_;simp only[wQ])
   rw[hm];simp[*]
  ·have hm:=Zz (r:=⟨key,6,day,ticket,coupon,status,locator,coupons,taxes,amount,frm,til⟩) rfl
   (conv=>whnf)
   (repeat' (first|((with_reducible refine aI ?_ ?_);focus (refine⟨?_,?_⟩<;>exact of_decide_eq_true rfl))|refine tuU ?_|with_reducible refine lnI fun hln=>?_)<;>conv=>whnf)
   refine⟨((⟨key,6,day,ticket,coupon,status,locator,coupons,taxes,amount,frm,til⟩:Request),(75:Int)),True.intro,?_,?_⟩
   ·exact Ac _
   (conv=>whnf)
   (repeat' (first|((with_reducible refine aI ?_ ?_);focus (refine⟨?_,?_⟩<;>exact of_decide_eq_true rfl))|refine tuU ?_|split<;>rename_i hh<;>try simp only[wS] at hh|with_reducible refine lnI fun hln=>?_)<;>conv=>whnf)
   all_goals try(show _=_;simp only[wQ])
   ·rw[hm];simp[*]
   refine⟨((⟨key,6,day,ticket,coupon,status,locator,coupons,taxes,amount,frm,til⟩:Request),(68:Int)),True.intro,?_,?_⟩
   ·exact Ac _
   (conv=>whnf)
   (repeat' (first|((with_reducible refine aI ?_ ?_);focus (refine⟨?_,?_⟩<;>exact of_decide_eq_true rfl))|refine tuU ?_|split<;>rename_i hh<;>try simp only[wS] at hh|with_reducible refine lnI fun hln=>?_)<;>conv=>whnf)
   all_goals try(show _=_;simp only[wQ])
   ·rw[hm];simp[*]
   refine⟨((⟨key,6,day,ticket,coupon,status,locator,coupons,taxes,amount,frm,til⟩:Request),(84:Int)),True.intro,?_,?_⟩
   ·exact Ac _
   (conv=>whnf)
   (repeat' (first|((with_reducible refine aI ?_ ?_);focus (refine⟨?_,?_⟩<;>exact of_decide_eq_true rfl))|refine tuU ?_|split<;>rename_i hh<;>try simp only[wS] at hh|with_reducible refine lnI fun hln=>?_)<;>conv=>whnf)
   all_goals try(show _=_;simp only[wQ])
   ·rw[hm];simp[*]
   refine⟨((⟨key,6,day,ticket,coupon,status,locator,coupons,taxes,amount,frm,til⟩:Request),(78:Int)),True.intro,?_,?_⟩
   ·exact Ac _
   (conv=>whnf)
   (repeat' (first|refine tuU ?_|split<;>rename_i hh<;>try simp only[wS] at hh|with_reducible refine lnI fun hln=>?_)<;>conv=>whnf)
   all_goals try(show _=_;simp only[wQ])
   ·rw[hm];simp[*]
   refine⟨(⟨key,6,day,ticket,coupon,status,locator,coupons,taxes,amount,frm,til⟩:Request),⟨of_decide_eq_true rfl,of_decide_eq_true rfl⟩,?_,?_⟩
   ·exact Ac _
   (conv=>whnf)
   (repeat' (first|refine tuU ?_)<;>conv=>whnf)
   refine⟨((⟨key,6,day,ticket,coupon,status,locator,coupons,taxes,amount,frm,til⟩:Request),Cq ⟨key,6,day,ticket,coupon,status,locator,coupons,taxes,amount,frm,til⟩),True.intro,?_,?_⟩
   ·exact Ac _
   (conv=>whnf)
   all_goals try(show _=_;simp only[wQ])
   rw[hm];simp[*]
  ·have hm:=Z0 (r:=⟨key,7,day,ticket,coupon,status,locator,coupons,taxes,amount,frm,til⟩) rfl
   (conv=>whnf)
   (repeat' (first|((with_reducible refine aI ?_ ?_);focus (refine⟨?_,?_⟩<;>exact of_decide_eq_true rfl))|refine tuU ?_|with_reducible refine lnI fun hln=>?_)<;>conv=>whnf)
   refine⟨((⟨key,7,day,ticket,coupon,status,locator,coupons,taxes,amount,frm,til⟩:Request),(75:Int)),True.intro,?_,?_⟩
   ·exact Ac _
   (conv=>whnf)
   (repeat' (first|((with_reducible refine aI ?_ ?_);focus (refine⟨?_,?_⟩<;>exact of_decide_eq_true rfl))|refine tuU ?_|split<;>rename_i hh<;>try simp only[wS] at hh|with_reducible refine lnI fun hln=>?_)<;>conv=>whnf)
   all_goals try(show _=_;simp only[wQ])
   ·rw[hm];simp[*]
   refine⟨((⟨key,7,day,ticket,coupon,status,locator,coupons,taxes,amount,frm,til⟩:Request),(68:Int)),True.intro,?_,?_⟩
   ·exact Ac _
   (conv=>whnf)
   (repeat' (first|((with_reducible refine aI ?_ ?_);focus (refine⟨?_,?_⟩<;>exact of_decide_eq_true rfl))|refine tuU ?_|split<;>rename_i hh<;>try simp only[wS] at hh|with_reducible refine lnI fun hln=>?_)<;>conv=>whnf)
   all_goals try(show _=_;simp only[wQ])
   ·rw[hm];simp[*]
   refine⟨((⟨key,7,day,ticket,coupon,status,locator,coupons,taxes,amount,frm,til⟩:Request),(84:Int)),True.intro,?_,?_⟩
   ·exact Ac _
   (conv=>whnf)
   (repeat' (first|((with_reducible refine aI ?_ ?_);focus (refine⟨?_,?_⟩<;>exact of_decide_eq_true rfl))|refine tuU ?_|split<;>rename_i hh<;>try simp only[wS] at hh|with_reducible refine lnI fun hln=>?_)<;>conv=>whnf)
   all_goals try(show _=_;simp only[wQ])
   ·rw[hm];simp[*]
   refine⟨((⟨key,7,day,ticket,coupon,status,locator,coupons,taxes,amount,frm,til⟩:Request),(78:Int)),True.intro,?_,?_⟩
   ·exact Ac _
   (conv=>whnf)
   (repeat' (first|refine tuU ?_|split<;>rename_i hh<;>try simp only[wS] at hh|with_reducible refine lnI fun hln=>?_)<;>conv=>whnf)
   all_goals try(show _=_;simp only[wQ])
   ·rw[hm];simp[*]
   refine⟨(⟨key,7,day,ticket,coupon,status,locator,coupons,taxes,amount,frm,til⟩:Request),⟨of_decide_eq_true rfl,of_decide_eq_true rfl⟩,?_,?_⟩
   ·exact Ac _
   (conv=>whnf)
   (repeat' (first|refine tuU ?_)<;>conv=>whnf)
   refine⟨((⟨key,7,day,ticket,coupon,status,locator,coupons,taxes,amount,frm,til⟩:Request),Cq ⟨key,7,day,ticket,coupon,status,locator,coupons,taxes,amount,frm,til⟩),True.intro,?_,?_⟩
   ·exact Ac _
   (conv=>whnf)
   all_goals try(show _=_;simp only[wQ])
   rw[hm];simp[*]
  ·have hm:=Z1 (r:=⟨key,8,day,ticket,coupon,status,locator,coupons,taxes,amount,frm,til⟩) rfl
   (conv=>whnf)
   (repeat' (first|((with_reducible refine aI ?_ ?_);focus (refine⟨?_,?_⟩<;>exact of_decide_eq_true rfl))|refine tuU ?_|with_reducible refine lnI fun hln=>?_)<;>conv=>whnf)
   refine⟨((⟨key,8,day,ticket,coupon,status,locator,coupons,taxes,amount,frm,til⟩:Request),(84:Int)),True.intro,?_,?_⟩
   ·exact Ac _
   (conv=>whnf)
   (repeat' (first|refine tuU ?_|split<;>rename_i hh<;>try simp only[wS] at hh|with_reducible refine lnI fun hln=>?_)<;>conv=>whnf)
   all_goals try(show _=_;simp only[wQ])
   ·rw[hm];simp[*]
   refine⟨(⟨key,8,day,ticket,coupon,status,locator,coupons,taxes,amount,frm,til⟩:Request),⟨of_decide_eq_true rfl,of_decide_eq_true rfl⟩,?_,?_⟩
   ·exact Ac _
   (conv=>whnf)
   (repeat' (first|refine tuU ?_)<;>conv=>whnf)
   refine⟨((⟨key,8,day,ticket,coupon,status,locator,coupons,taxes,amount,frm,til⟩:Request),Cq ⟨key,8,day,ticket,coupon,status,locator,coupons,taxes,amount,frm,til⟩),True.intro,?_,?_⟩
   ·exact Ac _
   (conv=>whnf)
   all_goals try(show _=_;simp only[wQ])
   rw[hm];simp[*]
  ·have hm:=Z2 (r:=⟨key,9,day,ticket,coupon,status,locator,coupons,taxes,amount,frm,til⟩) rfl
   (conv=>whnf)
   (repeat' (first|((with_reducible refine aI ?_ ?_);focus (refine⟨?_,?_⟩<;>exact of_decide_eq_true rfl))|refine tuU ?_|with_reducible refine lnI fun hln=>?_)<;>conv=>whnf)
   refine⟨((⟨key,9,day,ticket,coupon,status,locator,coupons,taxes,amount,frm,til⟩:Request),(76:Int)),True.intro,?_,?_⟩
   ·exact Ac _
   (conv=>whnf)
   (repeat' (first|refine tuU ?_|split<;>rename_i hh<;>try simp only[wS] at hh|with_reducible refine lnI fun hln=>?_)<;>conv=>whnf)
   all_goals try(show _=_;simp only[wQ])
   ·rw[hm];simp[*]
   refine⟨(⟨key,9,day,ticket,coupon,status,locator,coupons,taxes,amount,frm,til⟩:Request),⟨of_decide_eq_true rfl,of_decide_eq_true rfl⟩,?_,?_⟩
   ·exact Ac _
   (conv=>whnf)
   (repeat' (first|refine tuU ?_)<;>conv=>whnf)
   refine⟨((⟨key,9,day,ticket,coupon,status,locator,coupons,taxes,amount,frm,til⟩:Request),Cq ⟨key,9,day,ticket,coupon,status,locator,coupons,taxes,amount,frm,til⟩),True.intro,?_,?_⟩
   ·exact Ac _
   (conv=>whnf)
   all_goals try(show _=_;simp only[wQ])
   rw[hm];simp[*]
  ·have hm:=Wd (r:=⟨key,10,day,ticket,coupon,status,locator,coupons,taxes,amount,frm,til⟩) rfl
   (conv=>whnf)
   (repeat' (first|((with_reducible refine aI ?_ ?_);focus (refine⟨?_,?_⟩<;>exact of_decide_eq_true rfl))|refine tuU ?_|with_reducible refine lnI fun hln=>?_)<;>conv=>whnf)
   refine⟨((⟨key,10,day,ticket,coupon,status,locator,coupons,taxes,amount,frm,til⟩:Request),(82:Int)),True.intro,?_,?_⟩
   ·exact Ac _
   (conv=>whnf)
   (repeat' (first|refine tuU ?_|split<;>rename_i hh<;>try simp only[wS] at hh|with_reducible refine lnI fun hln=>?_)<;>conv=>whnf)
   all_goals try(show _=_;simp only[wQ])
   ·rw[hm];simp[*]
   refine⟨(⟨key,10,day,ticket,coupon,status,locator,coupons,taxes,amount,frm,til⟩:Request),⟨of_decide_eq_true rfl,of_decide_eq_true rfl⟩,?_,?_⟩
   ·exact Ac _
   (conv=>whnf)
   (repeat' (first|refine tuU ?_)<;>conv=>whnf)
   refine⟨((⟨key,10,day,ticket,coupon,status,locator,coupons,taxes,amount,frm,til⟩:Request),Cq ⟨key,10,day,ticket,coupon,status,locator,coupons,taxes,amount,frm,til⟩),True.intro,?_,?_⟩
   ·exact Ac _
   (conv=>whnf)
   all_goals try(show _=_;simp only[wQ])
   rw[hm];simp[*]
 ·have hl:Zu kind=[]:=Ak0 h;have hn:Af ⟨key,kind,day,ticket,coupon,status,locator,coupons,taxes,amount,frm,til⟩=false:=Rf h
  (conv=>whnf)
  (repeat' (first|refine tuU ?_|split<;>rename_i hh<;>try simp only[wS] at hh|with_reducible refine lnI fun hln=>?_)<;>conv=>whnf)
  all_goals try(show _=_;simp only[wQ])
  ·rw[hl] at hh;exact absurd hh (Int.lt_irrefl 0)
  ·exact absurd hl (by assumption)
  ·exact hn.symm
end
end Go.Vc.Z
