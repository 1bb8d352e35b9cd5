/- Requests, the program's: names, kinds, which are the same. -/
import Derived.Test.YtpmpclbdnakniaaGreatDoorV17
set_option linter.all false
namespace Go.Vc.Z
open Go Go.Vc Go.Proofs Go.RowKit Go.Pl Go.Lib
noncomputable section
set_option maxRecDepth 100000
attribute [local irreducible] inK Utf8.decode Utf8.encode Lib.itoa Pl.worth Pl.allDig
attribute [local irreducible] Lib.join
@[irreducible] def Cd(k:Int):List UInt8:=if 1≤k∧k≤10 then Dd.getD (k - 1).toNat [] else []
def lI:PC:=PC.fun fun|[.int .i64 k]=>some (True,.str (sS (Cd k)))|_=>none
def Eg:PT:=Cg []
theorem Hc{W:World}(hW:Tabs W):Cb (Fw W) Tryz.prog Eg:=Aq
def Fh:FuncId→Option Ctr:=Av Eg []
theorem Jx{W:World}(hW:Tabs W):Ad (Fw W) Tryz.prog Fh:=(Ar (Hc hW))
def gP:List (FuncId × Ctr):=(164,inl TY Fh Eg (fun _=>false) (fun _ _ _=>none) Tryz.f164)::[]
def Mr:FuncId→Option Ctr:=Av Eg gP
theorem gQ{W:World}(hW:Tabs W):Ad (Fw W) Tryz.prog Mr:=Ae Tryz.call164 (Ah rfl Ao (Hc hW) (Jx hW) Tryz.func164 (fun _ _ _=>none)) (Jx hW)
theorem Jy{W:World}(hW:Tabs W):GoodP (Fw W) Tryz.prog 73 lI:=by
 have hD:=Hc hW;have hC0:Ad (Fw W) Tryz.prog Mr:=(gQ hW);refine Au (D:=Eg) (C:=Mr) (wr:=(fun _=>false)) rfl Ao hD hC0 Tryz.func73 (fun _ _=>none) ?_;clear hC0 hD hW;intro cs p r h hf hp;split at h
 case h_2=>cases h
 rename_i k;cases h;try simp only[Az,Bd,Aw,Go.Vc.lo,Go.Vc.hi,and_true] at hf
 have hn:Cd k=if 1≤k∧k≤10 then Dd.getD (k - 1).toNat [] else []:=by unfold Cd;rfl
 by_cases h:1≤k∧k≤10
 ·rcases kinds h with rfl|rfl|rfl|rfl|rfl|rfl|rfl|rfl|rfl|rfl;all_goals (
   (conv=>whnf)
   (repeat' (first|(with_reducible refine Ap ?_))<;>conv=>whnf)
   all_goals try(show _=_;simp only[wQ])
   )
  all_goals (rw[hn];rfl)
 ·rw[if_neg h] at hn
  (conv=>whnf)
  (repeat' (first|(with_reducible refine Ap ?_)|split<;>rename_i hh<;>try simp only[wS] at hh)<;>conv=>whnf)
  all_goals try(show _=_;simp only[wQ])
  all_goals first|(rw[hn];done)|(exfalso;omega)
@[irreducible] def kindOf(s:List UInt8):Int:=if s=[105,115,115,117,101] then 1 else if s=[109,111,118,101] then 2 else if s=[118,111,105,100] then 3 else if s=[114,101,102,117,110,100] then 4 else if s=[101,120,99,104,97,110,103,101] then 5 else if s=[97,115,107] then 6 else if s=[114,101,116,117,114,110] then 7 else if s=[115,104,111,119] then 8 else if s=[102,105,110,100] then 9 else if s=[114,101,112,111,114,116] then 10 else 0
def A0v:PC:=PC.fun fun|[.str s]=>some (True,.int .i64 (sI (kindOf s)))|_=>none
theorem B8{k:Int}(h:1≤k∧k≤10):Cd k=Dd.getD (k - 1).toNat []:=by unfold Cd;rw[if_pos h]
theorem Afa{k:Int}(h: ¬(1≤k∧k≤10)):Cd k=[]:=by unfold Cd;rw[if_neg h]
theorem cO{k:Int}(h:1≤k∧k≤10):kindOf (Cd k)=k:=by
 rw[B8 h];unfold kindOf;rcases kinds h with rfl|rfl|rfl|rfl|rfl|rfl|rfl|rfl|rfl|rfl<;>rfl
theorem Ans{s:List UInt8}(h:∀ k,1≤k→k≤10→Cd k≠s):kindOf s=0:=by
 have e:∀ k:Int,1≤k→k≤10→¬s=Dd.getD (k - 1).toNat []:=fun k h1 h2 he=>h k h1 h2 (by rw[B8 ⟨h1,h2⟩,he])
 unfold kindOf;rw[if_neg (show¬s=[105,115,115,117,101] from e 1 (by decide) (by decide)),if_neg (show¬s=[109,111,118,101] from e 2 (by decide) (by decide)),if_neg (show¬s=[118,111,105,100] from e 3 (by decide) (by decide)),if_neg (show¬s=[114,101,102,117,110,100] from e 4 (by decide) (by decide)),if_neg (show¬s=[101,120,99,104,97,110,103,101] from e 5 (by decide) (by decide)),if_neg (show¬s=[97,115,107] from e 6 (by decide) (by decide)),if_neg (show¬s=[114,101,116,117,114,110] from e 7 (by decide) (by decide)),if_neg (show¬s=[115,104,111,119] from e 8 (by decide) (by decide)),if_neg (show¬s=[102,105,110,100] from e 9 (by decide) (by decide)),if_neg (show¬s=[114,101,112,111,114,116] from e 10 (by decide) (by decide))]
def A5r(s:List UInt8):LoopSpec:={
 α:=Nat
 keep:=[0,3]
 vals i:=[.str s,.int .i64 (i+1)]
 heap _:=[]
 ok i:=i≤10∧∀ k:Int,1≤k→k≤i→Cd k≠s
 μ i:=10 - i }
def Qk:PT:=Cg [(73,lI)]
theorem Xr{W:World}(hW:Tabs W):Cb (Fw W) Tryz.prog Qk:=(Ab Tryz.call73 (Jy hW) Aq)
def Ql:FuncId→Option Ctr:=Av Qk []
theorem rU{W:World}(hW:Tabs W):Ad (Fw W) Tryz.prog Ql:=(Ar (Xr hW))
def rV:List AV→Nat→Option LR:=fun cs i=>match cs with|[.str s]=>cond (Nat.beq i 2) (some (.inv (A5r s))) (none)|_=>none
theorem rW{W:World}(hW:Tabs W):GoodP (Fw W) Tryz.prog 79 A0v:=by
 have hD:=Xr hW;have hC0:Ad (Fw W) Tryz.prog Ql:=(rU hW);refine Au (D:=Qk) (C:=Ql) (wr:=(fun _=>false)) rfl Ao hD hC0 Tryz.func79 (rV) ?_;clear hC0 hD hW;intro cs p r h hf hp;split at h
 case h_2=>cases h
 rename_i s;cases h;try simp only[Az,Bd,Aw,Go.Vc.lo,Go.Vc.hi,and_true] at hf
 (conv=>whnf)
 refine⟨?_,fun(i:Nat) hi=>?_⟩
 ·(conv=>whnf)
  refine⟨(0:Nat),[],?_,⟨⟨rfl,(nB rfl),rfl⟩,?_,?_⟩⟩
  ·exact⟨Nat.zero_le _,fun k h1 h2=>absurd h2 (by have:k≤0:=h2;omega)⟩
  ·exact Ac _
  ·exact tL
 ·obtain⟨h1,h2⟩:=hi;have h1:i≤10:=h1;have hz: ¬Cd ((i:Int)+1)=[]→i<10:=fun h=>by
   refine Decidable.of_not_not fun hn=>h (Afa (by omega))
  have hk:i<10→Cd ((i:Int)+1)=s→kindOf s=(i:Int)+1:=fun hi h=>by rw[←h];exact cO (by omega)
  have hn:Cd ((i:Int)+1)=[]→kindOf s=0:=fun h=>by
   refine Ans fun k k1 k2=>h2 k k1 ?_;have: ¬i<10:=fun hi=>by
    rw[B8 (by omega)] at h
    rcases(by omega:i=0∨i=1∨i=2∨i=3∨i=4∨i=5∨i=6∨i=7∨i=8∨i=9) with rfl|rfl|rfl|rfl|rfl|rfl|rfl|rfl|rfl|rfl<;>exact absurd h (by decide)
   omega
  (conv=>whnf)
  (repeat' (first|refine tuU ?_|split<;>rename_i hh<;>try simp only[wS] at hh)<;>conv=>whnf)
  all_goals try(show _=_;simp only[wQ])
  ·rw[hk (hz (by assumption)) (by assumption)]
  ·have:=hz (by assumption)
   (conv=>whnf)
   refine⟨(i+1:Nat),[],?_,⟨⟨rfl,(nB rfl),rfl⟩,?_,?_⟩⟩
   ·refine⟨⟨show i+1≤10 by omega,fun k k1 k2=>?_⟩,show 10 - (i+1)<10 - i by omega⟩
    have k2:k≤(i:Int)+1:=k2;by_cases he:k=(i:Int)+1
    ·subst he;assumption
    ·exact h2 k k1 (by omega)
   ·exact Ac _
   ·exact tL
  ·rw[hn (by assumption)]
open Classical in
@[irreducible] def eqC(a b:List Coupon):Bool:=decide (a=b)
open Classical in
@[irreducible] def eqT(a b:List Tax):Bool:=decide (a=b)
theorem iR{a b:List Coupon}:eqC a b=true↔a=b:=by unfold eqC;simp
theorem iV{a b:List Tax}:eqT a b=true↔a=b:=by unfold eqT;simp
theorem Aqx{a b:List Coupon}(h:a≠b):false=eqC a b:=by
 cases hs:eqC a b with
 |false=>rfl
 |true=>exact absurd (iR.1 hs) h
theorem Aqy{a b:List Tax}(h:a≠b):false=eqT a b:=by
 cases hs:eqT a b with
 |false=>rfl
 |true=>exact absurd (iV.1 hs) h
def LEq{α:Type}[Inhabited α](z:Nat)(enc:α→List AV)(l m:List α):LoopSpec:={
 α:=Nat
 keep:=[0,1,12,13]
 vals i:=[slE z enc l,slE z enc m,.int .i64 l.length,.int .i64 i]
 heap _:=[]
 ok i:=i≤l.length∧∀ j,j<i→l.getD j default=m.getD j default
 μ i:=l.length - i }
def Aze:PC:=PC.of (fun x:List Coupon × List Coupon=>[slE 6 Coupon.enc x.1,slE 6 Coupon.enc x.2]) (fun _=>True) (fun x=>.bool (sB (eqC x.1 x.2)))
def Azf:PC:=PC.of (fun x:List Tax × List Tax=>[slE 2 Tax.enc x.1,slE 2 Tax.enc x.2]) (fun _=>True) (fun x=>.bool (sB (eqT x.1 x.2)))
def H6:List Coupon × List Coupon→Nat→Option LR:=fun x i=>cond (Nat.beq i 4) (some (.inv (LEq 6 Coupon.enc x.1 x.2))) (none)
theorem H7{W:World}(hW:Tabs W):GoodP (Fw W) Tryz.prog 214 Aze:=by
 have hD:=Hc hW;have hC0:∀ x:List Coupon × List Coupon,Ad (Fw W) Tryz.prog Fh:=fun x=>(Jx hW);refine As (D:=Eg) (C:=fun x=>Fh) (wr:=(fun _=>false)) rfl Ao hD hC0 Tryz.func214 (H6) (fun _=>rfl) ?_;rintro⟨a,b⟩ hf hp;clear hf;have kc:∀ c:Coupon,cEq c c=true:=fun c=>Zs.2 rfl
 (conv=>whnf)
 (repeat' (first|split<;>rename_i hh<;>try simp only[wS] at hh|with_reducible refine lnI fun hln=>?_)<;>conv=>whnf)
 all_goals try(show _=_;simp only[wQ])
 ·refine Aqx fun h=>?_;subst h;simp_all
 refine⟨?_,fun(i:Nat) hi=>?_⟩
 ·(conv=>whnf)
  refine⟨(0:Nat),[],?_,⟨⟨rfl,(nB rfl),rfl⟩,?_,?_⟩⟩
  ·exact⟨Nat.zero_le _,fun j hj=>absurd hj (Nat.not_lt_zero _)⟩
  ·exact Ac _
  ·exact tL
 ·obtain⟨h1,m1⟩:=hi;have h1:i≤a.length:=h1
  (conv=>whnf)
  (repeat' (first|(refine Aey ?_)|refine tuU ?_|split<;>rename_i hh<;>try simp only[wS] at hh)<;>conv=>whnf)
  all_goals try(show _=_;simp only[wQ])
  ·refine Aqx fun h=>?_;subst h;rw[kc _] at hh;cases hh
  ·(conv=>whnf)
   refine⟨(i+1:Nat),[],?_,⟨⟨rfl,(nB rfl),rfl⟩,?_,?_⟩⟩
   ·refine⟨⟨show i+1≤a.length by omega,fun j hj=>?_⟩,show a.length - (i+1)<a.length - i by omega⟩
    have hj:j<i+1:=hj;by_cases he:j=i
    ·subst he;exact Zs.1 hh
    ·exact m1 j (by omega)
   ·exact Ac _
   ·exact tL
  ·dsimp only at*;exact(iR.2 (Jr (by omega) fun j hj=>m1 j (by omega))).symm
def Lg:List Tax × List Tax→Nat→Option LR:=fun x i=>cond (Nat.beq i 4) (some (.inv (LEq 2 Tax.enc x.1 x.2))) (none)
theorem Lh{W:World}(hW:Tabs W):GoodP (Fw W) Tryz.prog 215 Azf:=by
 have hD:=Hc hW;have hC0:∀ x:List Tax × List Tax,Ad (Fw W) Tryz.prog Fh:=fun x=>(Jx hW);refine As (D:=Eg) (C:=fun x=>Fh) (wr:=(fun _=>false)) rfl Ao hD hC0 Tryz.func215 (Lg) (fun _=>rfl) ?_;rintro⟨a,b⟩ hf hp;clear hf;have kc:∀ c:Tax,xEq c c=true:=fun c=>Zt.2 rfl
 (conv=>whnf)
 (repeat' (first|split<;>rename_i hh<;>try simp only[wS] at hh|with_reducible refine lnI fun hln=>?_)<;>conv=>whnf)
 all_goals try(show _=_;simp only[wQ])
 ·refine Aqy fun h=>?_;subst h;simp_all
 refine⟨?_,fun(i:Nat) hi=>?_⟩
 ·(conv=>whnf)
  refine⟨(0:Nat),[],?_,⟨⟨rfl,(nB rfl),rfl⟩,?_,?_⟩⟩
  ·exact⟨Nat.zero_le _,fun j hj=>absurd hj (Nat.not_lt_zero _)⟩
  ·exact Ac _
  ·exact tL
 ·obtain⟨h1,m1⟩:=hi;have h1:i≤a.length:=h1
  (conv=>whnf)
  (repeat' (first|(refine Aez ?_)|refine tuU ?_|split<;>rename_i hh<;>try simp only[wS] at hh)<;>conv=>whnf)
  all_goals try(show _=_;simp only[wQ])
  ·refine Aqy fun h=>?_;subst h;rw[kc _] at hh;cases hh
  ·(conv=>whnf)
   refine⟨(i+1:Nat),[],?_,⟨⟨rfl,(nB rfl),rfl⟩,?_,?_⟩⟩
   ·refine⟨⟨show i+1≤a.length by omega,fun j hj=>?_⟩,show a.length - (i+1)<a.length - i by omega⟩
    have hj:j<i+1:=hj;by_cases he:j=i
    ·subst he;exact Zt.1 hh
    ·exact m1 j (by omega)
   ·exact Ac _
   ·exact tL
  ·dsimp only at*;exact(iV.2 (Jr (by omega) fun j hj=>m1 j (by omega))).symm
def Hd:PT:=Cg [(214,Aze),(215,Azf)]
theorem On{W:World}(hW:Tabs W):Cb (Fw W) Tryz.prog Hd:=(Ab Tryz.call214 (H7 hW) (Ab Tryz.call215 (Lh hW) Aq))
def U3:FuncId→Option Ctr:=Av Hd []
theorem U4{W:World}(hW:Tabs W):Ad (Fw W) Tryz.prog U3:=(Ar (On hW))
def gR:List (FuncId × Ctr):=(213,inl TY U3 Hd (fun _=>false) (fun _ _ _=>none) Tryz.f213)::[]
def Ms:FuncId→Option Ctr:=Av Hd gR
theorem gV{W:World}(hW:Tabs W):Ad (Fw W) Tryz.prog Ms:=Ae Tryz.call213 (Ah rfl Ao (On hW) (U4 hW) Tryz.func213 (fun _ _ _=>none)) (U4 hW)
def lJ:Request × Request→Nat→Option LR:=fun cs i=>cond (Nat.beq i 2) (some (.order [0,1,3,4,2,5,6,7,8,9,10,11,12,13,14,15,16,17,18,19,20,21])) (none)
set_option maxHeartbeats 2000000 in
theorem Oo{W:World}(hW:Tabs W):GoodP (Fw W) Tryz.prog 142 Pu:=by
 have hD:=On hW;have hC0:∀ x:Request × Request,Ad (Fw W) Tryz.prog Ms:=fun x=>(gV hW);refine As (D:=Hd) (C:=fun x=>Ms) (wr:=(fun _=>false)) rfl Ao hD hC0 Tryz.func142 (lJ) (fun _=>rfl) ?_;rintro⟨a,b⟩ hf hp;clear hf
 (conv=>whnf)
 (repeat' (first|(with_reducible refine Ap ?_)|(refine cM ?_)|with_reducible refine iQ ?_ ?_|refine tuU ?_|split<;>rename_i hh<;>try simp only[wS] at hh)<;>conv=>whnf)
 all_goals try(show _=_;simp only[wQ])
 ·refine⟨(a.coupons,b.coupons),True.intro,?_,?_⟩
  ·exact Ac _
  (conv=>whnf)
  (repeat' (first|split<;>rename_i hh<;>try simp only[wS] at hh)<;>conv=>whnf)
  all_goals try(show _=_;simp only[wQ])
  ·refine⟨(a.taxes,b.taxes),True.intro,?_,?_⟩
   ·exact Ac _
   (conv=>whnf)
   all_goals try(show _=_;simp only[wQ])
   refine Bool.eq_iff_iff.2 ⟨fun h=>Bc.2 ?_,fun h=>?_⟩
   ·have h5:=iV.1 h;have h6:=iR.1 (by assumption)
    cases a;cases b;simp only at*;simp_all
   ·have:=Bc.1 h;subst this;exact iV.2 rfl
  ·refine Uy fun h=>?_;subst h;rw[iR.2 rfl] at hh;cases hh
 ·refine Uy fun h=>?_;subst h;simp at hh
end
end Go.Vc.Z
