/- Requests, the program's: names, kinds, which are the same. -/
import Derived.Test.YtpmpclbdnakniaaGreatDoorV17
set_option linter.all false
set_option linter.unusedVariables false
set_option linter.unusedSimpArgs false
namespace Go.Vc.Z
open Go Go.Vc Go.Proofs Go.RowKit Go.Pl Go.Lib
noncomputable section
set_option maxRecDepth 100000
attribute [local irreducible] inK Utf8.decode Utf8.encode Lib.itoa Pl.worth Pl.allDig
attribute [local irreducible] Lib.join
@[irreducible] def Ck(k:Int):List UInt8:=if 1≤k∧k≤10 then D2.getD (k - 1).toNat [] else []
def gY:PC:=PC.fun fun|[.int .i64 k]=>some (True,.str (sS (Ck k)))|_=>none
def Eg:PT:=C2 []
theorem G0{W:World}(hW:Tabs W):Cl (Fw W) Tryz.prog Eg:=As
def E9:FuncId→Option Ctr:=Aw Eg []
theorem I9{W:World}(hW:Tabs W):Ad (Fw W) Tryz.prog E9:=(Au (G0 hW))
def cW:List (FuncId × Ctr):=(164,inl TY E9 Eg (fun _=>false) (fun _ _ _=>none) Tryz.f164)::[]
def Lu:FuncId→Option Ctr:=Aw Eg cW
theorem cX{W:World}(hW:Tabs W):Ad (Fw W) Tryz.prog Lu:=Ae Tryz.call164 (Ag rfl Ap (G0 hW) (I9 hW) Tryz.func164 (fun _ _ _=>none)) (I9 hW)
theorem Ja{W:World}(hW:Tabs W):GoodP (Fw W) Tryz.prog 73 gY:=by
 have hD:=G0 hW
 have hC0:Ad (Fw W) Tryz.prog Lu:=(cX hW)
 refine Az (D:=Eg) (C:=Lu) (wr:=(fun _=>false)) rfl Ap hD hC0 Tryz.func73 (fun _ _=>none) ?_
 clear hC0 hD hW
 intro cs p r h hf hp
 split at h
 case h_2=>cases h
 rename_i k
 cases h
 try simp only[Ax,Bh,Am,Go.Vc.lo,Go.Vc.hi,and_true] at hf
 have hn:Ck k=if 1≤k∧k≤10 then D2.getD (k - 1).toNat [] else []:=by unfold Ck;rfl
 by_cases h:1≤k∧k≤10
 ·rcases kinds h with rfl|rfl|rfl|rfl|rfl|rfl|rfl|rfl|rfl|rfl
  all_goals (
   (conv=>whnf)
   (repeat' ((first
    |(with_reducible refine Ao ?_)
    |fail)<;>(conv=>whnf)))
   all_goals (try (show _=_;simp only[wQ]))
   )
  all_goals (rw[hn];rfl)
 ·rw[if_neg h] at hn
  (conv=>whnf)
  (repeat' ((first
   |(with_reducible refine Ao ?_)
   |(split<;>rename_i hh<;>(try simp only[wS] at hh))
   |fail)<;>(conv=>whnf)))
  all_goals (try (show _=_;simp only[wQ]))
  all_goals first|(rw[hn];done)|(exfalso;omega)
@[irreducible] def kindOf(s:List UInt8):Int:=if s=[105,115,115,117,101] then 1 else if s=[109,111,118,101] then 2 else if s=[118,111,105,100] then 3 else if s=[114,101,102,117,110,100] then 4 else if s=[101,120,99,104,97,110,103,101] then 5 else if s=[97,115,107] then 6 else if s=[114,101,116,117,114,110] then 7 else if s=[115,104,111,119] then 8 else if s=[102,105,110,100] then 9 else if s=[114,101,112,111,114,116] then 10 else 0
def Axf:PC:=PC.fun fun|[.str s]=>some (True,.int .i64 (sI (kindOf s)))|_=>none
theorem Ci{k:Int}(h:1≤k∧k≤10):Ck k=D2.getD (k - 1).toNat []:=by unfold Ck;rw[if_pos h]
theorem Ach{k:Int}(h: ¬(1≤k∧k≤10)):Ck k=[]:=by unfold Ck;rw[if_neg h]
theorem qM{k:Int}(h:1≤k∧k≤10):kindOf (Ck k)=k:=by
 rw[Ci h];unfold kindOf
 rcases kinds h with rfl|rfl|rfl|rfl|rfl|rfl|rfl|rfl|rfl|rfl<;>rfl
theorem Akq{s:List UInt8}(h:∀ k,1≤k→k≤10→Ck k≠s):kindOf s=0:=by
 have e:∀ k:Int,1≤k→k≤10→¬s=D2.getD (k - 1).toNat []:=fun k h1 h2 he=>h k h1 h2 (by rw[Ci ⟨h1,h2⟩,he])
 unfold kindOf
 rw[if_neg (show¬s=[105,115,115,117,101] from e 1 (by decide) (by decide)),if_neg (show¬s=[109,111,118,101] from e 2 (by decide) (by decide)),if_neg (show¬s=[118,111,105,100] from e 3 (by decide) (by decide)),if_neg (show¬s=[114,101,102,117,110,100] from e 4 (by decide) (by decide)),if_neg (show¬s=[101,120,99,104,97,110,103,101] from e 5 (by decide) (by decide)),if_neg (show¬s=[97,115,107] from e 6 (by decide) (by decide)),if_neg (show¬s=[114,101,116,117,114,110] from e 7 (by decide) (by decide)),if_neg (show¬s=[115,104,111,119] from e 8 (by decide) (by decide)),if_neg (show¬s=[102,105,110,100] from e 9 (by decide) (by decide)),if_neg (show¬s=[114,101,112,111,114,116] from e 10 (by decide) (by decide))]
def A13(s:List UInt8):LoopSpec:={
 α:=Nat
 keep:=[0,3]
 vals i:=[.str s,.int .i64 (i+1)]
 heap _:=[]
 ok i:=i≤10∧∀ k:Int,1≤k→k≤i→Ck k≠s
 μ i:=10 - i }
def O8:PT:=C2 [(73,gY)]
theorem Vo{W:World}(hW:Tabs W):Cl (Fw W) Tryz.prog O8:=(Ab Tryz.call73 (Ja hW) As)
def O9:FuncId→Option Ctr:=Aw O8 []
theorem oJ{W:World}(hW:Tabs W):Ad (Fw W) Tryz.prog O9:=(Au (Vo hW))
def oK:List AV→Nat→Option LR:=fun cs i=>match cs with|[.str s]=>cond (Nat.beq i 2) (some (.inv (A13 s))) (none)|_=>none
theorem oL{W:World}(hW:Tabs W):GoodP (Fw W) Tryz.prog 79 Axf:=by
 have hD:=Vo hW
 have hC0:Ad (Fw W) Tryz.prog O9:=(oJ hW)
 refine Az (D:=O8) (C:=O9) (wr:=(fun _=>false)) rfl Ap hD hC0 Tryz.func79 (oK) ?_
 clear hC0 hD hW
 intro cs p r h hf hp
 split at h
 case h_2=>cases h
 rename_i s
 cases h
 try simp only[Ax,Bh,Am,Go.Vc.lo,Go.Vc.hi,and_true] at hf
 (conv=>whnf)
 refine⟨?_,fun(i:Nat) hi=>?_⟩
 ·(conv=>whnf)
  refine⟨(0:Nat),[],?_,⟨⟨rfl,(nB rfl),rfl⟩,?_,?_⟩⟩
  ·exact⟨Nat.zero_le _,fun k h1 h2=>absurd h2 (by have:k≤0:=h2;omega)⟩
  ·exact Ac _
  ·exact tL
 ·obtain⟨h1,h2⟩:=hi
  have h1:i≤10:=h1
  have hz: ¬Ck ((i:Int)+1)=[]→i<10:=fun h=>by
   refine Decidable.of_not_not fun hn=>h (Ach (by omega))
  have hk:i<10→Ck ((i:Int)+1)=s→kindOf s=(i:Int)+1:=fun hi h=>by rw[←h];exact qM (by omega)
  have hn:Ck ((i:Int)+1)=[]→kindOf s=0:=fun h=>by
   refine Akq fun k k1 k2=>h2 k k1 ?_
   have: ¬i<10:=fun hi=>by
    rw[Ci (by omega)] at h
    rcases(by omega:i=0∨i=1∨i=2∨i=3∨i=4∨i=5∨i=6∨i=7∨i=8∨i=9) with rfl|rfl|rfl|rfl|rfl|rfl|rfl|rfl|rfl|rfl<;>exact absurd h (by decide)
   omega
  (conv=>whnf)
  (repeat' ((first
   |((with_reducible refine aI ?_ ?_);focus (first|with_reducible exact⟨⟩|with_reducible rfl|exact tK))
   |(split<;>rename_i hh<;>(try simp only[wS] at hh))
   |fail)<;>(conv=>whnf)))
  all_goals (try (show _=_;simp only[wQ]))
  ·rw[hk (hz (by assumption)) (by assumption)]
  ·have:=hz (by assumption)
   (conv=>whnf)
   refine⟨(i+1:Nat),[],?_,⟨⟨rfl,(nB rfl),rfl⟩,?_,?_⟩⟩
   ·refine⟨⟨show i+1≤10 by omega,fun k k1 k2=>?_⟩,show 10 - (i+1)<10 - i by omega⟩
    have k2:k≤(i:Int)+1:=k2
    by_cases he:k=(i:Int)+1
    ·subst he;assumption
    ·exact h2 k k1 (by omega)
   ·exact Ac _
   ·exact tL
  ·rw[hn (by assumption)]
open Classical in
@[irreducible] def eqC(a b:List Coupon):Bool:=decide (a=b)
open Classical in
@[irreducible] def eqT(a b:List Tax):Bool:=decide (a=b)
theorem dP{a b:List Coupon}:eqC a b=true↔a=b:=by unfold eqC;simp
theorem dQ{a b:List Tax}:eqT a b=true↔a=b:=by unfold eqT;simp
theorem Anz{a b:List Coupon}(h:a≠b):false=eqC a b:=by
 cases hs:eqC a b with
 |false=>rfl
 |true=>exact absurd (dP.1 hs) h
theorem An0{a b:List Tax}(h:a≠b):false=eqT a b:=by
 cases hs:eqT a b with
 |false=>rfl
 |true=>exact absurd (dQ.1 hs) h
def LEq{α:Type}[Inhabited α](z:Nat)(enc:α→List AV)(l m:List α):LoopSpec:={
 α:=Nat
 keep:=[0,1,12,13]
 vals i:=[slE z enc l,slE z enc m,.int .i64 l.length,.int .i64 i]
 heap _:=[]
 ok i:=i≤l.length∧∀ j,j<i→l.getD j default=m.getD j default
 μ i:=l.length - i }
def Avz:PC:=PC.of (fun x:List Coupon × List Coupon=>[slE 6 Coupon.enc x.1,slE 6 Coupon.enc x.2]) (fun _=>True) (fun x=>.bool (sB (eqC x.1 x.2)))
def Av0:PC:=PC.of (fun x:List Tax × List Tax=>[slE 2 Tax.enc x.1,slE 2 Tax.enc x.2]) (fun _=>True) (fun x=>.bool (sB (eqT x.1 x.2)))
def Hl:List Coupon × List Coupon→Nat→Option LR:=fun x i=>cond (Nat.beq i 4) (some (.inv (LEq 6 Coupon.enc x.1 x.2))) (none)
theorem Hm{W:World}(hW:Tabs W):GoodP (Fw W) Tryz.prog 214 Avz:=by
 have hD:=G0 hW
 have hC0:∀ x:List Coupon × List Coupon,Ad (Fw W) Tryz.prog E9:=fun x=>(I9 hW)
 refine Ar (D:=Eg) (C:=fun x=>E9) (wr:=(fun _=>false)) rfl Ap hD hC0 Tryz.func214 (Hl) (fun _=>rfl) ?_
 rintro⟨a,b⟩ hf hp
 clear hf
 have kc:∀ c:Coupon,cEq c c=true:=fun c=>Xo.2 rfl
 (conv=>whnf)
 (repeat' ((first
  |(split<;>rename_i hh<;>(try simp only[wS] at hh))
  |with_reducible refine lnI fun hln=>?_
  |fail)<;>(conv=>whnf)))
 all_goals (try (show _=_;simp only[wQ]))
 ·refine Anz fun h=>?_;subst h;simp_all
 refine⟨?_,fun(i:Nat) hi=>?_⟩
 ·(conv=>whnf)
  refine⟨(0:Nat),[],?_,⟨⟨rfl,(nB rfl),rfl⟩,?_,?_⟩⟩
  ·exact⟨Nat.zero_le _,fun j hj=>absurd hj (Nat.not_lt_zero _)⟩
  ·exact Ac _
  ·exact tL
 ·obtain⟨h1,m1⟩:=hi
  have h1:i≤a.length:=h1
  (conv=>whnf)
  (repeat' ((first
   |(refine Abx ?_)
   |((with_reducible refine aI ?_ ?_);focus (first|exact tO|((with_reducible refine⟨?_,?_⟩)<;>first|with_reducible assumption|omega)|exact tK|(dsimp only at*;simp only[Am,Go.Vc.lo,Go.Vc.hi];omega)))
   |(split<;>rename_i hh<;>(try simp only[wS] at hh))
   |fail)<;>(conv=>whnf)))
  all_goals (try (show _=_;simp only[wQ]))
  ·refine Anz fun h=>?_;subst h;rw[kc _] at hh;cases hh
  ·(conv=>whnf)
   refine⟨(i+1:Nat),[],?_,⟨⟨rfl,(nB rfl),rfl⟩,?_,?_⟩⟩
   ·refine⟨⟨show i+1≤a.length by omega,fun j hj=>?_⟩,show a.length - (i+1)<a.length - i by omega⟩
    have hj:j<i+1:=hj
    by_cases he:j=i
    ·subst he;exact Xo.1 hh
    ·exact m1 j (by omega)
   ·exact Ac _
   ·exact tL
  ·dsimp only at*
   exact(dP.2 (I0 (by omega) fun j hj=>m1 j (by omega))).symm
def Kt:List Tax × List Tax→Nat→Option LR:=fun x i=>cond (Nat.beq i 4) (some (.inv (LEq 2 Tax.enc x.1 x.2))) (none)
theorem Ku{W:World}(hW:Tabs W):GoodP (Fw W) Tryz.prog 215 Av0:=by
 have hD:=G0 hW
 have hC0:∀ x:List Tax × List Tax,Ad (Fw W) Tryz.prog E9:=fun x=>(I9 hW)
 refine Ar (D:=Eg) (C:=fun x=>E9) (wr:=(fun _=>false)) rfl Ap hD hC0 Tryz.func215 (Kt) (fun _=>rfl) ?_
 rintro⟨a,b⟩ hf hp
 clear hf
 have kc:∀ c:Tax,xEq c c=true:=fun c=>Xp.2 rfl
 (conv=>whnf)
 (repeat' ((first
  |(split<;>rename_i hh<;>(try simp only[wS] at hh))
  |with_reducible refine lnI fun hln=>?_
  |fail)<;>(conv=>whnf)))
 all_goals (try (show _=_;simp only[wQ]))
 ·refine An0 fun h=>?_;subst h;simp_all
 refine⟨?_,fun(i:Nat) hi=>?_⟩
 ·(conv=>whnf)
  refine⟨(0:Nat),[],?_,⟨⟨rfl,(nB rfl),rfl⟩,?_,?_⟩⟩
  ·exact⟨Nat.zero_le _,fun j hj=>absurd hj (Nat.not_lt_zero _)⟩
  ·exact Ac _
  ·exact tL
 ·obtain⟨h1,m1⟩:=hi
  have h1:i≤a.length:=h1
  (conv=>whnf)
  (repeat' ((first
   |(refine Aby ?_)
   |((with_reducible refine aI ?_ ?_);focus (first|exact tO|((with_reducible refine⟨?_,?_⟩)<;>first|with_reducible assumption|omega)|exact tK|(dsimp only at*;simp only[Am,Go.Vc.lo,Go.Vc.hi];omega)))
   |(split<;>rename_i hh<;>(try simp only[wS] at hh))
   |fail)<;>(conv=>whnf)))
  all_goals (try (show _=_;simp only[wQ]))
  ·refine An0 fun h=>?_;subst h;rw[kc _] at hh;cases hh
  ·(conv=>whnf)
   refine⟨(i+1:Nat),[],?_,⟨⟨rfl,(nB rfl),rfl⟩,?_,?_⟩⟩
   ·refine⟨⟨show i+1≤a.length by omega,fun j hj=>?_⟩,show a.length - (i+1)<a.length - i by omega⟩
    have hj:j<i+1:=hj
    by_cases he:j=i
    ·subst he;exact Xp.1 hh
    ·exact m1 j (by omega)
   ·exact Ac _
   ·exact tL
  ·dsimp only at*
   exact(dQ.2 (I0 (by omega) fun j hj=>m1 j (by omega))).symm
def G1:PT:=C2 [(214,Avz),(215,Av0)]
theorem Nh{W:World}(hW:Tabs W):Cl (Fw W) Tryz.prog G1:=(Ab Tryz.call214 (Hm hW) (Ab Tryz.call215 (Ku hW) As))
def Te:FuncId→Option Ctr:=Aw G1 []
theorem Tf{W:World}(hW:Tabs W):Ad (Fw W) Tryz.prog Te:=(Au (Nh hW))
def cY:List (FuncId × Ctr):=(213,inl TY Te G1 (fun _=>false) (fun _ _ _=>none) Tryz.f213)::[]
def Lv:FuncId→Option Ctr:=Aw G1 cY
theorem cZ{W:World}(hW:Tabs W):Ad (Fw W) Tryz.prog Lv:=Ae Tryz.call213 (Ag rfl Ap (Nh hW) (Tf hW) Tryz.func213 (fun _ _ _=>none)) (Tf hW)
def gZ:Request × Request→Nat→Option LR:=fun cs i=>cond (Nat.beq i 2) (some (.order [0,1,3,4,2,5,6,7,8,9,10,11,12,13,14,15,16,17,18,19,20,21])) (none)
set_option maxHeartbeats 2000000 in
theorem Ni{W:World}(hW:Tabs W):GoodP (Fw W) Tryz.prog 142 Oi:=by
 have hD:=Nh hW
 have hC0:∀ x:Request × Request,Ad (Fw W) Tryz.prog Lv:=fun x=>(cZ hW)
 refine Ar (D:=G1) (C:=fun x=>Lv) (wr:=(fun _=>false)) rfl Ap hD hC0 Tryz.func142 (gZ) (fun _=>rfl) ?_
 rintro⟨a,b⟩ hf hp
 clear hf
 (conv=>whnf)
 (repeat' ((first
  |(with_reducible refine Ao ?_)
  |(refine Z2 ?_)
  |with_reducible refine iQ ?_ ?_
  |((with_reducible refine aI ?_ ?_);focus (((with_reducible show okQ _ _=true);rfl)))
  |(split<;>rename_i hh<;>(try simp only[wS] at hh))
  |fail)<;>(conv=>whnf)))
 all_goals (try (show _=_;simp only[wQ]))
 ·refine⟨(a.coupons,b.coupons),True.intro,?_,?_⟩
  ·exact Ac _
  (conv=>whnf)
  (repeat' ((first
   |(split<;>rename_i hh<;>(try simp only[wS] at hh))
   |fail)<;>(conv=>whnf)))
  all_goals (try (show _=_;simp only[wQ]))
  ·refine⟨(a.taxes,b.taxes),True.intro,?_,?_⟩
   ·exact Ac _
   (conv=>whnf)
   all_goals (try (show _=_;simp only[wQ]))
   refine Bool.eq_iff_iff.2 ⟨fun h=>Bb.2 ?_,fun h=>?_⟩
   ·have h5:=dQ.1 h
    have h6:=dP.1 (by assumption)
    cases a;cases b;simp only at*;simp_all
   ·have:=Bb.1 h;subst this;exact dQ.2 rfl
  ·refine Ta fun h=>?_;subst h;rw[dP.2 rfl] at hh;cases hh
 ·refine Ta fun h=>?_;subst h;simp at hh
end
end Go.Vc.Z
