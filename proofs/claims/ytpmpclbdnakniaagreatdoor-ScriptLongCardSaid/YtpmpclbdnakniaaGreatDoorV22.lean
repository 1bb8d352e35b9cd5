/- script.RequestLine: the line of a request, the program's. -/
import Derived.Test.YtpmpclbdnakniaaGreatDoorV21
import Derived.Test.YtpmpclbdnakniaaGreatDoorV16
set_option linter.all false
set_option linter.unusedVariables false
set_option linter.unusedSimpArgs false
namespace Go.Vc.Z
open Go Go.Vc Go.Proofs Go.RowKit Go.Pl Go.Lib
noncomputable section
set_option maxRecDepth 100000
attribute [local irreducible] inK Utf8.decode Utf8.encode Lib.itoa Pl.worth Pl.allDig
attribute [local irreducible] Lib.join
theorem pL{l:List Coupon}{r:List AV}(h:Bl (slE 6 Coupon.enc l::r)):∀ s ∈ l.map B0,s.length≤200:=by
 intro s hs
 obtain⟨c,hc,rfl⟩:=List.mem_map.1 hs
 exact Va (l:=l) (by simp only[Bl] at h ⊢;exact⟨h.1,trivial⟩) c hc
def Afx(l:List Coupon):LoopSpec:={
 α:=Nat × List (List UInt8)
 keep:=[1,5,8,9,10]
 vals x:=[.fn 129 [],An2 0 x.2,slE 6 Coupon.enc l,.int .i64 l.length,.int .i64 x.1]
 heap x:=[An1 x.2]
 ok x:=x.1≤l.length∧x.2=(l.take x.1).map B0
 μ x:=l.length - x.1 }
def lM:PC:=PC.of (fun l:List Coupon=>[slE 6 Coupon.enc l,.fn 129 []]) (fun l=>0<l.length∧l.length≤1000000) (fun l=>.str (sS (Lib.join (l.map B0) [44])))
def Uk:PT:=D1 [(62,Nf),(129,T7)]
theorem lO{W:World}(hW:Tabs W):Dj (Fw W) Tryz.prog Uk:=(Ae Tryz.call62 (Jx hW) (Ae Tryz.call129 (N2 hW) A6))
def Ul:FuncId→Option Ctr:=Av Uk []
theorem Ac2{W:World}(hW:Tabs W):Ad (Fw W) Tryz.prog Ul:=(A7 (lO hW))
def Ac3:List Coupon→Nat→Option LR:=fun l i=>cond (Nat.beq i 3) (some (.inv (Afx l))) (none)
set_option maxHeartbeats 2000000 in
theorem Ac4{W:World}(hW:Tabs W):GoodP (Fw W) Tryz.prog 56 lM:=by
 have hD:=lO hW
 have hC0:∀ l:List Coupon,Ad (Fw W) Tryz.prog Ul:=fun l=>(Ac2 hW)
 refine Ax (D:=Uk) (C:=fun l=>Ul) (wr:=(fun _=>false)) rfl Aq hD hC0 Tryz.func56 (Ac3) (fun _=>rfl) ?_
 intro l hf hp
 obtain⟨hp0,hp1⟩:=hp
 have hw:∀ s ∈ l.map B0,s.length≤200:=(pL hf)
 clear hf
 (conv=>whnf)
 (repeat' ((first
  |with_reducible refine lnI fun hln=>?_
  |fail)<;>(conv=>whnf)))
 refine⟨?_,fun(x:Nat × List (List UInt8)) hx=>?_⟩
 ·(conv=>whnf)
  refine⟨((0,[]):Nat × List (List UInt8)),[],?_,⟨⟨rfl,(nB rfl),rfl⟩,?_,?_⟩⟩
  ·exact⟨Nat.zero_le _,rfl⟩
  ·exact Aj _
  ·exact tL
 ·obtain⟨i,L⟩:=x
  obtain⟨h1,h2⟩:=hx
  change i≤l.length at h1
  change L=(l.take i).map B0 at h2
  have hlen:L.length=i:=by rw[h2];simp;omega
  have hstep:i<l.length→L++[B0 (l.getD (Int.toNat (i:Int)) default)]=(l.take (i+1)).map B0:=fun h=>by
   rw[h2,List.take_add_one,List.map_append,List.getElem?_eq_getElem h]
   have:l.getD (Int.toNat (i:Int)) default=l[i]:=by
    rw[show Int.toNat (i:Int)=i from rfl,List.getD_eq_getElem?_getD,List.getElem?_eq_getElem h];rfl
   rw[this];rfl
  rcases L with _|⟨s,L⟩
  ·have hi:i=0:=by simpa using hlen.symm
   subst hi
   (conv=>whnf)
   (repeat' ((first
    |((with_reducible refine aI ?_ ?_);focus (first|with_reducible exact⟨⟩|omega|exact tK|(simp only[Ag,ty2,ty3,ty4,ty5,ty9,Cn,Ch,Co,Ci,Cl,Cp,Cq,Cr,Bf,Bc,Bg,Bd,Bh,Bi,Bj];first|omega|(refine⟨?_,?_⟩<;>omega))))
    |(split<;>rename_i hh<;>(try simp only[wS] at hh))
    |fail)<;>(conv=>whnf)))
   ·(conv=>whnf)
    refine⟨((1,[B0 (l.getD (Int.toNat ((0:Nat):Int)) default)]):Nat × List (List UInt8)),[3],?_,⟨⟨rfl,(nB rfl),rfl⟩,?_,?_⟩⟩
    ·exact⟨⟨show 1≤l.length by omega,hstep (by omega)⟩,show l.length - 1<l.length - 0 by omega⟩
    ·exact tL
    ·(conv=>whnf)
     (repeat' ((first|with_reducible exact⟨⟩|((with_reducible refine aI ?_ ?_);focus (exact tA))|with_reducible refine iB ?_ ?_|fail)<;>(conv=>whnf)))
     all_goals (try simp only[wQ])
     intro e he
     have he:e<1:=he
     obtain rfl:e=0:=by omega
     exact⟨rfl,rfl⟩
   ·exfalso;omega
  ·have hlen2:L.length+1=i:=hlen
   (conv=>whnf)
   (repeat' ((first
    |((with_reducible refine aI ?_ ?_);focus (first|with_reducible exact⟨⟩|((with_reducible refine⟨?_,?_,?_⟩)<;>first|(intro e he;rcases(by omega:e=0∨e=1∨e=2∨e=3∨e=4∨e=5) with rfl|rfl|rfl|rfl|rfl|rfl<;>first|rfl|(exfalso;omega))|(with_reducible assumption)|omega|((with_reducible show Ag _ _);simp only[Ag,ty2,ty3,ty4,ty5,ty9,Cn,Ch,Co,Ci,Cl,Cp,Cq,Cr,Bf,Bc,Bg,Bd,Bh,Bi,Bj,List.length_cons,List.length_nil];first|omega|(refine⟨?_,?_⟩<;>omega)))|omega|exact tK))
    |(split<;>rename_i hh<;>(try simp only[wS] at hh))
    |fail)<;>(conv=>whnf)))
   ·(conv=>whnf)
    refine⟨((i+1,s::L++[B0 (l.getD (Int.toNat (i:Int)) default)]):Nat × List (List UInt8)),[3],?_,⟨⟨rfl,(nB rfl),rfl⟩,?_,?_⟩⟩
    ·exact⟨⟨show i+1≤l.length by omega,hstep (by omega)⟩,show l.length - (i+1)<l.length - i by omega⟩
    ·exact tL
    ·(conv=>whnf)
     (repeat' ((first|with_reducible exact⟨⟩|((with_reducible refine aI ?_ ?_);focus (exact tA))|with_reducible refine iB ?_ ?_|fail)<;>(conv=>whnf)))
     all_goals (try simp only[wQ])
     exact⟨by simp,fun e he=>⟨R8 (l:=s::L) rfl (fun _ _=>rfl) rfl (by simpa using he),rfl⟩⟩
   ·have hi:i=l.length:=by omega
    rw[hi,List.take_length] at h2
    refine⟨⟨by omega,fun e he=>rfl⟩,?_⟩
    refine⟨((s::L,[44]):List (List UInt8) × List UInt8),⟨by have:=Ng [44] 200 (s::L) (by rw[h2];exact hw);simp at this;show(Lib.join (s::L) [44]).length≤_;omega,by show(s::L).length≤_;simp;omega⟩,?_,?_⟩
    ·exact tL
    (conv=>whnf)
    all_goals (try (show _=_;simp only[wQ]))
    rw[h2]
theorem Zq{l:List Tax}(h:Dv l=true):l.length≤4:=by
 unfold Dv at h;simp only[Bool.and_eq_true,decide_eq_true_eq] at h;exact h.2
theorem Ao{l:List UInt8}(i:Nat)(h:i<l.length)(hb:(l.getD i 0).toNat<128):Bb l i=((l.getD i 0).toNat:Int)∧Ai l i=1:=by
 rcases D6 h with ⟨h6,h7,h8⟩|⟨h6,h7⟩
 ·exact⟨h6,h7⟩
 ·omega
def P4:PC:=PC.of (fun r:Request=>[.agg r.enc]) E1 (fun r=>.str (sS (Bq r)))
def Ba:PT:=D1 [(46,Iw),(54,zV),(56,lM),(58,sA),(61,rR),(62,Nf),(71,Zp),(73,Yv),(129,T7),(132,pG)]
theorem C7{W:World}(hW:Tabs W):Dj (Fw W) Tryz.prog Ba:=(Ae Tryz.call46 (Ei hW) (Ae Tryz.call54 (cX hW) (Ae Tryz.call56 (Ac4 hW) (Ae Tryz.call58 (Yf hW) (Ae Tryz.call61 (We hW) (Ae Tryz.call62 (Jx hW) (Ae Tryz.call71 (Si hW) (Ae Tryz.call73 (Hj hW) (Ae Tryz.call129 (N2 hW) (Ae Tryz.call132 (zZ hW) A6))))))))))
def lP:FuncId→Option Ctr:=Av Ba []
theorem lU{W:World}(hW:Tabs W):Ad (Fw W) Tryz.prog lP:=(A7 (C7 hW))
def Zr:List (FuncId × Ctr):=(74,inl TY lP Ba (fun _=>false) (fun _ _ _=>none) Tryz.f74)::[]
def Zs:FuncId→Option Ctr:=Av Ba Zr
theorem Zt{W:World}(hW:Tabs W):Ad (Fw W) Tryz.prog Zs:=Ab Tryz.call74 (Af rfl Aq (C7 hW) (lU hW) Tryz.func74 (fun _ _ _=>none)) (lU hW)
def Zu:List (FuncId × Ctr):=(144,inl TY Zs Ba (fun _=>false) (fun _ _ _=>none) Tryz.f144)::Zr
def Zv:FuncId→Option Ctr:=Av Ba Zu
theorem Zw{W:World}(hW:Tabs W):Ad (Fw W) Tryz.prog Zv:=Ab Tryz.call144 (Af rfl Aq (C7 hW) (Zt hW) Tryz.func144 (fun _ _ _=>none)) (Zt hW)
def Zx:List (FuncId × Ctr):=(145,inl TY Zv Ba (fun _=>false) (fun _ _ _=>none) Tryz.f145)::Zu
def Zy:FuncId→Option Ctr:=Av Ba Zx
theorem Zz{W:World}(hW:Tabs W):Ad (Fw W) Tryz.prog Zy:=Ab Tryz.call145 (Af rfl Aq (C7 hW) (Zw hW) Tryz.func145 (fun _ _ _=>none)) (Zw hW)
def Z0:List (FuncId × Ctr):=(147,inl TY Zy Ba (fun _=>false) (fun _ _ _=>none) Tryz.f147)::Zx
def Z1:FuncId→Option Ctr:=Av Ba Z0
theorem Z2{W:World}(hW:Tabs W):Ad (Fw W) Tryz.prog Z1:=Ab Tryz.call147 (Af rfl Aq (C7 hW) (Zz hW) Tryz.func147 (fun _ _ _=>none)) (Zz hW)
def Z3:List (FuncId × Ctr):=(148,inl TY Z1 Ba (fun _=>false) (fun _ _ _=>none) Tryz.f148)::Z0
def Z4:FuncId→Option Ctr:=Av Ba Z3
theorem Z5{W:World}(hW:Tabs W):Ad (Fw W) Tryz.prog Z4:=Ab Tryz.call148 (Af rfl Aq (C7 hW) (Z2 hW) Tryz.func148 (fun _ _ _=>none)) (Z2 hW)
def Z6:List (FuncId × Ctr):=(149,inl TY Z4 Ba (fun _=>false) (fun _ _ _=>none) Tryz.f149)::Z3
def Z7:FuncId→Option Ctr:=Av Ba Z6
theorem Z8{W:World}(hW:Tabs W):Ad (Fw W) Tryz.prog Z7:=Ab Tryz.call149 (Af rfl Aq (C7 hW) (Z5 hW) Tryz.func149 (fun _ _ _=>none)) (Z5 hW)
def Z9:List (FuncId × Ctr):=(150,inl TY Z7 Ba (fun _=>false) (fun _ _ _=>none) Tryz.f150)::Z6
def aA:FuncId→Option Ctr:=Av Ba Z9
theorem aB{W:World}(hW:Tabs W):Ad (Fw W) Tryz.prog aA:=Ab Tryz.call150 (Af rfl Aq (C7 hW) (Z8 hW) Tryz.func150 (fun _ _ _=>none)) (Z8 hW)
def aC:List (FuncId × Ctr):=(151,inl TY aA Ba (fun _=>false) (fun _ _ _=>none) Tryz.f151)::Z9
def aD:FuncId→Option Ctr:=Av Ba aC
theorem aE{W:World}(hW:Tabs W):Ad (Fw W) Tryz.prog aD:=Ab Tryz.call151 (Af rfl Aq (C7 hW) (aB hW) Tryz.func151 (fun _ _ _=>none)) (aB hW)
def aF:List (FuncId × Ctr):=(154,inl TY aD Ba (fun _=>false) (fun _ _ _=>none) Tryz.f154)::aC
def aG:FuncId→Option Ctr:=Av Ba aF
theorem aH{W:World}(hW:Tabs W):Ad (Fw W) Tryz.prog aG:=Ab Tryz.call154 (Af rfl Aq (C7 hW) (aE hW) Tryz.func154 (fun _ _ _=>none)) (aE hW)
def Vf:List (FuncId × Ctr):=(157,inl TY aG Ba (fun _=>false) (fun _ _ _=>none) Tryz.f157)::aF
def Vg:FuncId→Option Ctr:=Av Ba Vf
theorem Vh{W:World}(hW:Tabs W):Ad (Fw W) Tryz.prog Vg:=Ab Tryz.call157 (Af rfl Aq (C7 hW) (aH hW) Tryz.func157 (fun _ _ _=>none)) (aH hW)
def Vi:List (FuncId × Ctr):=(160,inl TY Vg Ba (fun _=>false) (fun _ _ _=>none) Tryz.f160)::Vf
def Vj:FuncId→Option Ctr:=Av Ba Vi
theorem Vk{W:World}(hW:Tabs W):Ad (Fw W) Tryz.prog Vj:=Ab Tryz.call160 (Af rfl Aq (C7 hW) (Vh hW) Tryz.func160 (fun _ _ _=>none)) (Vh hW)
def Vl:List (FuncId × Ctr):=(162,inl TY Vj Ba (fun _=>false) (fun _ _ _=>none) Tryz.f162)::Vi
def Vm:FuncId→Option Ctr:=Av Ba Vl
theorem Vn{W:World}(hW:Tabs W):Ad (Fw W) Tryz.prog Vm:=Ab Tryz.call162 (Af rfl Aq (C7 hW) (Vk hW) Tryz.func162 (fun _ _ _=>none)) (Vk hW)
def Vo:List (FuncId × Ctr):=(216,inl TY Vm Ba (fun _=>false) (fun _ _ _=>none) Tryz.f216)::Vl
def Vp:FuncId→Option Ctr:=Av Ba Vo
theorem Vq{W:World}(hW:Tabs W):Ad (Fw W) Tryz.prog Vp:=Ab Tryz.call216 (Af rfl Aq (C7 hW) (Vn hW) Tryz.func216 (fun _ _ _=>none)) (Vn hW)
def Vr:List (FuncId × Ctr):=(218,inl TY Vp Ba (fun _=>false) (fun _ _ _=>none) Tryz.f218)::Vo
def Vs:FuncId→Option Ctr:=Av Ba Vr
theorem Vt{W:World}(hW:Tabs W):Ad (Fw W) Tryz.prog Vs:=Ab Tryz.call218 (Af rfl Aq (C7 hW) (Vq hW) Tryz.func218 (fun _ _ _=>none)) (Vq hW)
def Vu:List (FuncId × Ctr):=(143,inl TY Vs Ba (fun _=>false) (fun _ _ _=>none) Tryz.f143)::Vr
def Vv:FuncId→Option Ctr:=Av Ba Vu
theorem Vw{W:World}(hW:Tabs W):Ad (Fw W) Tryz.prog Vv:=Ab Tryz.call143 (Af rfl Aq (C7 hW) (Vt hW) Tryz.func143 (fun _ _ _=>none)) (Vt hW)
def Vx:List (FuncId × Ctr):=(146,inl TY Vv Ba (fun _=>false) (fun _ _ _=>none) Tryz.f146)::Vu
def Vy:FuncId→Option Ctr:=Av Ba Vx
theorem Vz{W:World}(hW:Tabs W):Ad (Fw W) Tryz.prog Vy:=Ab Tryz.call146 (Af rfl Aq (C7 hW) (Vw hW) Tryz.func146 (fun _ _ _=>none)) (Vw hW)
def uZ:List (FuncId × Ctr):=(72,inl TY Vy Ba (fun _=>false) (fun _ _ _=>none) Tryz.f72)::Vx
def O4:FuncId→Option Ctr:=Av Ba uZ
theorem vA{W:World}(hW:Tabs W):Ad (Fw W) Tryz.prog O4:=Ab Tryz.call72 (Af rfl Aq (C7 hW) (Vz hW) Tryz.func72 (fun _ _ _=>none)) (Vz hW)
def Ac5:Request→Nat→Option LR:=fun r i=>cond (Nat.beq i 6) (some (.unroll 7)) (none)
set_option maxHeartbeats 4000000 in
theorem Um{W:World}(hW:Tabs W):GoodP (Fw W) Tryz.prog 24 P4:=by
 have hD:=C7 hW
 have hC0:∀ r:Request,Ad (Fw W) Tryz.prog O4:=fun r=>(vA hW)
 refine Ax (D:=Ba) (C:=fun r=>O4) (wr:=(fun _=>false)) rfl Aq hD hC0 Tryz.func24 (Ac5) (fun _=>rfl) ?_
 rintro⟨key,kind,day,ticket,coupon,status,locator,coupons,taxes,amount,frm,til⟩ hf hp
 by_cases hmay:Ah ⟨key,kind,day,ticket,coupon,status,locator,coupons,taxes,amount,frm,til⟩=true
 ·have hex: ¬Ah ⟨key,kind,day,ticket,coupon,status,locator,coupons,taxes,amount,frm,til⟩=false:=by rw[hmay];simp
  have hjl:=sR hmay hf
  have hW:Bq ⟨key,kind,day,ticket,coupon,status,locator,coupons,taxes,amount,frm,til⟩=Lib.join (Bn ⟨key,kind,day,ticket,coupon,status,locator,coupons,taxes,amount,frm,til⟩) [32]:=by unfold Bq;rw[if_pos hmay]
  simp only[Bl,Cm,Ar,Go.Vc.lo,Go.Vc.hi,and_true] at hf
  rcases Fh hmay with k|k|k|k|k|k|k|k|k|k
  all_goals (
   have k':kind=_:=k
   subst k'
   clear k)
  ·have hpar:=Ii (r:=⟨key,1,day,ticket,coupon,status,locator,coupons,taxes,amount,frm,til⟩) rfl
   have hfac:=Ih (r:=⟨key,1,day,ticket,coupon,status,locator,coupons,taxes,amount,frm,til⟩) rfl hmay
   dsimp only at hpar hfac
   obtain⟨r0,w0⟩:=Ao (l:=[75,68,76,67,88]) 0 (by decide) (by decide)
   obtain⟨r1,w1⟩:=Ao (l:=[75,68,76,67,88]) 1 (by decide) (by decide)
   obtain⟨r2,w2⟩:=Ao (l:=[75,68,76,67,88]) 2 (by decide) (by decide)
   obtain⟨r3,w3⟩:=Ao (l:=[75,68,76,67,88]) 3 (by decide) (by decide)
   obtain⟨r4,w4⟩:=Ao (l:=[75,68,76,67,88]) 4 (by decide) (by decide)
   have r5:=True.intro
   have w5:=True.intro
   have hn:Ce 1=Gx.getD (1 - 1) []:=Cc ⟨by decide,by decide⟩
   have hfl:Ct coupons=Lib.join (coupons.map B0) [44]:=by unfold Ct;rfl
   have hE:Bn ⟨key,1,day,ticket,coupon,status,locator,coupons,taxes,amount,frm,til⟩=[Ce 1,key,Lib.itoa day,locator,Lib.join (coupons.map B0) [44],B9 taxes]:=by rw[hpar,hn,hfl];rfl
   rw[hE] at hjl hW
   have hc1:0<coupons.length∧coupons.length≤1000000:=by have:=F4 hfac.2.2.2.1;omega
   have hx1:taxes.length≤1000000:=by have:=Zq hfac.2.2.2.2;omega
   (conv=>whnf)
   refine⟨(⟨key,1,day,ticket,coupon,status,locator,coupons,taxes,amount,frm,til⟩:Request),hp,?_,?_⟩
   ·exact Aj _
   (conv=>whnf)
   (repeat' ((first
    |(with_reducible refine Ac ?_)
    |(exact absurd (by with_reducible assumption) hex)
    |((with_reducible refine aI ?_ ?_);focus (first|with_reducible exact⟨⟩|((with_reducible refine⟨?_,?_,?_⟩)<;>first|(intro e he;rcases(by omega:e=0∨e=1∨e=2∨e=3∨e=4∨e=5) with rfl|rfl|rfl|rfl|rfl|rfl<;>first|rfl|(exfalso;omega))|(with_reducible assumption)|omega|((with_reducible show Ag _ _);simp only[Ag,ty2,ty3,ty4,ty5,ty9,Cn,Ch,Co,Ci,Cl,Cp,Cq,Cr,Bf,Bc,Bg,Bd,Bh,Bi,Bj,List.length_cons,List.length_nil];first|omega|(refine⟨?_,?_⟩<;>omega)))|omega|(simp only[Ag,ty2,ty3,ty4,ty5,ty9,Cn,Ch,Co,Ci,Cl,Cp,Cq,Cr,Bf,Bc,Bg,Bd,Bh,Bi,Bj];first|omega|(refine⟨?_,?_⟩<;>omega))))
    |(conv=>arg 2;(first|change eqI (Bb _ _) _|change decide (_+Ai _ _<_)|change ! (sB _));simp only[List.toList_toArray,A9,r0,r1,r2,r3,r4,r5,w0,w1,w2,w3,w4,w5,Nat.zero_add,Nat.reduceAdd,List.length_cons,List.length_nil])
    |(split<;>rename_i hh<;>(try simp only[wS] at hh))
    |fail)<;>(conv=>whnf)))
   refine⟨coupons,hc1,?_,?_⟩
   ·exact Aj _
   (conv=>whnf)
   (repeat' ((first
    |(with_reducible refine Ac ?_)
    |((with_reducible refine aI ?_ ?_);focus (first|((with_reducible refine⟨?_,?_,?_⟩)<;>first|(intro e he;rcases(by omega:e=0∨e=1∨e=2∨e=3∨e=4∨e=5) with rfl|rfl|rfl|rfl|rfl|rfl<;>first|rfl|(exfalso;omega))|(with_reducible assumption)|omega|((with_reducible show Ag _ _);simp only[Ag,ty2,ty3,ty4,ty5,ty9,Cn,Ch,Co,Ci,Cl,Cp,Cq,Cr,Bf,Bc,Bg,Bd,Bh,Bi,Bj,List.length_cons,List.length_nil];first|omega|(refine⟨?_,?_⟩<;>omega)))|omega))
    |(conv=>arg 2;(first|change eqI (Bb _ _) _|change decide (_+Ai _ _<_));simp only[List.toList_toArray,A9,r0,r1,r2,r3,r4,r5,w0,w1,w2,w3,w4,w5,Nat.zero_add,Nat.reduceAdd,List.length_cons,List.length_nil])
    |fail)<;>(conv=>whnf)))
   refine⟨taxes,hx1,?_,?_⟩
   ·exact Aj _
   (conv=>whnf)
   (repeat' ((first
    |((with_reducible refine aI ?_ ?_);focus (first|((with_reducible refine⟨?_,?_,?_⟩)<;>first|(intro e he;rcases(by omega:e=0∨e=1∨e=2∨e=3∨e=4∨e=5) with rfl|rfl|rfl|rfl|rfl|rfl<;>first|rfl|(exfalso;omega))|(with_reducible assumption)|omega|((with_reducible show Ag _ _);simp only[Ag,ty2,ty3,ty4,ty5,ty9,Cn,Ch,Co,Ci,Cl,Cp,Cq,Cr,Bf,Bc,Bg,Bd,Bh,Bi,Bj,List.length_cons,List.length_nil];first|omega|(refine⟨?_,?_⟩<;>omega)))|omega))
    |(conv=>arg 2;change decide (_+Ai _ _<_);simp only[List.toList_toArray,A9,r0,r1,r2,r3,r4,r5,w0,w1,w2,w3,w4,w5,Nat.zero_add,Nat.reduceAdd,List.length_cons,List.length_nil])
    |fail)<;>(conv=>whnf)))
   refine⟨⟨(nB rfl),fun e he=>?_⟩,?_⟩
   ·change e<6 at he
    rcases(by omega:e=0∨e=1∨e=2∨e=3∨e=4∨e=5) with rfl|rfl|rfl|rfl|rfl|rfl<;>rfl
   refine⟨(([Ce 1,key,Lib.itoa day,locator,Lib.join (coupons.map B0) [44],B9 taxes],[32]):List (List UInt8) × List UInt8),⟨Nat.le_trans hjl ((nB rfl)),(nB rfl)⟩,?_,?_⟩
   ·(conv=>whnf)
    (repeat' ((first|with_reducible exact⟨⟩|((with_reducible refine aI ?_ ?_);focus (exact tA))|with_reducible refine iA ?_ ?_|fail)<;>(conv=>whnf)))
    all_goals (try simp only[wQ])
    refine⟨fun h=>h,fun e he=>?_⟩
    change e<6 at he
    rcases(by omega:e=0∨e=1∨e=2∨e=3∨e=4∨e=5) with rfl|rfl|rfl|rfl|rfl|rfl<;>rfl
   (conv=>whnf)
   all_goals (try (show _=_;simp only[wQ]))
   all_goals exact hW.symm
  ·have hpar:=Ij (r:=⟨key,2,day,ticket,coupon,status,locator,coupons,taxes,amount,frm,til⟩) rfl
   have hfac:=Kp (r:=⟨key,2,day,ticket,coupon,status,locator,coupons,taxes,amount,frm,til⟩) rfl hmay
   dsimp only at hpar hfac
   obtain⟨r0,w0⟩:=Ao (l:=[75,68,84,78,83]) 0 (by decide) (by decide)
   obtain⟨r1,w1⟩:=Ao (l:=[75,68,84,78,83]) 1 (by decide) (by decide)
   obtain⟨r2,w2⟩:=Ao (l:=[75,68,84,78,83]) 2 (by decide) (by decide)
   obtain⟨r3,w3⟩:=Ao (l:=[75,68,84,78,83]) 3 (by decide) (by decide)
   obtain⟨r4,w4⟩:=Ao (l:=[75,68,84,78,83]) 4 (by decide) (by decide)
   have r5:=True.intro
   have w5:=True.intro
   have hn:Ce 2=Gx.getD (2 - 1) []:=Cc ⟨by decide,by decide⟩
   have hE:Bn ⟨key,2,day,ticket,coupon,status,locator,coupons,taxes,amount,frm,til⟩=[Ce 2,key,Lib.itoa day,Ay ticket,Lib.itoa coupon,Do status]:=by rw[hpar,hn];rfl
   rw[hE] at hjl hW
   (conv=>whnf)
   refine⟨(⟨key,2,day,ticket,coupon,status,locator,coupons,taxes,amount,frm,til⟩:Request),hp,?_,?_⟩
   ·exact Aj _
   (conv=>whnf)
   (repeat' ((first
    |(with_reducible refine Ac ?_)
    |(exact absurd (by with_reducible assumption) hex)
    |((with_reducible refine aI ?_ ?_);focus (first|with_reducible exact⟨⟩|((with_reducible refine⟨?_,?_,?_⟩)<;>first|(intro e he;rcases(by omega:e=0∨e=1∨e=2∨e=3∨e=4∨e=5) with rfl|rfl|rfl|rfl|rfl|rfl<;>first|rfl|(exfalso;omega))|(with_reducible assumption)|omega|((with_reducible show Ag _ _);simp only[Ag,ty2,ty3,ty4,ty5,ty9,Cn,Ch,Co,Ci,Cl,Cp,Cq,Cr,Bf,Bc,Bg,Bd,Bh,Bi,Bj,List.length_cons,List.length_nil];first|omega|(refine⟨?_,?_⟩<;>omega)))|omega|(simp only[Ag,ty2,ty3,ty4,ty5,ty9,Cn,Ch,Co,Ci,Cl,Cp,Cq,Cr,Bf,Bc,Bg,Bd,Bh,Bi,Bj];first|omega|(refine⟨?_,?_⟩<;>omega))))
    |(conv=>arg 2;(first|change eqI (Bb _ _) _|change decide (_+Ai _ _<_)|change ! (sB _));simp only[List.toList_toArray,A9,r0,r1,r2,r3,r4,r5,w0,w1,w2,w3,w4,w5,Nat.zero_add,Nat.reduceAdd,List.length_cons,List.length_nil])
    |(split<;>rename_i hh<;>(try simp only[wS] at hh))
    |fail)<;>(conv=>whnf)))
   refine⟨⟨(nB rfl),fun e he=>?_⟩,?_⟩
   ·change e<6 at he
    rcases(by omega:e=0∨e=1∨e=2∨e=3∨e=4∨e=5) with rfl|rfl|rfl|rfl|rfl|rfl<;>rfl
   refine⟨(([Ce 2,key,Lib.itoa day,Ay ticket,Lib.itoa coupon,Do status],[32]):List (List UInt8) × List UInt8),⟨Nat.le_trans hjl ((nB rfl)),(nB rfl)⟩,?_,?_⟩
   ·(conv=>whnf)
    (repeat' ((first|with_reducible exact⟨⟩|((with_reducible refine aI ?_ ?_);focus (exact tA))|with_reducible refine iA ?_ ?_|fail)<;>(conv=>whnf)))
    all_goals (try simp only[wQ])
    refine⟨fun h=>h,fun e he=>?_⟩
    change e<6 at he
    rcases(by omega:e=0∨e=1∨e=2∨e=3∨e=4∨e=5) with rfl|rfl|rfl|rfl|rfl|rfl<;>rfl
   (conv=>whnf)
   all_goals (try (show _=_;simp only[wQ]))
   all_goals exact hW.symm
  ·have hpar:=Ik (r:=⟨key,3,day,ticket,coupon,status,locator,coupons,taxes,amount,frm,til⟩) rfl
   have hfac:=Kq (r:=⟨key,3,day,ticket,coupon,status,locator,coupons,taxes,amount,frm,til⟩) rfl hmay
   dsimp only at hpar hfac
   obtain⟨r0,w0⟩:=Ao (l:=[75,68,84]) 0 (by decide) (by decide)
   obtain⟨r1,w1⟩:=Ao (l:=[75,68,84]) 1 (by decide) (by decide)
   obtain⟨r2,w2⟩:=Ao (l:=[75,68,84]) 2 (by decide) (by decide)
   have r3:=True.intro
   have w3:=True.intro
   have r4:=True.intro
   have w4:=True.intro
   have r5:=True.intro
   have w5:=True.intro
   have hn:Ce 3=Gx.getD (3 - 1) []:=Cc ⟨by decide,by decide⟩
   have hE:Bn ⟨key,3,day,ticket,coupon,status,locator,coupons,taxes,amount,frm,til⟩=[Ce 3,key,Lib.itoa day,Ay ticket]:=by rw[hpar,hn];rfl
   rw[hE] at hjl hW
   (conv=>whnf)
   refine⟨(⟨key,3,day,ticket,coupon,status,locator,coupons,taxes,amount,frm,til⟩:Request),hp,?_,?_⟩
   ·exact Aj _
   (conv=>whnf)
   (repeat' ((first
    |(with_reducible refine Ac ?_)
    |(exact absurd (by with_reducible assumption) hex)
    |((with_reducible refine aI ?_ ?_);focus (first|with_reducible exact⟨⟩|((with_reducible refine⟨?_,?_,?_⟩)<;>first|(intro e he;rcases(by omega:e=0∨e=1∨e=2∨e=3∨e=4∨e=5) with rfl|rfl|rfl|rfl|rfl|rfl<;>first|rfl|(exfalso;omega))|(with_reducible assumption)|omega|((with_reducible show Ag _ _);simp only[Ag,ty2,ty3,ty4,ty5,ty9,Cn,Ch,Co,Ci,Cl,Cp,Cq,Cr,Bf,Bc,Bg,Bd,Bh,Bi,Bj,List.length_cons,List.length_nil];first|omega|(refine⟨?_,?_⟩<;>omega)))|omega|(simp only[Ag,ty2,ty3,ty4,ty5,ty9,Cn,Ch,Co,Ci,Cl,Cp,Cq,Cr,Bf,Bc,Bg,Bd,Bh,Bi,Bj];first|omega|(refine⟨?_,?_⟩<;>omega))))
    |(conv=>arg 2;(first|change eqI (Bb _ _) _|change decide (_+Ai _ _<_)|change ! (sB _));simp only[List.toList_toArray,A9,r0,r1,r2,r3,r4,r5,w0,w1,w2,w3,w4,w5,Nat.zero_add,Nat.reduceAdd,List.length_cons,List.length_nil])
    |(split<;>rename_i hh<;>(try simp only[wS] at hh))
    |fail)<;>(conv=>whnf)))
   refine⟨⟨(nB rfl),fun e he=>?_⟩,?_⟩
   ·change e<4 at he
    rcases(by omega:e=0∨e=1∨e=2∨e=3) with rfl|rfl|rfl|rfl<;>rfl
   refine⟨(([Ce 3,key,Lib.itoa day,Ay ticket],[32]):List (List UInt8) × List UInt8),⟨Nat.le_trans hjl ((nB rfl)),(nB rfl)⟩,?_,?_⟩
   ·(conv=>whnf)
    (repeat' ((first|with_reducible exact⟨⟩|((with_reducible refine aI ?_ ?_);focus (exact tA))|with_reducible refine iA ?_ ?_|fail)<;>(conv=>whnf)))
    all_goals (try simp only[wQ])
    refine⟨fun h=>h,fun e he=>?_⟩
    change e<4 at he
    rcases(by omega:e=0∨e=1∨e=2∨e=3) with rfl|rfl|rfl|rfl<;>rfl
   (conv=>whnf)
   all_goals (try (show _=_;simp only[wQ]))
   all_goals exact hW.symm
  ·have hpar:=Il (r:=⟨key,4,day,ticket,coupon,status,locator,coupons,taxes,amount,frm,til⟩) rfl
   have hfac:=Kr (r:=⟨key,4,day,ticket,coupon,status,locator,coupons,taxes,amount,frm,til⟩) rfl hmay
   dsimp only at hpar hfac
   obtain⟨r0,w0⟩:=Ao (l:=[75,68,84,65]) 0 (by decide) (by decide)
   obtain⟨r1,w1⟩:=Ao (l:=[75,68,84,65]) 1 (by decide) (by decide)
   obtain⟨r2,w2⟩:=Ao (l:=[75,68,84,65]) 2 (by decide) (by decide)
   obtain⟨r3,w3⟩:=Ao (l:=[75,68,84,65]) 3 (by decide) (by decide)
   have r4:=True.intro
   have w4:=True.intro
   have r5:=True.intro
   have w5:=True.intro
   have hn:Ce 4=Gx.getD (4 - 1) []:=Cc ⟨by decide,by decide⟩
   have hE:Bn ⟨key,4,day,ticket,coupon,status,locator,coupons,taxes,amount,frm,til⟩=[Ce 4,key,Lib.itoa day,Ay ticket,D3 amount]:=by rw[hpar,hn];rfl
   rw[hE] at hjl hW
   (conv=>whnf)
   refine⟨(⟨key,4,day,ticket,coupon,status,locator,coupons,taxes,amount,frm,til⟩:Request),hp,?_,?_⟩
   ·exact Aj _
   (conv=>whnf)
   (repeat' ((first
    |(with_reducible refine Ac ?_)
    |(exact absurd (by with_reducible assumption) hex)
    |((with_reducible refine aI ?_ ?_);focus (first|with_reducible exact⟨⟩|((with_reducible refine⟨?_,?_,?_⟩)<;>first|(intro e he;rcases(by omega:e=0∨e=1∨e=2∨e=3∨e=4∨e=5) with rfl|rfl|rfl|rfl|rfl|rfl<;>first|rfl|(exfalso;omega))|(with_reducible assumption)|omega|((with_reducible show Ag _ _);simp only[Ag,ty2,ty3,ty4,ty5,ty9,Cn,Ch,Co,Ci,Cl,Cp,Cq,Cr,Bf,Bc,Bg,Bd,Bh,Bi,Bj,List.length_cons,List.length_nil];first|omega|(refine⟨?_,?_⟩<;>omega)))|omega|(simp only[Ag,ty2,ty3,ty4,ty5,ty9,Cn,Ch,Co,Ci,Cl,Cp,Cq,Cr,Bf,Bc,Bg,Bd,Bh,Bi,Bj];first|omega|(refine⟨?_,?_⟩<;>omega))))
    |(conv=>arg 2;(first|change eqI (Bb _ _) _|change decide (_+Ai _ _<_)|change ! (sB _));simp only[List.toList_toArray,A9,r0,r1,r2,r3,r4,r5,w0,w1,w2,w3,w4,w5,Nat.zero_add,Nat.reduceAdd,List.length_cons,List.length_nil])
    |(split<;>rename_i hh<;>(try simp only[wS] at hh))
    |fail)<;>(conv=>whnf)))
   refine⟨⟨(nB rfl),fun e he=>?_⟩,?_⟩
   ·change e<5 at he
    rcases(by omega:e=0∨e=1∨e=2∨e=3∨e=4) with rfl|rfl|rfl|rfl|rfl<;>rfl
   refine⟨(([Ce 4,key,Lib.itoa day,Ay ticket,D3 amount],[32]):List (List UInt8) × List UInt8),⟨Nat.le_trans hjl ((nB rfl)),(nB rfl)⟩,?_,?_⟩
   ·(conv=>whnf)
    (repeat' ((first|with_reducible exact⟨⟩|((with_reducible refine aI ?_ ?_);focus (exact tA))|with_reducible refine iA ?_ ?_|fail)<;>(conv=>whnf)))
    all_goals (try simp only[wQ])
    refine⟨fun h=>h,fun e he=>?_⟩
    change e<5 at he
    rcases(by omega:e=0∨e=1∨e=2∨e=3∨e=4) with rfl|rfl|rfl|rfl|rfl<;>rfl
   (conv=>whnf)
   all_goals (try (show _=_;simp only[wQ]))
   all_goals exact hW.symm
  ·have hpar:=Io (r:=⟨key,5,day,ticket,coupon,status,locator,coupons,taxes,amount,frm,til⟩) rfl
   have hfac:=Im (r:=⟨key,5,day,ticket,coupon,status,locator,coupons,taxes,amount,frm,til⟩) rfl hmay
   dsimp only at hpar hfac
   obtain⟨r0,w0⟩:=Ao (l:=[75,68,84,65,67,88]) 0 (by decide) (by decide)
   obtain⟨r1,w1⟩:=Ao (l:=[75,68,84,65,67,88]) 1 (by decide) (by decide)
   obtain⟨r2,w2⟩:=Ao (l:=[75,68,84,65,67,88]) 2 (by decide) (by decide)
   obtain⟨r3,w3⟩:=Ao (l:=[75,68,84,65,67,88]) 3 (by decide) (by decide)
   obtain⟨r4,w4⟩:=Ao (l:=[75,68,84,65,67,88]) 4 (by decide) (by decide)
   obtain⟨r5,w5⟩:=Ao (l:=[75,68,84,65,67,88]) 5 (by decide) (by decide)
   have hn:Ce 5=Gx.getD (5 - 1) []:=Cc ⟨by decide,by decide⟩
   have hfl:Ct coupons=Lib.join (coupons.map B0) [44]:=by unfold Ct;rfl
   have hE:Bn ⟨key,5,day,ticket,coupon,status,locator,coupons,taxes,amount,frm,til⟩=[Ce 5,key,Lib.itoa day,Ay ticket,D3 amount,Lib.join (coupons.map B0) [44],B9 taxes]:=by rw[hpar,hn,hfl];rfl
   rw[hE] at hjl hW
   have hc1:0<coupons.length∧coupons.length≤1000000:=by have:=F4 hfac.2.2.2.2.1;omega
   have hx1:taxes.length≤1000000:=by have:=Zq hfac.2.2.2.2.2;omega
   (conv=>whnf)
   refine⟨(⟨key,5,day,ticket,coupon,status,locator,coupons,taxes,amount,frm,til⟩:Request),hp,?_,?_⟩
   ·exact Aj _
   (conv=>whnf)
   (repeat' ((first
    |(with_reducible refine Ac ?_)
    |(exact absurd (by with_reducible assumption) hex)
    |((with_reducible refine aI ?_ ?_);focus (first|with_reducible exact⟨⟩|((with_reducible refine⟨?_,?_,?_⟩)<;>first|(intro e he;rcases(by omega:e=0∨e=1∨e=2∨e=3∨e=4∨e=5) with rfl|rfl|rfl|rfl|rfl|rfl<;>first|rfl|(exfalso;omega))|(with_reducible assumption)|omega|((with_reducible show Ag _ _);simp only[Ag,ty2,ty3,ty4,ty5,ty9,Cn,Ch,Co,Ci,Cl,Cp,Cq,Cr,Bf,Bc,Bg,Bd,Bh,Bi,Bj,List.length_cons,List.length_nil];first|omega|(refine⟨?_,?_⟩<;>omega)))|omega|(simp only[Ag,ty2,ty3,ty4,ty5,ty9,Cn,Ch,Co,Ci,Cl,Cp,Cq,Cr,Bf,Bc,Bg,Bd,Bh,Bi,Bj];first|omega|(refine⟨?_,?_⟩<;>omega))))
    |(conv=>arg 2;(first|change eqI (Bb _ _) _|change decide (_+Ai _ _<_)|change ! (sB _));simp only[List.toList_toArray,A9,r0,r1,r2,r3,r4,r5,w0,w1,w2,w3,w4,w5,Nat.zero_add,Nat.reduceAdd,List.length_cons,List.length_nil])
    |(split<;>rename_i hh<;>(try simp only[wS] at hh))
    |fail)<;>(conv=>whnf)))
   refine⟨coupons,hc1,?_,?_⟩
   ·exact Aj _
   (conv=>whnf)
   (repeat' ((first
    |(with_reducible refine Ac ?_)
    |((with_reducible refine aI ?_ ?_);focus (first|((with_reducible refine⟨?_,?_,?_⟩)<;>first|(intro e he;rcases(by omega:e=0∨e=1∨e=2∨e=3∨e=4∨e=5) with rfl|rfl|rfl|rfl|rfl|rfl<;>first|rfl|(exfalso;omega))|(with_reducible assumption)|omega|((with_reducible show Ag _ _);simp only[Ag,ty2,ty3,ty4,ty5,ty9,Cn,Ch,Co,Ci,Cl,Cp,Cq,Cr,Bf,Bc,Bg,Bd,Bh,Bi,Bj,List.length_cons,List.length_nil];first|omega|(refine⟨?_,?_⟩<;>omega)))|omega))
    |(conv=>arg 2;(first|change eqI (Bb _ _) _|change decide (_+Ai _ _<_));simp only[List.toList_toArray,A9,r0,r1,r2,r3,r4,r5,w0,w1,w2,w3,w4,w5,Nat.zero_add,Nat.reduceAdd,List.length_cons,List.length_nil])
    |fail)<;>(conv=>whnf)))
   refine⟨taxes,hx1,?_,?_⟩
   ·exact Aj _
   (conv=>whnf)
   (repeat' ((first
    |((with_reducible refine aI ?_ ?_);focus (first|((with_reducible refine⟨?_,?_,?_⟩)<;>first|(intro e he;rcases(by omega:e=0∨e=1∨e=2∨e=3∨e=4∨e=5) with rfl|rfl|rfl|rfl|rfl|rfl<;>first|rfl|(exfalso;omega))|(with_reducible assumption)|omega|((with_reducible show Ag _ _);simp only[Ag,ty2,ty3,ty4,ty5,ty9,Cn,Ch,Co,Ci,Cl,Cp,Cq,Cr,Bf,Bc,Bg,Bd,Bh,Bi,Bj,List.length_cons,List.length_nil];first|omega|(refine⟨?_,?_⟩<;>omega)))|omega))
    |(conv=>arg 2;change decide (_+Ai _ _<_);simp only[List.toList_toArray,A9,r0,r1,r2,r3,r4,r5,w0,w1,w2,w3,w4,w5,Nat.zero_add,Nat.reduceAdd,List.length_cons,List.length_nil])
    |fail)<;>(conv=>whnf)))
   refine⟨⟨(nB rfl),fun e he=>?_⟩,?_⟩
   ·change e<7 at he
    rcases(by omega:e=0∨e=1∨e=2∨e=3∨e=4∨e=5∨e=6) with rfl|rfl|rfl|rfl|rfl|rfl|rfl<;>rfl
   refine⟨(([Ce 5,key,Lib.itoa day,Ay ticket,D3 amount,Lib.join (coupons.map B0) [44],B9 taxes],[32]):List (List UInt8) × List UInt8),⟨Nat.le_trans hjl ((nB rfl)),(nB rfl)⟩,?_,?_⟩
   ·(conv=>whnf)
    (repeat' ((first|with_reducible exact⟨⟩|((with_reducible refine aI ?_ ?_);focus (exact tA))|with_reducible refine iA ?_ ?_|fail)<;>(conv=>whnf)))
    all_goals (try simp only[wQ])
    refine⟨fun h=>h,fun e he=>?_⟩
    change e<7 at he
    rcases(by omega:e=0∨e=1∨e=2∨e=3∨e=4∨e=5∨e=6) with rfl|rfl|rfl|rfl|rfl|rfl|rfl<;>rfl
   (conv=>whnf)
   all_goals (try (show _=_;simp only[wQ]))
   all_goals exact hW.symm
  ·have hpar:=Ip (r:=⟨key,6,day,ticket,coupon,status,locator,coupons,taxes,amount,frm,til⟩) rfl
   have hfac:=Ks (r:=⟨key,6,day,ticket,coupon,status,locator,coupons,taxes,amount,frm,til⟩) rfl hmay
   dsimp only at hpar hfac
   obtain⟨r0,w0⟩:=Ao (l:=[75,68,84,78]) 0 (by decide) (by decide)
   obtain⟨r1,w1⟩:=Ao (l:=[75,68,84,78]) 1 (by decide) (by decide)
   obtain⟨r2,w2⟩:=Ao (l:=[75,68,84,78]) 2 (by decide) (by decide)
   obtain⟨r3,w3⟩:=Ao (l:=[75,68,84,78]) 3 (by decide) (by decide)
   have r4:=True.intro
   have w4:=True.intro
   have r5:=True.intro
   have w5:=True.intro
   have hn:Ce 6=Gx.getD (6 - 1) []:=Cc ⟨by decide,by decide⟩
   have hE:Bn ⟨key,6,day,ticket,coupon,status,locator,coupons,taxes,amount,frm,til⟩=[Ce 6,key,Lib.itoa day,Ay ticket,Lib.itoa coupon]:=by rw[hpar,hn];rfl
   rw[hE] at hjl hW
   (conv=>whnf)
   refine⟨(⟨key,6,day,ticket,coupon,status,locator,coupons,taxes,amount,frm,til⟩:Request),hp,?_,?_⟩
   ·exact Aj _
   (conv=>whnf)
   (repeat' ((first
    |(with_reducible refine Ac ?_)
    |(exact absurd (by with_reducible assumption) hex)
    |((with_reducible refine aI ?_ ?_);focus (first|with_reducible exact⟨⟩|((with_reducible refine⟨?_,?_,?_⟩)<;>first|(intro e he;rcases(by omega:e=0∨e=1∨e=2∨e=3∨e=4∨e=5) with rfl|rfl|rfl|rfl|rfl|rfl<;>first|rfl|(exfalso;omega))|(with_reducible assumption)|omega|((with_reducible show Ag _ _);simp only[Ag,ty2,ty3,ty4,ty5,ty9,Cn,Ch,Co,Ci,Cl,Cp,Cq,Cr,Bf,Bc,Bg,Bd,Bh,Bi,Bj,List.length_cons,List.length_nil];first|omega|(refine⟨?_,?_⟩<;>omega)))|omega|(simp only[Ag,ty2,ty3,ty4,ty5,ty9,Cn,Ch,Co,Ci,Cl,Cp,Cq,Cr,Bf,Bc,Bg,Bd,Bh,Bi,Bj];first|omega|(refine⟨?_,?_⟩<;>omega))))
    |(conv=>arg 2;(first|change eqI (Bb _ _) _|change decide (_+Ai _ _<_)|change ! (sB _));simp only[List.toList_toArray,A9,r0,r1,r2,r3,r4,r5,w0,w1,w2,w3,w4,w5,Nat.zero_add,Nat.reduceAdd,List.length_cons,List.length_nil])
    |(split<;>rename_i hh<;>(try simp only[wS] at hh))
    |fail)<;>(conv=>whnf)))
   refine⟨⟨(nB rfl),fun e he=>?_⟩,?_⟩
   ·change e<5 at he
    rcases(by omega:e=0∨e=1∨e=2∨e=3∨e=4) with rfl|rfl|rfl|rfl|rfl<;>rfl
   refine⟨(([Ce 6,key,Lib.itoa day,Ay ticket,Lib.itoa coupon],[32]):List (List UInt8) × List UInt8),⟨Nat.le_trans hjl ((nB rfl)),(nB rfl)⟩,?_,?_⟩
   ·(conv=>whnf)
    (repeat' ((first|with_reducible exact⟨⟩|((with_reducible refine aI ?_ ?_);focus (exact tA))|with_reducible refine iA ?_ ?_|fail)<;>(conv=>whnf)))
    all_goals (try simp only[wQ])
    refine⟨fun h=>h,fun e he=>?_⟩
    change e<5 at he
    rcases(by omega:e=0∨e=1∨e=2∨e=3∨e=4) with rfl|rfl|rfl|rfl|rfl<;>rfl
   (conv=>whnf)
   all_goals (try (show _=_;simp only[wQ]))
   all_goals exact hW.symm
  ·have hpar:=Iq (r:=⟨key,7,day,ticket,coupon,status,locator,coupons,taxes,amount,frm,til⟩) rfl
   have hfac:=Kt (r:=⟨key,7,day,ticket,coupon,status,locator,coupons,taxes,amount,frm,til⟩) rfl hmay
   dsimp only at hpar hfac
   obtain⟨r0,w0⟩:=Ao (l:=[75,68,84,78]) 0 (by decide) (by decide)
   obtain⟨r1,w1⟩:=Ao (l:=[75,68,84,78]) 1 (by decide) (by decide)
   obtain⟨r2,w2⟩:=Ao (l:=[75,68,84,78]) 2 (by decide) (by decide)
   obtain⟨r3,w3⟩:=Ao (l:=[75,68,84,78]) 3 (by decide) (by decide)
   have r4:=True.intro
   have w4:=True.intro
   have r5:=True.intro
   have w5:=True.intro
   have hn:Ce 7=Gx.getD (7 - 1) []:=Cc ⟨by decide,by decide⟩
   have hE:Bn ⟨key,7,day,ticket,coupon,status,locator,coupons,taxes,amount,frm,til⟩=[Ce 7,key,Lib.itoa day,Ay ticket,Lib.itoa coupon]:=by rw[hpar,hn];rfl
   rw[hE] at hjl hW
   (conv=>whnf)
   refine⟨(⟨key,7,day,ticket,coupon,status,locator,coupons,taxes,amount,frm,til⟩:Request),hp,?_,?_⟩
   ·exact Aj _
   (conv=>whnf)
   (repeat' ((first
    |(with_reducible refine Ac ?_)
    |(exact absurd (by with_reducible assumption) hex)
    |((with_reducible refine aI ?_ ?_);focus (first|with_reducible exact⟨⟩|((with_reducible refine⟨?_,?_,?_⟩)<;>first|(intro e he;rcases(by omega:e=0∨e=1∨e=2∨e=3∨e=4∨e=5) with rfl|rfl|rfl|rfl|rfl|rfl<;>first|rfl|(exfalso;omega))|(with_reducible assumption)|omega|((with_reducible show Ag _ _);simp only[Ag,ty2,ty3,ty4,ty5,ty9,Cn,Ch,Co,Ci,Cl,Cp,Cq,Cr,Bf,Bc,Bg,Bd,Bh,Bi,Bj,List.length_cons,List.length_nil];first|omega|(refine⟨?_,?_⟩<;>omega)))|omega|(simp only[Ag,ty2,ty3,ty4,ty5,ty9,Cn,Ch,Co,Ci,Cl,Cp,Cq,Cr,Bf,Bc,Bg,Bd,Bh,Bi,Bj];first|omega|(refine⟨?_,?_⟩<;>omega))))
    |(conv=>arg 2;(first|change eqI (Bb _ _) _|change decide (_+Ai _ _<_)|change ! (sB _));simp only[List.toList_toArray,A9,r0,r1,r2,r3,r4,r5,w0,w1,w2,w3,w4,w5,Nat.zero_add,Nat.reduceAdd,List.length_cons,List.length_nil])
    |(split<;>rename_i hh<;>(try simp only[wS] at hh))
    |fail)<;>(conv=>whnf)))
   refine⟨⟨(nB rfl),fun e he=>?_⟩,?_⟩
   ·change e<5 at he
    rcases(by omega:e=0∨e=1∨e=2∨e=3∨e=4) with rfl|rfl|rfl|rfl|rfl<;>rfl
   refine⟨(([Ce 7,key,Lib.itoa day,Ay ticket,Lib.itoa coupon],[32]):List (List UInt8) × List UInt8),⟨Nat.le_trans hjl ((nB rfl)),(nB rfl)⟩,?_,?_⟩
   ·(conv=>whnf)
    (repeat' ((first|with_reducible exact⟨⟩|((with_reducible refine aI ?_ ?_);focus (exact tA))|with_reducible refine iA ?_ ?_|fail)<;>(conv=>whnf)))
    all_goals (try simp only[wQ])
    refine⟨fun h=>h,fun e he=>?_⟩
    change e<5 at he
    rcases(by omega:e=0∨e=1∨e=2∨e=3∨e=4) with rfl|rfl|rfl|rfl|rfl<;>rfl
   (conv=>whnf)
   all_goals (try (show _=_;simp only[wQ]))
   all_goals exact hW.symm
  ·have hpar:=Ir (r:=⟨key,8,day,ticket,coupon,status,locator,coupons,taxes,amount,frm,til⟩) rfl
   have hfac:=Yr (r:=⟨key,8,day,ticket,coupon,status,locator,coupons,taxes,amount,frm,til⟩) rfl hmay
   dsimp only at hpar hfac
   obtain⟨r0,w0⟩:=Ao (l:=[84]) 0 (by decide) (by decide)
   have r1:=True.intro
   have w1:=True.intro
   have r2:=True.intro
   have w2:=True.intro
   have r3:=True.intro
   have w3:=True.intro
   have r4:=True.intro
   have w4:=True.intro
   have r5:=True.intro
   have w5:=True.intro
   have hn:Ce 8=Gx.getD (8 - 1) []:=Cc ⟨by decide,by decide⟩
   have hE:Bn ⟨key,8,day,ticket,coupon,status,locator,coupons,taxes,amount,frm,til⟩=[Ce 8,Ay ticket]:=by rw[hpar,hn];rfl
   rw[hE] at hjl hW
   (conv=>whnf)
   refine⟨(⟨key,8,day,ticket,coupon,status,locator,coupons,taxes,amount,frm,til⟩:Request),hp,?_,?_⟩
   ·exact Aj _
   (conv=>whnf)
   (repeat' ((first
    |(with_reducible refine Ac ?_)
    |(exact absurd (by with_reducible assumption) hex)
    |((with_reducible refine aI ?_ ?_);focus (first|with_reducible exact⟨⟩|omega|(simp only[Ag,ty2,ty3,ty4,ty5,ty9,Cn,Ch,Co,Ci,Cl,Cp,Cq,Cr,Bf,Bc,Bg,Bd,Bh,Bi,Bj];first|omega|(refine⟨?_,?_⟩<;>omega))))
    |(conv=>arg 2;(first|change eqI (Bb _ _) _|change decide (_+Ai _ _<_)|change ! (sB _));simp only[List.toList_toArray,A9,r0,r1,r2,r3,r4,r5,w0,w1,w2,w3,w4,w5,Nat.zero_add,Nat.reduceAdd,List.length_cons,List.length_nil])
    |(split<;>rename_i hh<;>(try simp only[wS] at hh))
    |fail)<;>(conv=>whnf)))
   refine⟨⟨(nB rfl),fun e he=>?_⟩,?_⟩
   ·change e<2 at he
    rcases(by omega:e=0∨e=1) with rfl|rfl<;>rfl
   refine⟨(([Ce 8,Ay ticket],[32]):List (List UInt8) × List UInt8),⟨Nat.le_trans hjl ((nB rfl)),(nB rfl)⟩,?_,?_⟩
   ·(conv=>whnf)
    (repeat' ((first|with_reducible exact⟨⟩|((with_reducible refine aI ?_ ?_);focus (exact tA))|with_reducible refine iA ?_ ?_|fail)<;>(conv=>whnf)))
    all_goals (try simp only[wQ])
    refine⟨fun h=>h,fun e he=>?_⟩
    change e<2 at he
    rcases(by omega:e=0∨e=1) with rfl|rfl<;>rfl
   (conv=>whnf)
   all_goals (try (show _=_;simp only[wQ]))
   all_goals exact hW.symm
  ·have hpar:=Is (r:=⟨key,9,day,ticket,coupon,status,locator,coupons,taxes,amount,frm,til⟩) rfl
   have hfac:=Ku (r:=⟨key,9,day,ticket,coupon,status,locator,coupons,taxes,amount,frm,til⟩) rfl hmay
   dsimp only at hpar hfac
   obtain⟨r0,w0⟩:=Ao (l:=[76]) 0 (by decide) (by decide)
   have r1:=True.intro
   have w1:=True.intro
   have r2:=True.intro
   have w2:=True.intro
   have r3:=True.intro
   have w3:=True.intro
   have r4:=True.intro
   have w4:=True.intro
   have r5:=True.intro
   have w5:=True.intro
   have hn:Ce 9=Gx.getD (9 - 1) []:=Cc ⟨by decide,by decide⟩
   have hE:Bn ⟨key,9,day,ticket,coupon,status,locator,coupons,taxes,amount,frm,til⟩=[Ce 9,locator]:=by rw[hpar,hn];rfl
   rw[hE] at hjl hW
   (conv=>whnf)
   refine⟨(⟨key,9,day,ticket,coupon,status,locator,coupons,taxes,amount,frm,til⟩:Request),hp,?_,?_⟩
   ·exact Aj _
   (conv=>whnf)
   (repeat' ((first
    |(with_reducible refine Ac ?_)
    |(exact absurd (by with_reducible assumption) hex)
    |((with_reducible refine aI ?_ ?_);focus (first|with_reducible exact⟨⟩|omega|(simp only[Ag,ty2,ty3,ty4,ty5,ty9,Cn,Ch,Co,Ci,Cl,Cp,Cq,Cr,Bf,Bc,Bg,Bd,Bh,Bi,Bj];first|omega|(refine⟨?_,?_⟩<;>omega))))
    |(conv=>arg 2;(first|change eqI (Bb _ _) _|change decide (_+Ai _ _<_)|change ! (sB _));simp only[List.toList_toArray,A9,r0,r1,r2,r3,r4,r5,w0,w1,w2,w3,w4,w5,Nat.zero_add,Nat.reduceAdd,List.length_cons,List.length_nil])
    |(split<;>rename_i hh<;>(try simp only[wS] at hh))
    |fail)<;>(conv=>whnf)))
   refine⟨⟨(nB rfl),fun e he=>?_⟩,?_⟩
   ·change e<2 at he
    rcases(by omega:e=0∨e=1) with rfl|rfl<;>rfl
   refine⟨(([Ce 9,locator],[32]):List (List UInt8) × List UInt8),⟨Nat.le_trans hjl ((nB rfl)),(nB rfl)⟩,?_,?_⟩
   ·(conv=>whnf)
    (repeat' ((first|with_reducible exact⟨⟩|((with_reducible refine aI ?_ ?_);focus (exact tA))|with_reducible refine iA ?_ ?_|fail)<;>(conv=>whnf)))
    all_goals (try simp only[wQ])
    refine⟨fun h=>h,fun e he=>?_⟩
    change e<2 at he
    rcases(by omega:e=0∨e=1) with rfl|rfl<;>rfl
   (conv=>whnf)
   all_goals (try (show _=_;simp only[wQ]))
   all_goals exact hW.symm
  ·have hpar:=G6 (r:=⟨key,10,day,ticket,coupon,status,locator,coupons,taxes,amount,frm,til⟩) rfl
   have hfac:=Vb (r:=⟨key,10,day,ticket,coupon,status,locator,coupons,taxes,amount,frm,til⟩) rfl hmay
   dsimp only at hpar hfac
   obtain⟨r0,w0⟩:=Ao (l:=[70,85]) 0 (by decide) (by decide)
   obtain⟨r1,w1⟩:=Ao (l:=[70,85]) 1 (by decide) (by decide)
   have r2:=True.intro
   have w2:=True.intro
   have r3:=True.intro
   have w3:=True.intro
   have r4:=True.intro
   have w4:=True.intro
   have r5:=True.intro
   have w5:=True.intro
   have hn:Ce 10=Gx.getD (10 - 1) []:=Cc ⟨by decide,by decide⟩
   have hE:Bn ⟨key,10,day,ticket,coupon,status,locator,coupons,taxes,amount,frm,til⟩=[Ce 10,Lib.itoa frm,Lib.itoa til]:=by rw[hpar,hn];rfl
   rw[hE] at hjl hW
   (conv=>whnf)
   refine⟨(⟨key,10,day,ticket,coupon,status,locator,coupons,taxes,amount,frm,til⟩:Request),hp,?_,?_⟩
   ·exact Aj _
   (conv=>whnf)
   (repeat' ((first
    |(with_reducible refine Ac ?_)
    |(exact absurd (by with_reducible assumption) hex)
    |((with_reducible refine aI ?_ ?_);focus (first|with_reducible exact⟨⟩|((with_reducible refine⟨?_,?_,?_⟩)<;>first|(intro e he;rcases(by omega:e=0∨e=1∨e=2∨e=3∨e=4∨e=5) with rfl|rfl|rfl|rfl|rfl|rfl<;>first|rfl|(exfalso;omega))|(with_reducible assumption)|omega|((with_reducible show Ag _ _);simp only[Ag,ty2,ty3,ty4,ty5,ty9,Cn,Ch,Co,Ci,Cl,Cp,Cq,Cr,Bf,Bc,Bg,Bd,Bh,Bi,Bj,List.length_cons,List.length_nil];first|omega|(refine⟨?_,?_⟩<;>omega)))|omega|(simp only[Ag,ty2,ty3,ty4,ty5,ty9,Cn,Ch,Co,Ci,Cl,Cp,Cq,Cr,Bf,Bc,Bg,Bd,Bh,Bi,Bj];first|omega|(refine⟨?_,?_⟩<;>omega))))
    |(conv=>arg 2;(first|change eqI (Bb _ _) _|change decide (_+Ai _ _<_)|change ! (sB _));simp only[List.toList_toArray,A9,r0,r1,r2,r3,r4,r5,w0,w1,w2,w3,w4,w5,Nat.zero_add,Nat.reduceAdd,List.length_cons,List.length_nil])
    |(split<;>rename_i hh<;>(try simp only[wS] at hh))
    |fail)<;>(conv=>whnf)))
   refine⟨⟨(nB rfl),fun e he=>?_⟩,?_⟩
   ·change e<3 at he
    rcases(by omega:e=0∨e=1∨e=2) with rfl|rfl|rfl<;>rfl
   refine⟨(([Ce 10,Lib.itoa frm,Lib.itoa til],[32]):List (List UInt8) × List UInt8),⟨Nat.le_trans hjl ((nB rfl)),(nB rfl)⟩,?_,?_⟩
   ·(conv=>whnf)
    (repeat' ((first|with_reducible exact⟨⟩|((with_reducible refine aI ?_ ?_);focus (exact tA))|with_reducible refine iA ?_ ?_|fail)<;>(conv=>whnf)))
    all_goals (try simp only[wQ])
    refine⟨fun h=>h,fun e he=>?_⟩
    change e<3 at he
    rcases(by omega:e=0∨e=1∨e=2) with rfl|rfl|rfl<;>rfl
   (conv=>whnf)
   all_goals (try (show _=_;simp only[wQ]))
   all_goals exact hW.symm
 ·have hm:Ah ⟨key,kind,day,ticket,coupon,status,locator,coupons,taxes,amount,frm,til⟩=false:=by simpa using hmay
  have hex: ¬Ah ⟨key,kind,day,ticket,coupon,status,locator,coupons,taxes,amount,frm,til⟩=true:=hmay
  clear hf
  (conv=>whnf)
  refine⟨(⟨key,kind,day,ticket,coupon,status,locator,coupons,taxes,amount,frm,til⟩:Request),hp,?_,?_⟩
  ·exact Aj _
  (conv=>whnf)
  (repeat' ((first
   |(with_reducible refine Ac ?_)
   |(exact absurd (by with_reducible assumption) hex)
   |(split<;>rename_i hh<;>(try simp only[wS] at hh))
   |fail)<;>(conv=>whnf)))
  all_goals (try (show _=_;simp only[wQ]))
  rw[Aic hm]
end
end Go.Vc.Z
