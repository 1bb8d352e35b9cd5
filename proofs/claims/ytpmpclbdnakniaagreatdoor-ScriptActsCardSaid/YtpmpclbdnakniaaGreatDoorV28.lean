/- script.RequestLine: the line of a request, the program's. -/
import Derived.Test.YtpmpclbdnakniaaGreatDoorV27
import Derived.Test.YtpmpclbdnakniaaGreatDoorV18
set_option linter.all false
set_option linter.unusedVariables false
set_option linter.unusedSimpArgs false
namespace Go.Vc.Z
open Go Go.Vc Go.Proofs Go.RowKit Go.Pl Go.Lib
noncomputable section
set_option maxRecDepth 100000
attribute [local irreducible] inK Utf8.decode Utf8.encode Lib.itoa Pl.worth Pl.allDig
attribute [local irreducible] Lib.join
theorem yI{l:List Coupon}{r:List AV}(h:A0 (slE 6 Coupon.enc l::r)):∀ s ∈ l.map Bs,s.length≤200:=by
 intro s hs
 obtain⟨c,hc,rfl⟩:=List.mem_map.1 hs
 exact Tg (l:=l) (by simp only[A0] at h ⊢;exact⟨h.1,trivial⟩) c hc
def Amr(l:List Coupon):LoopSpec:={
 α:=Nat × List (List UInt8)
 keep:=[1,5,8,9,10]
 vals x:=[.fn 129 [],Auy 0 x.2,slE 6 Coupon.enc l,.int .i64 l.length,.int .i64 x.1]
 heap x:=[Aux x.2]
 ok x:=x.1≤l.length∧x.2=(l.take x.1).map Bs
 μ x:=l.length - x.1 }
def uG:PC:=PC.of (fun l:List Coupon=>[slE 6 Coupon.enc l,.fn 129 []]) (fun l=>0<l.length∧l.length≤1000000) (fun l=>.str (sS (Lib.join (l.map Bs) [44])))
def Zz:PT:=C8 [(62,Ug),(129,Zh)]
theorem uH{W:World}(hW:Tabs W):Ct (Fw W) Tryz.prog Zz:=(Ab Tryz.call62 (P2 hW) (Ab Tryz.call129 (Rt hW) Av))
def Z0:FuncId→Option Ctr:=Az Zz []
theorem Ajh{W:World}(hW:Tabs W):Ad (Fw W) Tryz.prog Z0:=(Aw (uH hW))
def Aji:List Coupon→Nat→Option LR:=fun l i=>cond (Nat.beq i 3) (some (.inv (Amr l))) (none)
set_option maxHeartbeats 2000000 in
theorem Ajj{W:World}(hW:Tabs W):GoodP (Fw W) Tryz.prog 56 uG:=by
 have hD:=uH hW
 have hC0:∀ l:List Coupon,Ad (Fw W) Tryz.prog Z0:=fun l=>(Ajh hW)
 refine As (D:=Zz) (C:=fun l=>Z0) (wr:=(fun _=>false)) rfl Ao hD hC0 Tryz.func56 (Aji) (fun _=>rfl) ?_
 intro l hf hp
 obtain⟨hp0,hp1⟩:=hp
 have hw:∀ s ∈ l.map Bs,s.length≤200:=(yI hf)
 clear hf
 (conv=>whnf)
 (repeat' ((first
  |with_reducible refine lnI fun hln=>?_
  |fail)<;>(conv=>whnf)))
 refine⟨?_,fun(x:Nat × List (List UInt8)) hx=>?_⟩
 ·(conv=>whnf)
  refine⟨((0,[]):Nat × List (List UInt8)),[],?_,⟨⟨rfl,(nB rfl),rfl⟩,?_,?_⟩⟩
  ·exact⟨Nat.zero_le _,rfl⟩
  ·exact Ac _
  ·exact tL
 ·obtain⟨i,L⟩:=x
  obtain⟨h1,h2⟩:=hx
  change i≤l.length at h1
  change L=(l.take i).map Bs at h2
  have hlen:L.length=i:=by rw[h2];simp;omega
  have hstep:i<l.length→L++[Bs (l.getD (Int.toNat (i:Int)) default)]=(l.take (i+1)).map Bs:=fun h=>by
   rw[h2,List.take_add_one,List.map_append,List.getElem?_eq_getElem h]
   have:l.getD (Int.toNat (i:Int)) default=l[i]:=by
    rw[show Int.toNat (i:Int)=i from rfl,List.getD_eq_getElem?_getD,List.getElem?_eq_getElem h];rfl
   rw[this];rfl
  rcases L with _|⟨s,L⟩
  ·have hi:i=0:=by simpa using hlen.symm
   subst hi
   (conv=>whnf)
   (repeat' ((first
    |((with_reducible refine aI ?_ ?_);focus (first|with_reducible exact⟨⟩|omega|exact tK|(simp only[Ap,ty2,ty3,ty4,ty5,ty9,Cu,Ck,Cv,Cl,Cq,Cw,Cx,Cy,Bm,Bl,Bn,Bo,Bp,Bq,Br];first|omega|(refine⟨?_,?_⟩<;>omega))))
    |(split<;>rename_i hh<;>(try simp only[wS] at hh))
    |fail)<;>(conv=>whnf)))
   ·(conv=>whnf)
    refine⟨((1,[Bs (l.getD (Int.toNat ((0:Nat):Int)) default)]):Nat × List (List UInt8)),[3],?_,⟨⟨rfl,(nB rfl),rfl⟩,?_,?_⟩⟩
    ·exact⟨⟨show 1≤l.length by omega,hstep (by omega)⟩,show l.length - 1<l.length - 0 by omega⟩
    ·exact tL
    ·(conv=>whnf)
     (repeat' ((first|with_reducible exact⟨⟩|((with_reducible refine aI ?_ ?_);focus (exact tA))|with_reducible refine iB ?_ ?_|fail)<;>(conv=>whnf)))
     all_goals (try simp only[wQ])
     intro e he
     have he:e<1:=he
     obtain rfl:e=0:=by omega
     exact⟨rfl,rfl⟩
   ·exfalso;omega
  ·have hlen2:L.length+1=i:=hlen
   (conv=>whnf)
   (repeat' ((first
    |((with_reducible refine aI ?_ ?_);focus (first|with_reducible exact⟨⟩|((with_reducible refine⟨?_,?_,?_⟩)<;>first|(intro e he;rcases(by omega:e=0∨e=1∨e=2∨e=3∨e=4∨e=5) with rfl|rfl|rfl|rfl|rfl|rfl<;>first|rfl|(exfalso;omega))|(with_reducible assumption)|omega|((with_reducible show Ap _ _);simp only[Ap,ty2,ty3,ty4,ty5,ty9,Cu,Ck,Cv,Cl,Cq,Cw,Cx,Cy,Bm,Bl,Bn,Bo,Bp,Bq,Br,List.length_cons,List.length_nil];first|omega|(refine⟨?_,?_⟩<;>omega)))|omega|exact tK))
    |(split<;>rename_i hh<;>(try simp only[wS] at hh))
    |fail)<;>(conv=>whnf)))
   ·(conv=>whnf)
    refine⟨((i+1,s::L++[Bs (l.getD (Int.toNat (i:Int)) default)]):Nat × List (List UInt8)),[3],?_,⟨⟨rfl,(nB rfl),rfl⟩,?_,?_⟩⟩
    ·exact⟨⟨show i+1≤l.length by omega,hstep (by omega)⟩,show l.length - (i+1)<l.length - i by omega⟩
    ·exact tL
    ·(conv=>whnf)
     (repeat' ((first|with_reducible exact⟨⟩|((with_reducible refine aI ?_ ?_);focus (exact tA))|with_reducible refine iB ?_ ?_|fail)<;>(conv=>whnf)))
     all_goals (try simp only[wQ])
     exact⟨by simp,fun e he=>⟨Xl (l:=s::L) rfl (fun _ _=>rfl) rfl (by simpa using he),rfl⟩⟩
   ·have hi:i=l.length:=by omega
    rw[hi,List.take_length] at h2
    refine⟨⟨by omega,fun e he=>rfl⟩,?_⟩
    refine⟨((s::L,[44]):List (List UInt8) × List UInt8),⟨by have:=K4 [44] 200 (s::L) (by rw[h2];exact hw);simp at this;show(Lib.join (s::L) [44]).length≤_;omega,by show(s::L).length≤_;simp;omega⟩,?_,?_⟩
    ·exact tL
    (conv=>whnf)
    all_goals (try (show _=_;simp only[wQ]))
    rw[h2]
theorem iY{l:List Tax}(h:Dg l=true):l.length≤4:=by
 unfold Dg at h;simp only[Bool.and_eq_true,decide_eq_true_eq] at h;exact h.2
theorem Au{l:List UInt8}(i:Nat)(h:i<l.length)(hb:(l.getD i 0).toNat<128):Bj l i=((l.getD i 0).toNat:Int)∧Ai l i=1:=by
 rcases Ef h with ⟨h6,h7,h8⟩|⟨h6,h7⟩
 ·exact⟨h6,h7⟩
 ·omega
def Ur:PC:=PC.of (fun r:Request=>[.agg r.enc]) Fy (fun r=>.str (sS (Bf r)))
def Bi:PT:=C8 [(46,Mg),(54,Af1),(56,uG),(58,Aas),(61,Su),(62,Ug),(71,iW),(73,fO),(129,Zh),(132,xU)]
theorem Dh{W:World}(hW:Tabs W):Ct (Fw W) Tryz.prog Bi:=(Ab Tryz.call46 (Gf hW) (Ab Tryz.call54 (mY hW) (Ab Tryz.call56 (Ajj hW) (Ab Tryz.call58 (eV hW) (Ab Tryz.call61 (bY hW) (Ab Tryz.call62 (P2 hW) (Ab Tryz.call71 (Yd hW) (Ab Tryz.call73 (J0 hW) (Ab Tryz.call129 (Rt hW) (Ab Tryz.call132 (Agb hW) Av))))))))))
def uI:FuncId→Option Ctr:=Az Bi []
theorem uJ{W:World}(hW:Tabs W):Ad (Fw W) Tryz.prog uI:=(Aw (Dh hW))
def iZ:List (FuncId × Ctr):=(74,inl TY uI Bi (fun _=>false) (fun _ _ _=>none) Tryz.f74)::[]
def jA:FuncId→Option Ctr:=Az Bi iZ
theorem jB{W:World}(hW:Tabs W):Ad (Fw W) Tryz.prog jA:=Ae Tryz.call74 (Ag rfl Ao (Dh hW) (uJ hW) Tryz.func74 (fun _ _ _=>none)) (uJ hW)
def jC:List (FuncId × Ctr):=(144,inl TY jA Bi (fun _=>false) (fun _ _ _=>none) Tryz.f144)::iZ
def jD:FuncId→Option Ctr:=Az Bi jC
theorem jE{W:World}(hW:Tabs W):Ad (Fw W) Tryz.prog jD:=Ae Tryz.call144 (Ag rfl Ao (Dh hW) (jB hW) Tryz.func144 (fun _ _ _=>none)) (jB hW)
def jF:List (FuncId × Ctr):=(145,inl TY jD Bi (fun _=>false) (fun _ _ _=>none) Tryz.f145)::jC
def jG:FuncId→Option Ctr:=Az Bi jF
theorem jH{W:World}(hW:Tabs W):Ad (Fw W) Tryz.prog jG:=Ae Tryz.call145 (Ag rfl Ao (Dh hW) (jE hW) Tryz.func145 (fun _ _ _=>none)) (jE hW)
def jI:List (FuncId × Ctr):=(147,inl TY jG Bi (fun _=>false) (fun _ _ _=>none) Tryz.f147)::jF
def jJ:FuncId→Option Ctr:=Az Bi jI
theorem jK{W:World}(hW:Tabs W):Ad (Fw W) Tryz.prog jJ:=Ae Tryz.call147 (Ag rfl Ao (Dh hW) (jH hW) Tryz.func147 (fun _ _ _=>none)) (jH hW)
def jL:List (FuncId × Ctr):=(148,inl TY jJ Bi (fun _=>false) (fun _ _ _=>none) Tryz.f148)::jI
def jM:FuncId→Option Ctr:=Az Bi jL
theorem jN{W:World}(hW:Tabs W):Ad (Fw W) Tryz.prog jM:=Ae Tryz.call148 (Ag rfl Ao (Dh hW) (jK hW) Tryz.func148 (fun _ _ _=>none)) (jK hW)
def jO:List (FuncId × Ctr):=(149,inl TY jM Bi (fun _=>false) (fun _ _ _=>none) Tryz.f149)::jL
def jP:FuncId→Option Ctr:=Az Bi jO
theorem jQ{W:World}(hW:Tabs W):Ad (Fw W) Tryz.prog jP:=Ae Tryz.call149 (Ag rfl Ao (Dh hW) (jN hW) Tryz.func149 (fun _ _ _=>none)) (jN hW)
def jR:List (FuncId × Ctr):=(150,inl TY jP Bi (fun _=>false) (fun _ _ _=>none) Tryz.f150)::jO
def jS:FuncId→Option Ctr:=Az Bi jR
theorem jT{W:World}(hW:Tabs W):Ad (Fw W) Tryz.prog jS:=Ae Tryz.call150 (Ag rfl Ao (Dh hW) (jQ hW) Tryz.func150 (fun _ _ _=>none)) (jQ hW)
def jU:List (FuncId × Ctr):=(151,inl TY jS Bi (fun _=>false) (fun _ _ _=>none) Tryz.f151)::jR
def jV:FuncId→Option Ctr:=Az Bi jU
theorem jY{W:World}(hW:Tabs W):Ad (Fw W) Tryz.prog jV:=Ae Tryz.call151 (Ag rfl Ao (Dh hW) (jT hW) Tryz.func151 (fun _ _ _=>none)) (jT hW)
def jZ:List (FuncId × Ctr):=(154,inl TY jV Bi (fun _=>false) (fun _ _ _=>none) Tryz.f154)::jU
def kA:FuncId→Option Ctr:=Az Bi jZ
theorem kB{W:World}(hW:Tabs W):Ad (Fw W) Tryz.prog kA:=Ae Tryz.call154 (Ag rfl Ao (Dh hW) (jY hW) Tryz.func154 (fun _ _ _=>none)) (jY hW)
def aW:List (FuncId × Ctr):=(157,inl TY kA Bi (fun _=>false) (fun _ _ _=>none) Tryz.f157)::jZ
def aX:FuncId→Option Ctr:=Az Bi aW
theorem aY{W:World}(hW:Tabs W):Ad (Fw W) Tryz.prog aX:=Ae Tryz.call157 (Ag rfl Ao (Dh hW) (kB hW) Tryz.func157 (fun _ _ _=>none)) (kB hW)
def aZ:List (FuncId × Ctr):=(160,inl TY aX Bi (fun _=>false) (fun _ _ _=>none) Tryz.f160)::aW
def bA:FuncId→Option Ctr:=Az Bi aZ
theorem bB{W:World}(hW:Tabs W):Ad (Fw W) Tryz.prog bA:=Ae Tryz.call160 (Ag rfl Ao (Dh hW) (aY hW) Tryz.func160 (fun _ _ _=>none)) (aY hW)
def bC:List (FuncId × Ctr):=(162,inl TY bA Bi (fun _=>false) (fun _ _ _=>none) Tryz.f162)::aZ
def bD:FuncId→Option Ctr:=Az Bi bC
theorem bE{W:World}(hW:Tabs W):Ad (Fw W) Tryz.prog bD:=Ae Tryz.call162 (Ag rfl Ao (Dh hW) (bB hW) Tryz.func162 (fun _ _ _=>none)) (bB hW)
def bF:List (FuncId × Ctr):=(216,inl TY bD Bi (fun _=>false) (fun _ _ _=>none) Tryz.f216)::bC
def bG:FuncId→Option Ctr:=Az Bi bF
theorem bH{W:World}(hW:Tabs W):Ad (Fw W) Tryz.prog bG:=Ae Tryz.call216 (Ag rfl Ao (Dh hW) (bE hW) Tryz.func216 (fun _ _ _=>none)) (bE hW)
def bI:List (FuncId × Ctr):=(218,inl TY bG Bi (fun _=>false) (fun _ _ _=>none) Tryz.f218)::bF
def bJ:FuncId→Option Ctr:=Az Bi bI
theorem bK{W:World}(hW:Tabs W):Ad (Fw W) Tryz.prog bJ:=Ae Tryz.call218 (Ag rfl Ao (Dh hW) (bH hW) Tryz.func218 (fun _ _ _=>none)) (bH hW)
def bL:List (FuncId × Ctr):=(143,inl TY bJ Bi (fun _=>false) (fun _ _ _=>none) Tryz.f143)::bI
def bM:FuncId→Option Ctr:=Az Bi bL
theorem bN{W:World}(hW:Tabs W):Ad (Fw W) Tryz.prog bM:=Ae Tryz.call143 (Ag rfl Ao (Dh hW) (bK hW) Tryz.func143 (fun _ _ _=>none)) (bK hW)
def bO:List (FuncId × Ctr):=(146,inl TY bM Bi (fun _=>false) (fun _ _ _=>none) Tryz.f146)::bL
def bP:FuncId→Option Ctr:=Az Bi bO
theorem bQ{W:World}(hW:Tabs W):Ad (Fw W) Tryz.prog bP:=Ae Tryz.call146 (Ag rfl Ao (Dh hW) (bN hW) Tryz.func146 (fun _ _ _=>none)) (bN hW)
def Ac4:List (FuncId × Ctr):=(72,inl TY bP Bi (fun _=>false) (fun _ _ _=>none) Tryz.f72)::bO
def Tp:FuncId→Option Ctr:=Az Bi Ac4
theorem Ac5{W:World}(hW:Tabs W):Ad (Fw W) Tryz.prog Tp:=Ae Tryz.call72 (Ag rfl Ao (Dh hW) (bQ hW) Tryz.func72 (fun _ _ _=>none)) (bQ hW)
def Ajk:Request→Nat→Option LR:=fun r i=>cond (Nat.beq i 6) (some (.unroll 7)) (none)
set_option maxHeartbeats 4000000 in
theorem Z1{W:World}(hW:Tabs W):GoodP (Fw W) Tryz.prog 24 Ur:=by
 have hD:=Dh hW
 have hC0:∀ r:Request,Ad (Fw W) Tryz.prog Tp:=fun r=>(Ac5 hW)
 refine As (D:=Bi) (C:=fun r=>Tp) (wr:=(fun _=>false)) rfl Ao hD hC0 Tryz.func24 (Ajk) (fun _=>rfl) ?_
 rintro⟨key,kind,day,ticket,coupon,status,locator,coupons,taxes,amount,frm,til⟩ hf hp
 by_cases hmay:Af ⟨key,kind,day,ticket,coupon,status,locator,coupons,taxes,amount,frm,til⟩=true
 ·have hex: ¬Af ⟨key,kind,day,ticket,coupon,status,locator,coupons,taxes,amount,frm,til⟩=false:=by rw[hmay];simp
  have hjl:=Abe hmay hf
  have hW:Bf ⟨key,kind,day,ticket,coupon,status,locator,coupons,taxes,amount,frm,til⟩=Lib.join (Bz ⟨key,kind,day,ticket,coupon,status,locator,coupons,taxes,amount,frm,til⟩) [32]:=by unfold Bf;rw[if_pos hmay]
  simp only[A0,Bg,Ak,Go.Vc.lo,Go.Vc.hi,and_true] at hf
  rcases Gh hmay with k|k|k|k|k|k|k|k|k|k
  all_goals (
   have k':kind=_:=k
   subst k'
   clear k)
  ·have hpar:=Nm (r:=⟨key,1,day,ticket,coupon,status,locator,coupons,taxes,amount,frm,til⟩) rfl
   have hfac:=Iw (r:=⟨key,1,day,ticket,coupon,status,locator,coupons,taxes,amount,frm,til⟩) rfl hmay
   dsimp only at hpar hfac
   obtain⟨r0,w0⟩:=Au (l:=[75,68,76,67,88]) 0 (by decide) (by decide)
   obtain⟨r1,w1⟩:=Au (l:=[75,68,76,67,88]) 1 (by decide) (by decide)
   obtain⟨r2,w2⟩:=Au (l:=[75,68,76,67,88]) 2 (by decide) (by decide)
   obtain⟨r3,w3⟩:=Au (l:=[75,68,76,67,88]) 3 (by decide) (by decide)
   obtain⟨r4,w4⟩:=Au (l:=[75,68,76,67,88]) 4 (by decide) (by decide)
   have r5:=True.intro
   have w5:=True.intro
   have hn:Ci 1=Dv.getD (1 - 1) []:=Ce ⟨by decide,by decide⟩
   have hfl:Cb coupons=Lib.join (coupons.map Bs) [44]:=by unfold Cb;rfl
   have hE:Bz ⟨key,1,day,ticket,coupon,status,locator,coupons,taxes,amount,frm,til⟩=[Ci 1,key,Lib.itoa day,locator,Lib.join (coupons.map Bs) [44],By taxes]:=by rw[hpar,hn,hfl];rfl
   rw[hE] at hjl hW
   have hc1:0<coupons.length∧coupons.length≤1000000:=by have:=Em hfac.2.2.2.1;omega
   have hx1:taxes.length≤1000000:=by have:=iY hfac.2.2.2.2;omega
   (conv=>whnf)
   refine⟨(⟨key,1,day,ticket,coupon,status,locator,coupons,taxes,amount,frm,til⟩:Request),hp,?_,?_⟩
   ·exact Ac _
   (conv=>whnf)
   (repeat' ((first
    |(with_reducible refine Ar ?_)
    |(exact absurd (by with_reducible assumption) hex)
    |((with_reducible refine aI ?_ ?_);focus (first|with_reducible exact⟨⟩|((with_reducible refine⟨?_,?_,?_⟩)<;>first|(intro e he;rcases(by omega:e=0∨e=1∨e=2∨e=3∨e=4∨e=5) with rfl|rfl|rfl|rfl|rfl|rfl<;>first|rfl|(exfalso;omega))|(with_reducible assumption)|omega|((with_reducible show Ap _ _);simp only[Ap,ty2,ty3,ty4,ty5,ty9,Cu,Ck,Cv,Cl,Cq,Cw,Cx,Cy,Bm,Bl,Bn,Bo,Bp,Bq,Br,List.length_cons,List.length_nil];first|omega|(refine⟨?_,?_⟩<;>omega)))|omega|(simp only[Ap,ty2,ty3,ty4,ty5,ty9,Cu,Ck,Cv,Cl,Cq,Cw,Cx,Cy,Bm,Bl,Bn,Bo,Bp,Bq,Br];first|omega|(refine⟨?_,?_⟩<;>omega))))
    |(conv=>arg 2;(first|change eqI (Bj _ _) _|change decide (_+Ai _ _<_)|change ! (sB _));simp only[List.toList_toArray,Bh,r0,r1,r2,r3,r4,r5,w0,w1,w2,w3,w4,w5,Nat.zero_add,Nat.reduceAdd,List.length_cons,List.length_nil])
    |(split<;>rename_i hh<;>(try simp only[wS] at hh))
    |fail)<;>(conv=>whnf)))
   refine⟨coupons,hc1,?_,?_⟩
   ·exact Ac _
   (conv=>whnf)
   (repeat' ((first
    |(with_reducible refine Ar ?_)
    |((with_reducible refine aI ?_ ?_);focus (first|((with_reducible refine⟨?_,?_,?_⟩)<;>first|(intro e he;rcases(by omega:e=0∨e=1∨e=2∨e=3∨e=4∨e=5) with rfl|rfl|rfl|rfl|rfl|rfl<;>first|rfl|(exfalso;omega))|(with_reducible assumption)|omega|((with_reducible show Ap _ _);simp only[Ap,ty2,ty3,ty4,ty5,ty9,Cu,Ck,Cv,Cl,Cq,Cw,Cx,Cy,Bm,Bl,Bn,Bo,Bp,Bq,Br,List.length_cons,List.length_nil];first|omega|(refine⟨?_,?_⟩<;>omega)))|omega))
    |(conv=>arg 2;(first|change eqI (Bj _ _) _|change decide (_+Ai _ _<_));simp only[List.toList_toArray,Bh,r0,r1,r2,r3,r4,r5,w0,w1,w2,w3,w4,w5,Nat.zero_add,Nat.reduceAdd,List.length_cons,List.length_nil])
    |fail)<;>(conv=>whnf)))
   refine⟨taxes,hx1,?_,?_⟩
   ·exact Ac _
   (conv=>whnf)
   (repeat' ((first
    |((with_reducible refine aI ?_ ?_);focus (first|((with_reducible refine⟨?_,?_,?_⟩)<;>first|(intro e he;rcases(by omega:e=0∨e=1∨e=2∨e=3∨e=4∨e=5) with rfl|rfl|rfl|rfl|rfl|rfl<;>first|rfl|(exfalso;omega))|(with_reducible assumption)|omega|((with_reducible show Ap _ _);simp only[Ap,ty2,ty3,ty4,ty5,ty9,Cu,Ck,Cv,Cl,Cq,Cw,Cx,Cy,Bm,Bl,Bn,Bo,Bp,Bq,Br,List.length_cons,List.length_nil];first|omega|(refine⟨?_,?_⟩<;>omega)))|omega))
    |(conv=>arg 2;change decide (_+Ai _ _<_);simp only[List.toList_toArray,Bh,r0,r1,r2,r3,r4,r5,w0,w1,w2,w3,w4,w5,Nat.zero_add,Nat.reduceAdd,List.length_cons,List.length_nil])
    |fail)<;>(conv=>whnf)))
   refine⟨⟨(nB rfl),fun e he=>?_⟩,?_⟩
   ·change e<6 at he
    rcases(by omega:e=0∨e=1∨e=2∨e=3∨e=4∨e=5) with rfl|rfl|rfl|rfl|rfl|rfl<;>rfl
   refine⟨(([Ci 1,key,Lib.itoa day,locator,Lib.join (coupons.map Bs) [44],By taxes],[32]):List (List UInt8) × List UInt8),⟨Nat.le_trans hjl ((nB rfl)),(nB rfl)⟩,?_,?_⟩
   ·(conv=>whnf)
    (repeat' ((first|with_reducible exact⟨⟩|((with_reducible refine aI ?_ ?_);focus (exact tA))|with_reducible refine iA ?_ ?_|fail)<;>(conv=>whnf)))
    all_goals (try simp only[wQ])
    refine⟨fun h=>h,fun e he=>?_⟩
    change e<6 at he
    rcases(by omega:e=0∨e=1∨e=2∨e=3∨e=4∨e=5) with rfl|rfl|rfl|rfl|rfl|rfl<;>rfl
   (conv=>whnf)
   all_goals (try (show _=_;simp only[wQ]))
   all_goals exact hW.symm
  ·have hpar:=Nn (r:=⟨key,2,day,ticket,coupon,status,locator,coupons,taxes,amount,frm,til⟩) rfl
   have hfac:=Kq (r:=⟨key,2,day,ticket,coupon,status,locator,coupons,taxes,amount,frm,til⟩) rfl hmay
   dsimp only at hpar hfac
   obtain⟨r0,w0⟩:=Au (l:=[75,68,84,78,83]) 0 (by decide) (by decide)
   obtain⟨r1,w1⟩:=Au (l:=[75,68,84,78,83]) 1 (by decide) (by decide)
   obtain⟨r2,w2⟩:=Au (l:=[75,68,84,78,83]) 2 (by decide) (by decide)
   obtain⟨r3,w3⟩:=Au (l:=[75,68,84,78,83]) 3 (by decide) (by decide)
   obtain⟨r4,w4⟩:=Au (l:=[75,68,84,78,83]) 4 (by decide) (by decide)
   have r5:=True.intro
   have w5:=True.intro
   have hn:Ci 2=Dv.getD (2 - 1) []:=Ce ⟨by decide,by decide⟩
   have hE:Bz ⟨key,2,day,ticket,coupon,status,locator,coupons,taxes,amount,frm,til⟩=[Ci 2,key,Lib.itoa day,A6 ticket,Lib.itoa coupon,C2 status]:=by rw[hpar,hn];rfl
   rw[hE] at hjl hW
   (conv=>whnf)
   refine⟨(⟨key,2,day,ticket,coupon,status,locator,coupons,taxes,amount,frm,til⟩:Request),hp,?_,?_⟩
   ·exact Ac _
   (conv=>whnf)
   (repeat' ((first
    |(with_reducible refine Ar ?_)
    |(exact absurd (by with_reducible assumption) hex)
    |((with_reducible refine aI ?_ ?_);focus (first|with_reducible exact⟨⟩|((with_reducible refine⟨?_,?_,?_⟩)<;>first|(intro e he;rcases(by omega:e=0∨e=1∨e=2∨e=3∨e=4∨e=5) with rfl|rfl|rfl|rfl|rfl|rfl<;>first|rfl|(exfalso;omega))|(with_reducible assumption)|omega|((with_reducible show Ap _ _);simp only[Ap,ty2,ty3,ty4,ty5,ty9,Cu,Ck,Cv,Cl,Cq,Cw,Cx,Cy,Bm,Bl,Bn,Bo,Bp,Bq,Br,List.length_cons,List.length_nil];first|omega|(refine⟨?_,?_⟩<;>omega)))|omega|(simp only[Ap,ty2,ty3,ty4,ty5,ty9,Cu,Ck,Cv,Cl,Cq,Cw,Cx,Cy,Bm,Bl,Bn,Bo,Bp,Bq,Br];first|omega|(refine⟨?_,?_⟩<;>omega))))
    |(conv=>arg 2;(first|change eqI (Bj _ _) _|change decide (_+Ai _ _<_)|change ! (sB _));simp only[List.toList_toArray,Bh,r0,r1,r2,r3,r4,r5,w0,w1,w2,w3,w4,w5,Nat.zero_add,Nat.reduceAdd,List.length_cons,List.length_nil])
    |(split<;>rename_i hh<;>(try simp only[wS] at hh))
    |fail)<;>(conv=>whnf)))
   refine⟨⟨(nB rfl),fun e he=>?_⟩,?_⟩
   ·change e<6 at he
    rcases(by omega:e=0∨e=1∨e=2∨e=3∨e=4∨e=5) with rfl|rfl|rfl|rfl|rfl|rfl<;>rfl
   refine⟨(([Ci 2,key,Lib.itoa day,A6 ticket,Lib.itoa coupon,C2 status],[32]):List (List UInt8) × List UInt8),⟨Nat.le_trans hjl ((nB rfl)),(nB rfl)⟩,?_,?_⟩
   ·(conv=>whnf)
    (repeat' ((first|with_reducible exact⟨⟩|((with_reducible refine aI ?_ ?_);focus (exact tA))|with_reducible refine iA ?_ ?_|fail)<;>(conv=>whnf)))
    all_goals (try simp only[wQ])
    refine⟨fun h=>h,fun e he=>?_⟩
    change e<6 at he
    rcases(by omega:e=0∨e=1∨e=2∨e=3∨e=4∨e=5) with rfl|rfl|rfl|rfl|rfl|rfl<;>rfl
   (conv=>whnf)
   all_goals (try (show _=_;simp only[wQ]))
   all_goals exact hW.symm
  ·have hpar:=No (r:=⟨key,3,day,ticket,coupon,status,locator,coupons,taxes,amount,frm,til⟩) rfl
   have hfac:=Kr (r:=⟨key,3,day,ticket,coupon,status,locator,coupons,taxes,amount,frm,til⟩) rfl hmay
   dsimp only at hpar hfac
   obtain⟨r0,w0⟩:=Au (l:=[75,68,84]) 0 (by decide) (by decide)
   obtain⟨r1,w1⟩:=Au (l:=[75,68,84]) 1 (by decide) (by decide)
   obtain⟨r2,w2⟩:=Au (l:=[75,68,84]) 2 (by decide) (by decide)
   have r3:=True.intro
   have w3:=True.intro
   have r4:=True.intro
   have w4:=True.intro
   have r5:=True.intro
   have w5:=True.intro
   have hn:Ci 3=Dv.getD (3 - 1) []:=Ce ⟨by decide,by decide⟩
   have hE:Bz ⟨key,3,day,ticket,coupon,status,locator,coupons,taxes,amount,frm,til⟩=[Ci 3,key,Lib.itoa day,A6 ticket]:=by rw[hpar,hn];rfl
   rw[hE] at hjl hW
   (conv=>whnf)
   refine⟨(⟨key,3,day,ticket,coupon,status,locator,coupons,taxes,amount,frm,til⟩:Request),hp,?_,?_⟩
   ·exact Ac _
   (conv=>whnf)
   (repeat' ((first
    |(with_reducible refine Ar ?_)
    |(exact absurd (by with_reducible assumption) hex)
    |((with_reducible refine aI ?_ ?_);focus (first|with_reducible exact⟨⟩|((with_reducible refine⟨?_,?_,?_⟩)<;>first|(intro e he;rcases(by omega:e=0∨e=1∨e=2∨e=3∨e=4∨e=5) with rfl|rfl|rfl|rfl|rfl|rfl<;>first|rfl|(exfalso;omega))|(with_reducible assumption)|omega|((with_reducible show Ap _ _);simp only[Ap,ty2,ty3,ty4,ty5,ty9,Cu,Ck,Cv,Cl,Cq,Cw,Cx,Cy,Bm,Bl,Bn,Bo,Bp,Bq,Br,List.length_cons,List.length_nil];first|omega|(refine⟨?_,?_⟩<;>omega)))|omega|(simp only[Ap,ty2,ty3,ty4,ty5,ty9,Cu,Ck,Cv,Cl,Cq,Cw,Cx,Cy,Bm,Bl,Bn,Bo,Bp,Bq,Br];first|omega|(refine⟨?_,?_⟩<;>omega))))
    |(conv=>arg 2;(first|change eqI (Bj _ _) _|change decide (_+Ai _ _<_)|change ! (sB _));simp only[List.toList_toArray,Bh,r0,r1,r2,r3,r4,r5,w0,w1,w2,w3,w4,w5,Nat.zero_add,Nat.reduceAdd,List.length_cons,List.length_nil])
    |(split<;>rename_i hh<;>(try simp only[wS] at hh))
    |fail)<;>(conv=>whnf)))
   refine⟨⟨(nB rfl),fun e he=>?_⟩,?_⟩
   ·change e<4 at he
    rcases(by omega:e=0∨e=1∨e=2∨e=3) with rfl|rfl|rfl|rfl<;>rfl
   refine⟨(([Ci 3,key,Lib.itoa day,A6 ticket],[32]):List (List UInt8) × List UInt8),⟨Nat.le_trans hjl ((nB rfl)),(nB rfl)⟩,?_,?_⟩
   ·(conv=>whnf)
    (repeat' ((first|with_reducible exact⟨⟩|((with_reducible refine aI ?_ ?_);focus (exact tA))|with_reducible refine iA ?_ ?_|fail)<;>(conv=>whnf)))
    all_goals (try simp only[wQ])
    refine⟨fun h=>h,fun e he=>?_⟩
    change e<4 at he
    rcases(by omega:e=0∨e=1∨e=2∨e=3) with rfl|rfl|rfl|rfl<;>rfl
   (conv=>whnf)
   all_goals (try (show _=_;simp only[wQ]))
   all_goals exact hW.symm
  ·have hpar:=Np (r:=⟨key,4,day,ticket,coupon,status,locator,coupons,taxes,amount,frm,til⟩) rfl
   have hfac:=Ks (r:=⟨key,4,day,ticket,coupon,status,locator,coupons,taxes,amount,frm,til⟩) rfl hmay
   dsimp only at hpar hfac
   obtain⟨r0,w0⟩:=Au (l:=[75,68,84,65]) 0 (by decide) (by decide)
   obtain⟨r1,w1⟩:=Au (l:=[75,68,84,65]) 1 (by decide) (by decide)
   obtain⟨r2,w2⟩:=Au (l:=[75,68,84,65]) 2 (by decide) (by decide)
   obtain⟨r3,w3⟩:=Au (l:=[75,68,84,65]) 3 (by decide) (by decide)
   have r4:=True.intro
   have w4:=True.intro
   have r5:=True.intro
   have w5:=True.intro
   have hn:Ci 4=Dv.getD (4 - 1) []:=Ce ⟨by decide,by decide⟩
   have hE:Bz ⟨key,4,day,ticket,coupon,status,locator,coupons,taxes,amount,frm,til⟩=[Ci 4,key,Lib.itoa day,A6 ticket,C0 amount]:=by rw[hpar,hn];rfl
   rw[hE] at hjl hW
   (conv=>whnf)
   refine⟨(⟨key,4,day,ticket,coupon,status,locator,coupons,taxes,amount,frm,til⟩:Request),hp,?_,?_⟩
   ·exact Ac _
   (conv=>whnf)
   (repeat' ((first
    |(with_reducible refine Ar ?_)
    |(exact absurd (by with_reducible assumption) hex)
    |((with_reducible refine aI ?_ ?_);focus (first|with_reducible exact⟨⟩|((with_reducible refine⟨?_,?_,?_⟩)<;>first|(intro e he;rcases(by omega:e=0∨e=1∨e=2∨e=3∨e=4∨e=5) with rfl|rfl|rfl|rfl|rfl|rfl<;>first|rfl|(exfalso;omega))|(with_reducible assumption)|omega|((with_reducible show Ap _ _);simp only[Ap,ty2,ty3,ty4,ty5,ty9,Cu,Ck,Cv,Cl,Cq,Cw,Cx,Cy,Bm,Bl,Bn,Bo,Bp,Bq,Br,List.length_cons,List.length_nil];first|omega|(refine⟨?_,?_⟩<;>omega)))|omega|(simp only[Ap,ty2,ty3,ty4,ty5,ty9,Cu,Ck,Cv,Cl,Cq,Cw,Cx,Cy,Bm,Bl,Bn,Bo,Bp,Bq,Br];first|omega|(refine⟨?_,?_⟩<;>omega))))
    |(conv=>arg 2;(first|change eqI (Bj _ _) _|change decide (_+Ai _ _<_)|change ! (sB _));simp only[List.toList_toArray,Bh,r0,r1,r2,r3,r4,r5,w0,w1,w2,w3,w4,w5,Nat.zero_add,Nat.reduceAdd,List.length_cons,List.length_nil])
    |(split<;>rename_i hh<;>(try simp only[wS] at hh))
    |fail)<;>(conv=>whnf)))
   refine⟨⟨(nB rfl),fun e he=>?_⟩,?_⟩
   ·change e<5 at he
    rcases(by omega:e=0∨e=1∨e=2∨e=3∨e=4) with rfl|rfl|rfl|rfl|rfl<;>rfl
   refine⟨(([Ci 4,key,Lib.itoa day,A6 ticket,C0 amount],[32]):List (List UInt8) × List UInt8),⟨Nat.le_trans hjl ((nB rfl)),(nB rfl)⟩,?_,?_⟩
   ·(conv=>whnf)
    (repeat' ((first|with_reducible exact⟨⟩|((with_reducible refine aI ?_ ?_);focus (exact tA))|with_reducible refine iA ?_ ?_|fail)<;>(conv=>whnf)))
    all_goals (try simp only[wQ])
    refine⟨fun h=>h,fun e he=>?_⟩
    change e<5 at he
    rcases(by omega:e=0∨e=1∨e=2∨e=3∨e=4) with rfl|rfl|rfl|rfl|rfl<;>rfl
   (conv=>whnf)
   all_goals (try (show _=_;simp only[wQ]))
   all_goals exact hW.symm
  ·have hpar:=Nq (r:=⟨key,5,day,ticket,coupon,status,locator,coupons,taxes,amount,frm,til⟩) rfl
   have hfac:=Ix (r:=⟨key,5,day,ticket,coupon,status,locator,coupons,taxes,amount,frm,til⟩) rfl hmay
   dsimp only at hpar hfac
   obtain⟨r0,w0⟩:=Au (l:=[75,68,84,65,67,88]) 0 (by decide) (by decide)
   obtain⟨r1,w1⟩:=Au (l:=[75,68,84,65,67,88]) 1 (by decide) (by decide)
   obtain⟨r2,w2⟩:=Au (l:=[75,68,84,65,67,88]) 2 (by decide) (by decide)
   obtain⟨r3,w3⟩:=Au (l:=[75,68,84,65,67,88]) 3 (by decide) (by decide)
   obtain⟨r4,w4⟩:=Au (l:=[75,68,84,65,67,88]) 4 (by decide) (by decide)
   obtain⟨r5,w5⟩:=Au (l:=[75,68,84,65,67,88]) 5 (by decide) (by decide)
   have hn:Ci 5=Dv.getD (5 - 1) []:=Ce ⟨by decide,by decide⟩
   have hfl:Cb coupons=Lib.join (coupons.map Bs) [44]:=by unfold Cb;rfl
   have hE:Bz ⟨key,5,day,ticket,coupon,status,locator,coupons,taxes,amount,frm,til⟩=[Ci 5,key,Lib.itoa day,A6 ticket,C0 amount,Lib.join (coupons.map Bs) [44],By taxes]:=by rw[hpar,hn,hfl];rfl
   rw[hE] at hjl hW
   have hc1:0<coupons.length∧coupons.length≤1000000:=by have:=Em hfac.2.2.2.2.1;omega
   have hx1:taxes.length≤1000000:=by have:=iY hfac.2.2.2.2.2;omega
   (conv=>whnf)
   refine⟨(⟨key,5,day,ticket,coupon,status,locator,coupons,taxes,amount,frm,til⟩:Request),hp,?_,?_⟩
   ·exact Ac _
   (conv=>whnf)
   (repeat' ((first
    |(with_reducible refine Ar ?_)
    |(exact absurd (by with_reducible assumption) hex)
    |((with_reducible refine aI ?_ ?_);focus (first|with_reducible exact⟨⟩|((with_reducible refine⟨?_,?_,?_⟩)<;>first|(intro e he;rcases(by omega:e=0∨e=1∨e=2∨e=3∨e=4∨e=5) with rfl|rfl|rfl|rfl|rfl|rfl<;>first|rfl|(exfalso;omega))|(with_reducible assumption)|omega|((with_reducible show Ap _ _);simp only[Ap,ty2,ty3,ty4,ty5,ty9,Cu,Ck,Cv,Cl,Cq,Cw,Cx,Cy,Bm,Bl,Bn,Bo,Bp,Bq,Br,List.length_cons,List.length_nil];first|omega|(refine⟨?_,?_⟩<;>omega)))|omega|(simp only[Ap,ty2,ty3,ty4,ty5,ty9,Cu,Ck,Cv,Cl,Cq,Cw,Cx,Cy,Bm,Bl,Bn,Bo,Bp,Bq,Br];first|omega|(refine⟨?_,?_⟩<;>omega))))
    |(conv=>arg 2;(first|change eqI (Bj _ _) _|change decide (_+Ai _ _<_)|change ! (sB _));simp only[List.toList_toArray,Bh,r0,r1,r2,r3,r4,r5,w0,w1,w2,w3,w4,w5,Nat.zero_add,Nat.reduceAdd,List.length_cons,List.length_nil])
    |(split<;>rename_i hh<;>(try simp only[wS] at hh))
    |fail)<;>(conv=>whnf)))
   refine⟨coupons,hc1,?_,?_⟩
   ·exact Ac _
   (conv=>whnf)
   (repeat' ((first
    |(with_reducible refine Ar ?_)
    |((with_reducible refine aI ?_ ?_);focus (first|((with_reducible refine⟨?_,?_,?_⟩)<;>first|(intro e he;rcases(by omega:e=0∨e=1∨e=2∨e=3∨e=4∨e=5) with rfl|rfl|rfl|rfl|rfl|rfl<;>first|rfl|(exfalso;omega))|(with_reducible assumption)|omega|((with_reducible show Ap _ _);simp only[Ap,ty2,ty3,ty4,ty5,ty9,Cu,Ck,Cv,Cl,Cq,Cw,Cx,Cy,Bm,Bl,Bn,Bo,Bp,Bq,Br,List.length_cons,List.length_nil];first|omega|(refine⟨?_,?_⟩<;>omega)))|omega))
    |(conv=>arg 2;(first|change eqI (Bj _ _) _|change decide (_+Ai _ _<_));simp only[List.toList_toArray,Bh,r0,r1,r2,r3,r4,r5,w0,w1,w2,w3,w4,w5,Nat.zero_add,Nat.reduceAdd,List.length_cons,List.length_nil])
    |fail)<;>(conv=>whnf)))
   refine⟨taxes,hx1,?_,?_⟩
   ·exact Ac _
   (conv=>whnf)
   (repeat' ((first
    |((with_reducible refine aI ?_ ?_);focus (first|((with_reducible refine⟨?_,?_,?_⟩)<;>first|(intro e he;rcases(by omega:e=0∨e=1∨e=2∨e=3∨e=4∨e=5) with rfl|rfl|rfl|rfl|rfl|rfl<;>first|rfl|(exfalso;omega))|(with_reducible assumption)|omega|((with_reducible show Ap _ _);simp only[Ap,ty2,ty3,ty4,ty5,ty9,Cu,Ck,Cv,Cl,Cq,Cw,Cx,Cy,Bm,Bl,Bn,Bo,Bp,Bq,Br,List.length_cons,List.length_nil];first|omega|(refine⟨?_,?_⟩<;>omega)))|omega))
    |(conv=>arg 2;change decide (_+Ai _ _<_);simp only[List.toList_toArray,Bh,r0,r1,r2,r3,r4,r5,w0,w1,w2,w3,w4,w5,Nat.zero_add,Nat.reduceAdd,List.length_cons,List.length_nil])
    |fail)<;>(conv=>whnf)))
   refine⟨⟨(nB rfl),fun e he=>?_⟩,?_⟩
   ·change e<7 at he
    rcases(by omega:e=0∨e=1∨e=2∨e=3∨e=4∨e=5∨e=6) with rfl|rfl|rfl|rfl|rfl|rfl|rfl<;>rfl
   refine⟨(([Ci 5,key,Lib.itoa day,A6 ticket,C0 amount,Lib.join (coupons.map Bs) [44],By taxes],[32]):List (List UInt8) × List UInt8),⟨Nat.le_trans hjl ((nB rfl)),(nB rfl)⟩,?_,?_⟩
   ·(conv=>whnf)
    (repeat' ((first|with_reducible exact⟨⟩|((with_reducible refine aI ?_ ?_);focus (exact tA))|with_reducible refine iA ?_ ?_|fail)<;>(conv=>whnf)))
    all_goals (try simp only[wQ])
    refine⟨fun h=>h,fun e he=>?_⟩
    change e<7 at he
    rcases(by omega:e=0∨e=1∨e=2∨e=3∨e=4∨e=5∨e=6) with rfl|rfl|rfl|rfl|rfl|rfl|rfl<;>rfl
   (conv=>whnf)
   all_goals (try (show _=_;simp only[wQ]))
   all_goals exact hW.symm
  ·have hpar:=Nr (r:=⟨key,6,day,ticket,coupon,status,locator,coupons,taxes,amount,frm,til⟩) rfl
   have hfac:=Kt (r:=⟨key,6,day,ticket,coupon,status,locator,coupons,taxes,amount,frm,til⟩) rfl hmay
   dsimp only at hpar hfac
   obtain⟨r0,w0⟩:=Au (l:=[75,68,84,78]) 0 (by decide) (by decide)
   obtain⟨r1,w1⟩:=Au (l:=[75,68,84,78]) 1 (by decide) (by decide)
   obtain⟨r2,w2⟩:=Au (l:=[75,68,84,78]) 2 (by decide) (by decide)
   obtain⟨r3,w3⟩:=Au (l:=[75,68,84,78]) 3 (by decide) (by decide)
   have r4:=True.intro
   have w4:=True.intro
   have r5:=True.intro
   have w5:=True.intro
   have hn:Ci 6=Dv.getD (6 - 1) []:=Ce ⟨by decide,by decide⟩
   have hE:Bz ⟨key,6,day,ticket,coupon,status,locator,coupons,taxes,amount,frm,til⟩=[Ci 6,key,Lib.itoa day,A6 ticket,Lib.itoa coupon]:=by rw[hpar,hn];rfl
   rw[hE] at hjl hW
   (conv=>whnf)
   refine⟨(⟨key,6,day,ticket,coupon,status,locator,coupons,taxes,amount,frm,til⟩:Request),hp,?_,?_⟩
   ·exact Ac _
   (conv=>whnf)
   (repeat' ((first
    |(with_reducible refine Ar ?_)
    |(exact absurd (by with_reducible assumption) hex)
    |((with_reducible refine aI ?_ ?_);focus (first|with_reducible exact⟨⟩|((with_reducible refine⟨?_,?_,?_⟩)<;>first|(intro e he;rcases(by omega:e=0∨e=1∨e=2∨e=3∨e=4∨e=5) with rfl|rfl|rfl|rfl|rfl|rfl<;>first|rfl|(exfalso;omega))|(with_reducible assumption)|omega|((with_reducible show Ap _ _);simp only[Ap,ty2,ty3,ty4,ty5,ty9,Cu,Ck,Cv,Cl,Cq,Cw,Cx,Cy,Bm,Bl,Bn,Bo,Bp,Bq,Br,List.length_cons,List.length_nil];first|omega|(refine⟨?_,?_⟩<;>omega)))|omega|(simp only[Ap,ty2,ty3,ty4,ty5,ty9,Cu,Ck,Cv,Cl,Cq,Cw,Cx,Cy,Bm,Bl,Bn,Bo,Bp,Bq,Br];first|omega|(refine⟨?_,?_⟩<;>omega))))
    |(conv=>arg 2;(first|change eqI (Bj _ _) _|change decide (_+Ai _ _<_)|change ! (sB _));simp only[List.toList_toArray,Bh,r0,r1,r2,r3,r4,r5,w0,w1,w2,w3,w4,w5,Nat.zero_add,Nat.reduceAdd,List.length_cons,List.length_nil])
    |(split<;>rename_i hh<;>(try simp only[wS] at hh))
    |fail)<;>(conv=>whnf)))
   refine⟨⟨(nB rfl),fun e he=>?_⟩,?_⟩
   ·change e<5 at he
    rcases(by omega:e=0∨e=1∨e=2∨e=3∨e=4) with rfl|rfl|rfl|rfl|rfl<;>rfl
   refine⟨(([Ci 6,key,Lib.itoa day,A6 ticket,Lib.itoa coupon],[32]):List (List UInt8) × List UInt8),⟨Nat.le_trans hjl ((nB rfl)),(nB rfl)⟩,?_,?_⟩
   ·(conv=>whnf)
    (repeat' ((first|with_reducible exact⟨⟩|((with_reducible refine aI ?_ ?_);focus (exact tA))|with_reducible refine iA ?_ ?_|fail)<;>(conv=>whnf)))
    all_goals (try simp only[wQ])
    refine⟨fun h=>h,fun e he=>?_⟩
    change e<5 at he
    rcases(by omega:e=0∨e=1∨e=2∨e=3∨e=4) with rfl|rfl|rfl|rfl|rfl<;>rfl
   (conv=>whnf)
   all_goals (try (show _=_;simp only[wQ]))
   all_goals exact hW.symm
  ·have hpar:=Ns (r:=⟨key,7,day,ticket,coupon,status,locator,coupons,taxes,amount,frm,til⟩) rfl
   have hfac:=Ku (r:=⟨key,7,day,ticket,coupon,status,locator,coupons,taxes,amount,frm,til⟩) rfl hmay
   dsimp only at hpar hfac
   obtain⟨r0,w0⟩:=Au (l:=[75,68,84,78]) 0 (by decide) (by decide)
   obtain⟨r1,w1⟩:=Au (l:=[75,68,84,78]) 1 (by decide) (by decide)
   obtain⟨r2,w2⟩:=Au (l:=[75,68,84,78]) 2 (by decide) (by decide)
   obtain⟨r3,w3⟩:=Au (l:=[75,68,84,78]) 3 (by decide) (by decide)
   have r4:=True.intro
   have w4:=True.intro
   have r5:=True.intro
   have w5:=True.intro
   have hn:Ci 7=Dv.getD (7 - 1) []:=Ce ⟨by decide,by decide⟩
   have hE:Bz ⟨key,7,day,ticket,coupon,status,locator,coupons,taxes,amount,frm,til⟩=[Ci 7,key,Lib.itoa day,A6 ticket,Lib.itoa coupon]:=by rw[hpar,hn];rfl
   rw[hE] at hjl hW
   (conv=>whnf)
   refine⟨(⟨key,7,day,ticket,coupon,status,locator,coupons,taxes,amount,frm,til⟩:Request),hp,?_,?_⟩
   ·exact Ac _
   (conv=>whnf)
   (repeat' ((first
    |(with_reducible refine Ar ?_)
    |(exact absurd (by with_reducible assumption) hex)
    |((with_reducible refine aI ?_ ?_);focus (first|with_reducible exact⟨⟩|((with_reducible refine⟨?_,?_,?_⟩)<;>first|(intro e he;rcases(by omega:e=0∨e=1∨e=2∨e=3∨e=4∨e=5) with rfl|rfl|rfl|rfl|rfl|rfl<;>first|rfl|(exfalso;omega))|(with_reducible assumption)|omega|((with_reducible show Ap _ _);simp only[Ap,ty2,ty3,ty4,ty5,ty9,Cu,Ck,Cv,Cl,Cq,Cw,Cx,Cy,Bm,Bl,Bn,Bo,Bp,Bq,Br,List.length_cons,List.length_nil];first|omega|(refine⟨?_,?_⟩<;>omega)))|omega|(simp only[Ap,ty2,ty3,ty4,ty5,ty9,Cu,Ck,Cv,Cl,Cq,Cw,Cx,Cy,Bm,Bl,Bn,Bo,Bp,Bq,Br];first|omega|(refine⟨?_,?_⟩<;>omega))))
    |(conv=>arg 2;(first|change eqI (Bj _ _) _|change decide (_+Ai _ _<_)|change ! (sB _));simp only[List.toList_toArray,Bh,r0,r1,r2,r3,r4,r5,w0,w1,w2,w3,w4,w5,Nat.zero_add,Nat.reduceAdd,List.length_cons,List.length_nil])
    |(split<;>rename_i hh<;>(try simp only[wS] at hh))
    |fail)<;>(conv=>whnf)))
   refine⟨⟨(nB rfl),fun e he=>?_⟩,?_⟩
   ·change e<5 at he
    rcases(by omega:e=0∨e=1∨e=2∨e=3∨e=4) with rfl|rfl|rfl|rfl|rfl<;>rfl
   refine⟨(([Ci 7,key,Lib.itoa day,A6 ticket,Lib.itoa coupon],[32]):List (List UInt8) × List UInt8),⟨Nat.le_trans hjl ((nB rfl)),(nB rfl)⟩,?_,?_⟩
   ·(conv=>whnf)
    (repeat' ((first|with_reducible exact⟨⟩|((with_reducible refine aI ?_ ?_);focus (exact tA))|with_reducible refine iA ?_ ?_|fail)<;>(conv=>whnf)))
    all_goals (try simp only[wQ])
    refine⟨fun h=>h,fun e he=>?_⟩
    change e<5 at he
    rcases(by omega:e=0∨e=1∨e=2∨e=3∨e=4) with rfl|rfl|rfl|rfl|rfl<;>rfl
   (conv=>whnf)
   all_goals (try (show _=_;simp only[wQ]))
   all_goals exact hW.symm
  ·have hpar:=Nt (r:=⟨key,8,day,ticket,coupon,status,locator,coupons,taxes,amount,frm,til⟩) rfl
   have hfac:=Rh (r:=⟨key,8,day,ticket,coupon,status,locator,coupons,taxes,amount,frm,til⟩) rfl hmay
   dsimp only at hpar hfac
   obtain⟨r0,w0⟩:=Au (l:=[84]) 0 (by decide) (by decide)
   have r1:=True.intro
   have w1:=True.intro
   have r2:=True.intro
   have w2:=True.intro
   have r3:=True.intro
   have w3:=True.intro
   have r4:=True.intro
   have w4:=True.intro
   have r5:=True.intro
   have w5:=True.intro
   have hn:Ci 8=Dv.getD (8 - 1) []:=Ce ⟨by decide,by decide⟩
   have hE:Bz ⟨key,8,day,ticket,coupon,status,locator,coupons,taxes,amount,frm,til⟩=[Ci 8,A6 ticket]:=by rw[hpar,hn];rfl
   rw[hE] at hjl hW
   (conv=>whnf)
   refine⟨(⟨key,8,day,ticket,coupon,status,locator,coupons,taxes,amount,frm,til⟩:Request),hp,?_,?_⟩
   ·exact Ac _
   (conv=>whnf)
   (repeat' ((first
    |(with_reducible refine Ar ?_)
    |(exact absurd (by with_reducible assumption) hex)
    |((with_reducible refine aI ?_ ?_);focus (first|with_reducible exact⟨⟩|omega|(simp only[Ap,ty2,ty3,ty4,ty5,ty9,Cu,Ck,Cv,Cl,Cq,Cw,Cx,Cy,Bm,Bl,Bn,Bo,Bp,Bq,Br];first|omega|(refine⟨?_,?_⟩<;>omega))))
    |(conv=>arg 2;(first|change eqI (Bj _ _) _|change decide (_+Ai _ _<_)|change ! (sB _));simp only[List.toList_toArray,Bh,r0,r1,r2,r3,r4,r5,w0,w1,w2,w3,w4,w5,Nat.zero_add,Nat.reduceAdd,List.length_cons,List.length_nil])
    |(split<;>rename_i hh<;>(try simp only[wS] at hh))
    |fail)<;>(conv=>whnf)))
   refine⟨⟨(nB rfl),fun e he=>?_⟩,?_⟩
   ·change e<2 at he
    rcases(by omega:e=0∨e=1) with rfl|rfl<;>rfl
   refine⟨(([Ci 8,A6 ticket],[32]):List (List UInt8) × List UInt8),⟨Nat.le_trans hjl ((nB rfl)),(nB rfl)⟩,?_,?_⟩
   ·(conv=>whnf)
    (repeat' ((first|with_reducible exact⟨⟩|((with_reducible refine aI ?_ ?_);focus (exact tA))|with_reducible refine iA ?_ ?_|fail)<;>(conv=>whnf)))
    all_goals (try simp only[wQ])
    refine⟨fun h=>h,fun e he=>?_⟩
    change e<2 at he
    rcases(by omega:e=0∨e=1) with rfl|rfl<;>rfl
   (conv=>whnf)
   all_goals (try (show _=_;simp only[wQ]))
   all_goals exact hW.symm
  ·have hpar:=Nu (r:=⟨key,9,day,ticket,coupon,status,locator,coupons,taxes,amount,frm,til⟩) rfl
   have hfac:=Kv (r:=⟨key,9,day,ticket,coupon,status,locator,coupons,taxes,amount,frm,til⟩) rfl hmay
   dsimp only at hpar hfac
   obtain⟨r0,w0⟩:=Au (l:=[76]) 0 (by decide) (by decide)
   have r1:=True.intro
   have w1:=True.intro
   have r2:=True.intro
   have w2:=True.intro
   have r3:=True.intro
   have w3:=True.intro
   have r4:=True.intro
   have w4:=True.intro
   have r5:=True.intro
   have w5:=True.intro
   have hn:Ci 9=Dv.getD (9 - 1) []:=Ce ⟨by decide,by decide⟩
   have hE:Bz ⟨key,9,day,ticket,coupon,status,locator,coupons,taxes,amount,frm,til⟩=[Ci 9,locator]:=by rw[hpar,hn];rfl
   rw[hE] at hjl hW
   (conv=>whnf)
   refine⟨(⟨key,9,day,ticket,coupon,status,locator,coupons,taxes,amount,frm,til⟩:Request),hp,?_,?_⟩
   ·exact Ac _
   (conv=>whnf)
   (repeat' ((first
    |(with_reducible refine Ar ?_)
    |(exact absurd (by with_reducible assumption) hex)
    |((with_reducible refine aI ?_ ?_);focus (first|with_reducible exact⟨⟩|omega|(simp only[Ap,ty2,ty3,ty4,ty5,ty9,Cu,Ck,Cv,Cl,Cq,Cw,Cx,Cy,Bm,Bl,Bn,Bo,Bp,Bq,Br];first|omega|(refine⟨?_,?_⟩<;>omega))))
    |(conv=>arg 2;(first|change eqI (Bj _ _) _|change decide (_+Ai _ _<_)|change ! (sB _));simp only[List.toList_toArray,Bh,r0,r1,r2,r3,r4,r5,w0,w1,w2,w3,w4,w5,Nat.zero_add,Nat.reduceAdd,List.length_cons,List.length_nil])
    |(split<;>rename_i hh<;>(try simp only[wS] at hh))
    |fail)<;>(conv=>whnf)))
   refine⟨⟨(nB rfl),fun e he=>?_⟩,?_⟩
   ·change e<2 at he
    rcases(by omega:e=0∨e=1) with rfl|rfl<;>rfl
   refine⟨(([Ci 9,locator],[32]):List (List UInt8) × List UInt8),⟨Nat.le_trans hjl ((nB rfl)),(nB rfl)⟩,?_,?_⟩
   ·(conv=>whnf)
    (repeat' ((first|with_reducible exact⟨⟩|((with_reducible refine aI ?_ ?_);focus (exact tA))|with_reducible refine iA ?_ ?_|fail)<;>(conv=>whnf)))
    all_goals (try simp only[wQ])
    refine⟨fun h=>h,fun e he=>?_⟩
    change e<2 at he
    rcases(by omega:e=0∨e=1) with rfl|rfl<;>rfl
   (conv=>whnf)
   all_goals (try (show _=_;simp only[wQ]))
   all_goals exact hW.symm
  ·have hpar:=Lg (r:=⟨key,10,day,ticket,coupon,status,locator,coupons,taxes,amount,frm,til⟩) rfl
   have hfac:=Oy (r:=⟨key,10,day,ticket,coupon,status,locator,coupons,taxes,amount,frm,til⟩) rfl hmay
   dsimp only at hpar hfac
   obtain⟨r0,w0⟩:=Au (l:=[70,85]) 0 (by decide) (by decide)
   obtain⟨r1,w1⟩:=Au (l:=[70,85]) 1 (by decide) (by decide)
   have r2:=True.intro
   have w2:=True.intro
   have r3:=True.intro
   have w3:=True.intro
   have r4:=True.intro
   have w4:=True.intro
   have r5:=True.intro
   have w5:=True.intro
   have hn:Ci 10=Dv.getD (10 - 1) []:=Ce ⟨by decide,by decide⟩
   have hE:Bz ⟨key,10,day,ticket,coupon,status,locator,coupons,taxes,amount,frm,til⟩=[Ci 10,Lib.itoa frm,Lib.itoa til]:=by rw[hpar,hn];rfl
   rw[hE] at hjl hW
   (conv=>whnf)
   refine⟨(⟨key,10,day,ticket,coupon,status,locator,coupons,taxes,amount,frm,til⟩:Request),hp,?_,?_⟩
   ·exact Ac _
   (conv=>whnf)
   (repeat' ((first
    |(with_reducible refine Ar ?_)
    |(exact absurd (by with_reducible assumption) hex)
    |((with_reducible refine aI ?_ ?_);focus (first|with_reducible exact⟨⟩|((with_reducible refine⟨?_,?_,?_⟩)<;>first|(intro e he;rcases(by omega:e=0∨e=1∨e=2∨e=3∨e=4∨e=5) with rfl|rfl|rfl|rfl|rfl|rfl<;>first|rfl|(exfalso;omega))|(with_reducible assumption)|omega|((with_reducible show Ap _ _);simp only[Ap,ty2,ty3,ty4,ty5,ty9,Cu,Ck,Cv,Cl,Cq,Cw,Cx,Cy,Bm,Bl,Bn,Bo,Bp,Bq,Br,List.length_cons,List.length_nil];first|omega|(refine⟨?_,?_⟩<;>omega)))|omega|(simp only[Ap,ty2,ty3,ty4,ty5,ty9,Cu,Ck,Cv,Cl,Cq,Cw,Cx,Cy,Bm,Bl,Bn,Bo,Bp,Bq,Br];first|omega|(refine⟨?_,?_⟩<;>omega))))
    |(conv=>arg 2;(first|change eqI (Bj _ _) _|change decide (_+Ai _ _<_)|change ! (sB _));simp only[List.toList_toArray,Bh,r0,r1,r2,r3,r4,r5,w0,w1,w2,w3,w4,w5,Nat.zero_add,Nat.reduceAdd,List.length_cons,List.length_nil])
    |(split<;>rename_i hh<;>(try simp only[wS] at hh))
    |fail)<;>(conv=>whnf)))
   refine⟨⟨(nB rfl),fun e he=>?_⟩,?_⟩
   ·change e<3 at he
    rcases(by omega:e=0∨e=1∨e=2) with rfl|rfl|rfl<;>rfl
   refine⟨(([Ci 10,Lib.itoa frm,Lib.itoa til],[32]):List (List UInt8) × List UInt8),⟨Nat.le_trans hjl ((nB rfl)),(nB rfl)⟩,?_,?_⟩
   ·(conv=>whnf)
    (repeat' ((first|with_reducible exact⟨⟩|((with_reducible refine aI ?_ ?_);focus (exact tA))|with_reducible refine iA ?_ ?_|fail)<;>(conv=>whnf)))
    all_goals (try simp only[wQ])
    refine⟨fun h=>h,fun e he=>?_⟩
    change e<3 at he
    rcases(by omega:e=0∨e=1∨e=2) with rfl|rfl|rfl<;>rfl
   (conv=>whnf)
   all_goals (try (show _=_;simp only[wQ]))
   all_goals exact hW.symm
 ·have hm:Af ⟨key,kind,day,ticket,coupon,status,locator,coupons,taxes,amount,frm,til⟩=false:=by simpa using hmay
  have hex: ¬Af ⟨key,kind,day,ticket,coupon,status,locator,coupons,taxes,amount,frm,til⟩=true:=hmay
  clear hf
  (conv=>whnf)
  refine⟨(⟨key,kind,day,ticket,coupon,status,locator,coupons,taxes,amount,frm,til⟩:Request),hp,?_,?_⟩
  ·exact Ac _
  (conv=>whnf)
  (repeat' ((first
   |(with_reducible refine Ar ?_)
   |(exact absurd (by with_reducible assumption) hex)
   |(split<;>rename_i hh<;>(try simp only[wS] at hh))
   |fail)<;>(conv=>whnf)))
  all_goals (try (show _=_;simp only[wQ]))
  rw[Aom hm]
end
end Go.Vc.Z
