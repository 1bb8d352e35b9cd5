/- script.RequestLine: the line of a request, the program's. -/
import Derived.Test.YtpmpclbdnakniaaGreatDoorV25
import Derived.Test.YtpmpclbdnakniaaGreatDoorV17
set_option linter.all false
set_option linter.unusedVariables false
set_option linter.unusedSimpArgs false
namespace Go.Vc.Z
open Go Go.Vc Go.Proofs Go.RowKit Go.Pl Go.Lib
noncomputable section
set_option maxRecDepth 100000
attribute [local irreducible] inK Utf8.decode Utf8.encode Lib.itoa Pl.worth Pl.allDig
attribute [local irreducible] Lib.join
theorem zQ{l:List Coupon}{r:List AV}(h:Ax (slE 6 Coupon.enc l::r)):∀ s ∈ l.map Bv,s.length≤200:=by
 intro s hs
 obtain⟨c,hc,rfl⟩:=List.mem_map.1 hs
 exact Tc (l:=l) (by simp only[Ax] at h ⊢;exact⟨h.1,trivial⟩) c hc
def Aoa(l:List Coupon):LoopSpec:={
 α:=Nat × List (List UInt8)
 keep:=[1,5,8,9,10]
 vals x:=[.fn 129 [],Aw8 0 x.2,slE 6 Coupon.enc l,.int .i64 l.length,.int .i64 x.1]
 heap x:=[Aw7 x.2]
 ok x:=x.1≤l.length∧x.2=(l.take x.1).map Bv
 μ x:=l.length - x.1 }
def vJ:PC:=PC.of (fun l:List Coupon=>[slE 6 Coupon.enc l,.fn 129 []]) (fun l=>0<l.length∧l.length≤1000000) (fun l=>.str (sS (Lib.join (l.map Bv) [44])))
def aE:PT:=C2 [(62,Qv),(129,Zy)]
theorem vK{W:World}(hW:Tabs W):Cl (Fw W) Tryz.prog aE:=(Ab Tryz.call62 (Mg hW) (Ab Tryz.call129 (Rl hW) As))
def aF:FuncId→Option Ctr:=Aw aE []
theorem Aky{W:World}(hW:Tabs W):Ad (Fw W) Tryz.prog aF:=(Au (vK hW))
def Akz:List Coupon→Nat→Option LR:=fun l i=>cond (Nat.beq i 3) (some (.inv (Aoa l))) (none)
set_option maxHeartbeats 2000000 in
theorem Ak0{W:World}(hW:Tabs W):GoodP (Fw W) Tryz.prog 56 vJ:=by
 have hD:=vK hW
 have hC0:∀ l:List Coupon,Ad (Fw W) Tryz.prog aF:=fun l=>(Aky hW)
 refine Ar (D:=aE) (C:=fun l=>aF) (wr:=(fun _=>false)) rfl Ap hD hC0 Tryz.func56 (Akz) (fun _=>rfl) ?_
 intro l hf hp
 obtain⟨hp0,hp1⟩:=hp
 have hw:∀ s ∈ l.map Bv,s.length≤200:=(zQ hf)
 clear hf
 (conv=>whnf)
 (repeat' ((first
  |with_reducible refine lnI fun hln=>?_
  |fail)<;>(conv=>whnf)))
 refine⟨?_,fun(x:Nat × List (List UInt8)) hx=>?_⟩
 ·(conv=>whnf)
  refine⟨((0,[]):Nat × List (List UInt8)),[],?_,⟨⟨rfl,(nB rfl),rfl⟩,?_,?_⟩⟩
  ·exact⟨Nat.zero_le _,rfl⟩
  ·exact Ac _
  ·exact tL
 ·obtain⟨i,L⟩:=x
  obtain⟨h1,h2⟩:=hx
  change i≤l.length at h1
  change L=(l.take i).map Bv at h2
  have hlen:L.length=i:=by rw[h2];simp;omega
  have hstep:i<l.length→L++[Bv (l.getD (Int.toNat (i:Int)) default)]=(l.take (i+1)).map Bv:=fun h=>by
   rw[h2,List.take_add_one,List.map_append,List.getElem?_eq_getElem h]
   have:l.getD (Int.toNat (i:Int)) default=l[i]:=by
    rw[show Int.toNat (i:Int)=i from rfl,List.getD_eq_getElem?_getD,List.getElem?_eq_getElem h];rfl
   rw[this];rfl
  rcases L with _|⟨s,L⟩
  ·have hi:i=0:=by simpa using hlen.symm
   subst hi
   (conv=>whnf)
   (repeat' ((first
    |((with_reducible refine aI ?_ ?_);focus (first|with_reducible exact⟨⟩|omega|exact tK|(simp only[Aq,ty2,ty3,ty4,ty5,ty9,Cw,Co,Cx,Cp,Cu,Cy,Cv,Cz,Bm,Bj,Bn,Bi,Bo,Bp,Bq];first|omega|(refine⟨?_,?_⟩<;>omega))))
    |(split<;>rename_i hh<;>(try simp only[wS] at hh))
    |fail)<;>(conv=>whnf)))
   ·(conv=>whnf)
    refine⟨((1,[Bv (l.getD (Int.toNat ((0:Nat):Int)) default)]):Nat × List (List UInt8)),[3],?_,⟨⟨rfl,(nB rfl),rfl⟩,?_,?_⟩⟩
    ·exact⟨⟨show 1≤l.length by omega,hstep (by omega)⟩,show l.length - 1<l.length - 0 by omega⟩
    ·exact tL
    ·(conv=>whnf)
     (repeat' ((first|with_reducible exact⟨⟩|((with_reducible refine aI ?_ ?_);focus (exact tA))|with_reducible refine iB ?_ ?_|fail)<;>(conv=>whnf)))
     all_goals (try simp only[wQ])
     intro e he
     have he:e<1:=he
     obtain rfl:e=0:=by omega
     exact⟨rfl,rfl⟩
   ·exfalso;omega
  ·have hlen2:L.length+1=i:=hlen
   (conv=>whnf)
   (repeat' ((first
    |((with_reducible refine aI ?_ ?_);focus (first|with_reducible exact⟨⟩|((with_reducible refine⟨?_,?_,?_⟩)<;>first|(intro e he;rcases(by omega:e=0∨e=1∨e=2∨e=3∨e=4∨e=5) with rfl|rfl|rfl|rfl|rfl|rfl<;>first|rfl|(exfalso;omega))|(with_reducible assumption)|omega|((with_reducible show Aq _ _);simp only[Aq,ty2,ty3,ty4,ty5,ty9,Cw,Co,Cx,Cp,Cu,Cy,Cv,Cz,Bm,Bj,Bn,Bi,Bo,Bp,Bq,List.length_cons,List.length_nil];first|omega|(refine⟨?_,?_⟩<;>omega)))|omega|exact tK))
    |(split<;>rename_i hh<;>(try simp only[wS] at hh))
    |fail)<;>(conv=>whnf)))
   ·(conv=>whnf)
    refine⟨((i+1,s::L++[Bv (l.getD (Int.toNat (i:Int)) default)]):Nat × List (List UInt8)),[3],?_,⟨⟨rfl,(nB rfl),rfl⟩,?_,?_⟩⟩
    ·exact⟨⟨show i+1≤l.length by omega,hstep (by omega)⟩,show l.length - (i+1)<l.length - i by omega⟩
    ·exact tL
    ·(conv=>whnf)
     (repeat' ((first|with_reducible exact⟨⟩|((with_reducible refine aI ?_ ?_);focus (exact tA))|with_reducible refine iB ?_ ?_|fail)<;>(conv=>whnf)))
     all_goals (try simp only[wQ])
     exact⟨by simp,fun e he=>⟨Xn (l:=s::L) rfl (fun _ _=>rfl) rfl (by simpa using he),rfl⟩⟩
   ·have hi:i=l.length:=by omega
    rw[hi,List.take_length] at h2
    refine⟨⟨by omega,fun e he=>rfl⟩,?_⟩
    refine⟨((s::L,[44]):List (List UInt8) × List UInt8),⟨by have:=K0 [44] 200 (s::L) (by rw[h2];exact hw);simp at this;show(Lib.join (s::L) [44]).length≤_;omega,by show(s::L).length≤_;simp;omega⟩,?_,?_⟩
    ·exact tL
    (conv=>whnf)
    all_goals (try (show _=_;simp only[wQ]))
    rw[h2]
theorem jQ{l:List Tax}(h:De l=true):l.length≤4:=by
 unfold De at h;simp only[Bool.and_eq_true,decide_eq_true_eq] at h;exact h.2
theorem Av{l:List UInt8}(i:Nat)(h:i<l.length)(hb:(l.getD i 0).toNat<128):Bg l i=((l.getD i 0).toNat:Int)∧Ai l i=1:=by
 rcases D4 h with ⟨h6,h7,h8⟩|⟨h6,h7⟩
 ·exact⟨h6,h7⟩
 ·omega
def Ul:PC:=PC.of (fun r:Request=>[.agg r.enc]) D5 (fun r=>.str (sS (Bu r)))
def Bf:PT:=C2 [(46,Kz),(54,Ahf),(56,vJ),(58,Abt),(61,Xl),(62,Qv),(71,jP),(73,gY),(129,Zy),(132,zH)]
theorem Dc{W:World}(hW:Tabs W):Cl (Fw W) Tryz.prog Bf:=(Ab Tryz.call46 (Ep hW) (Ab Tryz.call54 (oC hW) (Ab Tryz.call56 (Ak0 hW) (Ab Tryz.call58 (gH hW) (Ab Tryz.call61 (cU hW) (Ab Tryz.call62 (Mg hW) (Ab Tryz.call71 (Yf hW) (Ab Tryz.call73 (Ja hW) (Ab Tryz.call129 (Rl hW) (Ab Tryz.call132 (Ahp hW) As))))))))))
def vL:FuncId→Option Ctr:=Aw Bf []
theorem vM{W:World}(hW:Tabs W):Ad (Fw W) Tryz.prog vL:=(Au (Dc hW))
def jR:List (FuncId × Ctr):=(74,inl TY vL Bf (fun _=>false) (fun _ _ _=>none) Tryz.f74)::[]
def jS:FuncId→Option Ctr:=Aw Bf jR
theorem jT{W:World}(hW:Tabs W):Ad (Fw W) Tryz.prog jS:=Ae Tryz.call74 (Ag rfl Ap (Dc hW) (vM hW) Tryz.func74 (fun _ _ _=>none)) (vM hW)
def jU:List (FuncId × Ctr):=(144,inl TY jS Bf (fun _=>false) (fun _ _ _=>none) Tryz.f144)::jR
def jV:FuncId→Option Ctr:=Aw Bf jU
theorem jY{W:World}(hW:Tabs W):Ad (Fw W) Tryz.prog jV:=Ae Tryz.call144 (Ag rfl Ap (Dc hW) (jT hW) Tryz.func144 (fun _ _ _=>none)) (jT hW)
def jZ:List (FuncId × Ctr):=(145,inl TY jV Bf (fun _=>false) (fun _ _ _=>none) Tryz.f145)::jU
def kA:FuncId→Option Ctr:=Aw Bf jZ
theorem kB{W:World}(hW:Tabs W):Ad (Fw W) Tryz.prog kA:=Ae Tryz.call145 (Ag rfl Ap (Dc hW) (jY hW) Tryz.func145 (fun _ _ _=>none)) (jY hW)
def kC:List (FuncId × Ctr):=(147,inl TY kA Bf (fun _=>false) (fun _ _ _=>none) Tryz.f147)::jZ
def kD:FuncId→Option Ctr:=Aw Bf kC
theorem kE{W:World}(hW:Tabs W):Ad (Fw W) Tryz.prog kD:=Ae Tryz.call147 (Ag rfl Ap (Dc hW) (kB hW) Tryz.func147 (fun _ _ _=>none)) (kB hW)
def kF:List (FuncId × Ctr):=(148,inl TY kD Bf (fun _=>false) (fun _ _ _=>none) Tryz.f148)::kC
def kG:FuncId→Option Ctr:=Aw Bf kF
theorem kH{W:World}(hW:Tabs W):Ad (Fw W) Tryz.prog kG:=Ae Tryz.call148 (Ag rfl Ap (Dc hW) (kE hW) Tryz.func148 (fun _ _ _=>none)) (kE hW)
def kI:List (FuncId × Ctr):=(149,inl TY kG Bf (fun _=>false) (fun _ _ _=>none) Tryz.f149)::kF
def kJ:FuncId→Option Ctr:=Aw Bf kI
theorem kK{W:World}(hW:Tabs W):Ad (Fw W) Tryz.prog kJ:=Ae Tryz.call149 (Ag rfl Ap (Dc hW) (kH hW) Tryz.func149 (fun _ _ _=>none)) (kH hW)
def kL:List (FuncId × Ctr):=(150,inl TY kJ Bf (fun _=>false) (fun _ _ _=>none) Tryz.f150)::kI
def kM:FuncId→Option Ctr:=Aw Bf kL
theorem kN{W:World}(hW:Tabs W):Ad (Fw W) Tryz.prog kM:=Ae Tryz.call150 (Ag rfl Ap (Dc hW) (kK hW) Tryz.func150 (fun _ _ _=>none)) (kK hW)
def kO:List (FuncId × Ctr):=(151,inl TY kM Bf (fun _=>false) (fun _ _ _=>none) Tryz.f151)::kL
def kP:FuncId→Option Ctr:=Aw Bf kO
theorem kQ{W:World}(hW:Tabs W):Ad (Fw W) Tryz.prog kP:=Ae Tryz.call151 (Ag rfl Ap (Dc hW) (kN hW) Tryz.func151 (fun _ _ _=>none)) (kN hW)
def kR:List (FuncId × Ctr):=(154,inl TY kP Bf (fun _=>false) (fun _ _ _=>none) Tryz.f154)::kO
def kS:FuncId→Option Ctr:=Aw Bf kR
theorem kT{W:World}(hW:Tabs W):Ad (Fw W) Tryz.prog kS:=Ae Tryz.call154 (Ag rfl Ap (Dc hW) (kQ hW) Tryz.func154 (fun _ _ _=>none)) (kQ hW)
def bO:List (FuncId × Ctr):=(157,inl TY kS Bf (fun _=>false) (fun _ _ _=>none) Tryz.f157)::kR
def bP:FuncId→Option Ctr:=Aw Bf bO
theorem bQ{W:World}(hW:Tabs W):Ad (Fw W) Tryz.prog bP:=Ae Tryz.call157 (Ag rfl Ap (Dc hW) (kT hW) Tryz.func157 (fun _ _ _=>none)) (kT hW)
def bR:List (FuncId × Ctr):=(160,inl TY bP Bf (fun _=>false) (fun _ _ _=>none) Tryz.f160)::bO
def bS:FuncId→Option Ctr:=Aw Bf bR
theorem bT{W:World}(hW:Tabs W):Ad (Fw W) Tryz.prog bS:=Ae Tryz.call160 (Ag rfl Ap (Dc hW) (bQ hW) Tryz.func160 (fun _ _ _=>none)) (bQ hW)
def bU:List (FuncId × Ctr):=(162,inl TY bS Bf (fun _=>false) (fun _ _ _=>none) Tryz.f162)::bR
def bV:FuncId→Option Ctr:=Aw Bf bU
theorem bW{W:World}(hW:Tabs W):Ad (Fw W) Tryz.prog bV:=Ae Tryz.call162 (Ag rfl Ap (Dc hW) (bT hW) Tryz.func162 (fun _ _ _=>none)) (bT hW)
def bX:List (FuncId × Ctr):=(216,inl TY bV Bf (fun _=>false) (fun _ _ _=>none) Tryz.f216)::bU
def bY:FuncId→Option Ctr:=Aw Bf bX
theorem bZ{W:World}(hW:Tabs W):Ad (Fw W) Tryz.prog bY:=Ae Tryz.call216 (Ag rfl Ap (Dc hW) (bW hW) Tryz.func216 (fun _ _ _=>none)) (bW hW)
def cA:List (FuncId × Ctr):=(218,inl TY bY Bf (fun _=>false) (fun _ _ _=>none) Tryz.f218)::bX
def cB:FuncId→Option Ctr:=Aw Bf cA
theorem cC{W:World}(hW:Tabs W):Ad (Fw W) Tryz.prog cB:=Ae Tryz.call218 (Ag rfl Ap (Dc hW) (bZ hW) Tryz.func218 (fun _ _ _=>none)) (bZ hW)
def cD:List (FuncId × Ctr):=(143,inl TY cB Bf (fun _=>false) (fun _ _ _=>none) Tryz.f143)::cA
def cE:FuncId→Option Ctr:=Aw Bf cD
theorem cF{W:World}(hW:Tabs W):Ad (Fw W) Tryz.prog cE:=Ae Tryz.call143 (Ag rfl Ap (Dc hW) (cC hW) Tryz.func143 (fun _ _ _=>none)) (cC hW)
def cG:List (FuncId × Ctr):=(146,inl TY cE Bf (fun _=>false) (fun _ _ _=>none) Tryz.f146)::cD
def cH:FuncId→Option Ctr:=Aw Bf cG
theorem cI{W:World}(hW:Tabs W):Ad (Fw W) Tryz.prog cH:=Ae Tryz.call146 (Ag rfl Ap (Dc hW) (cF hW) Tryz.func146 (fun _ _ _=>none)) (cF hW)
def Ad4:List (FuncId × Ctr):=(72,inl TY cH Bf (fun _=>false) (fun _ _ _=>none) Tryz.f72)::cG
def Ti:FuncId→Option Ctr:=Aw Bf Ad4
theorem Ad5{W:World}(hW:Tabs W):Ad (Fw W) Tryz.prog Ti:=Ae Tryz.call72 (Ag rfl Ap (Dc hW) (cI hW) Tryz.func72 (fun _ _ _=>none)) (cI hW)
def Ak1:Request→Nat→Option LR:=fun r i=>cond (Nat.beq i 6) (some (.unroll 7)) (none)
set_option maxHeartbeats 4000000 in
theorem aG{W:World}(hW:Tabs W):GoodP (Fw W) Tryz.prog 24 Ul:=by
 have hD:=Dc hW
 have hC0:∀ r:Request,Ad (Fw W) Tryz.prog Ti:=fun r=>(Ad5 hW)
 refine Ar (D:=Bf) (C:=fun r=>Ti) (wr:=(fun _=>false)) rfl Ap hD hC0 Tryz.func24 (Ak1) (fun _=>rfl) ?_
 rintro⟨key,kind,day,ticket,coupon,status,locator,coupons,taxes,amount,frm,til⟩ hf hp
 by_cases hmay:Ah ⟨key,kind,day,ticket,coupon,status,locator,coupons,taxes,amount,frm,til⟩=true
 ·have hex: ¬Ah ⟨key,kind,day,ticket,coupon,status,locator,coupons,taxes,amount,frm,til⟩=false:=by rw[hmay];simp
  have hjl:=Acg hmay hf
  have hW:Bu ⟨key,kind,day,ticket,coupon,status,locator,coupons,taxes,amount,frm,til⟩=Lib.join (Br ⟨key,kind,day,ticket,coupon,status,locator,coupons,taxes,amount,frm,til⟩) [32]:=by unfold Bu;rw[if_pos hmay]
  simp only[Ax,Bh,Am,Go.Vc.lo,Go.Vc.hi,and_true] at hf
  rcases F5 hmay with k|k|k|k|k|k|k|k|k|k
  all_goals (
   have k':kind=_:=k
   subst k'
   clear k)
  ·have hpar:=Ke (r:=⟨key,1,day,ticket,coupon,status,locator,coupons,taxes,amount,frm,til⟩) rfl
   have hfac:=H9 (r:=⟨key,1,day,ticket,coupon,status,locator,coupons,taxes,amount,frm,til⟩) rfl hmay
   dsimp only at hpar hfac
   obtain⟨r0,w0⟩:=Av (l:=[75,68,76,67,88]) 0 (by decide) (by decide)
   obtain⟨r1,w1⟩:=Av (l:=[75,68,76,67,88]) 1 (by decide) (by decide)
   obtain⟨r2,w2⟩:=Av (l:=[75,68,76,67,88]) 2 (by decide) (by decide)
   obtain⟨r3,w3⟩:=Av (l:=[75,68,76,67,88]) 3 (by decide) (by decide)
   obtain⟨r4,w4⟩:=Av (l:=[75,68,76,67,88]) 4 (by decide) (by decide)
   have r5:=True.intro
   have w5:=True.intro
   have hn:Ck 1=D2.getD (1 - 1) []:=Ci ⟨by decide,by decide⟩
   have hfl:Cf coupons=Lib.join (coupons.map Bv) [44]:=by unfold Cf;rfl
   have hE:Br ⟨key,1,day,ticket,coupon,status,locator,coupons,taxes,amount,frm,til⟩=[Ck 1,key,Lib.itoa day,locator,Lib.join (coupons.map Bv) [44],B7 taxes]:=by rw[hpar,hn,hfl];rfl
   rw[hE] at hjl hW
   have hc1:0<coupons.length∧coupons.length≤1000000:=by have:=Ev hfac.2.2.2.1;omega
   have hx1:taxes.length≤1000000:=by have:=jQ hfac.2.2.2.2;omega
   (conv=>whnf)
   refine⟨(⟨key,1,day,ticket,coupon,status,locator,coupons,taxes,amount,frm,til⟩:Request),hp,?_,?_⟩
   ·exact Ac _
   (conv=>whnf)
   (repeat' ((first
    |(with_reducible refine Ao ?_)
    |(exact absurd (by with_reducible assumption) hex)
    |((with_reducible refine aI ?_ ?_);focus (first|with_reducible exact⟨⟩|((with_reducible refine⟨?_,?_,?_⟩)<;>first|(intro e he;rcases(by omega:e=0∨e=1∨e=2∨e=3∨e=4∨e=5) with rfl|rfl|rfl|rfl|rfl|rfl<;>first|rfl|(exfalso;omega))|(with_reducible assumption)|omega|((with_reducible show Aq _ _);simp only[Aq,ty2,ty3,ty4,ty5,ty9,Cw,Co,Cx,Cp,Cu,Cy,Cv,Cz,Bm,Bj,Bn,Bi,Bo,Bp,Bq,List.length_cons,List.length_nil];first|omega|(refine⟨?_,?_⟩<;>omega)))|omega|(simp only[Aq,ty2,ty3,ty4,ty5,ty9,Cw,Co,Cx,Cp,Cu,Cy,Cv,Cz,Bm,Bj,Bn,Bi,Bo,Bp,Bq];first|omega|(refine⟨?_,?_⟩<;>omega))))
    |(conv=>arg 2;(first|change eqI (Bg _ _) _|change decide (_+Ai _ _<_)|change ! (sB _));simp only[List.toList_toArray,Bd,r0,r1,r2,r3,r4,r5,w0,w1,w2,w3,w4,w5,Nat.zero_add,Nat.reduceAdd,List.length_cons,List.length_nil])
    |(split<;>rename_i hh<;>(try simp only[wS] at hh))
    |fail)<;>(conv=>whnf)))
   refine⟨coupons,hc1,?_,?_⟩
   ·exact Ac _
   (conv=>whnf)
   (repeat' ((first
    |(with_reducible refine Ao ?_)
    |((with_reducible refine aI ?_ ?_);focus (first|((with_reducible refine⟨?_,?_,?_⟩)<;>first|(intro e he;rcases(by omega:e=0∨e=1∨e=2∨e=3∨e=4∨e=5) with rfl|rfl|rfl|rfl|rfl|rfl<;>first|rfl|(exfalso;omega))|(with_reducible assumption)|omega|((with_reducible show Aq _ _);simp only[Aq,ty2,ty3,ty4,ty5,ty9,Cw,Co,Cx,Cp,Cu,Cy,Cv,Cz,Bm,Bj,Bn,Bi,Bo,Bp,Bq,List.length_cons,List.length_nil];first|omega|(refine⟨?_,?_⟩<;>omega)))|omega))
    |(conv=>arg 2;(first|change eqI (Bg _ _) _|change decide (_+Ai _ _<_));simp only[List.toList_toArray,Bd,r0,r1,r2,r3,r4,r5,w0,w1,w2,w3,w4,w5,Nat.zero_add,Nat.reduceAdd,List.length_cons,List.length_nil])
    |fail)<;>(conv=>whnf)))
   refine⟨taxes,hx1,?_,?_⟩
   ·exact Ac _
   (conv=>whnf)
   (repeat' ((first
    |((with_reducible refine aI ?_ ?_);focus (first|((with_reducible refine⟨?_,?_,?_⟩)<;>first|(intro e he;rcases(by omega:e=0∨e=1∨e=2∨e=3∨e=4∨e=5) with rfl|rfl|rfl|rfl|rfl|rfl<;>first|rfl|(exfalso;omega))|(with_reducible assumption)|omega|((with_reducible show Aq _ _);simp only[Aq,ty2,ty3,ty4,ty5,ty9,Cw,Co,Cx,Cp,Cu,Cy,Cv,Cz,Bm,Bj,Bn,Bi,Bo,Bp,Bq,List.length_cons,List.length_nil];first|omega|(refine⟨?_,?_⟩<;>omega)))|omega))
    |(conv=>arg 2;change decide (_+Ai _ _<_);simp only[List.toList_toArray,Bd,r0,r1,r2,r3,r4,r5,w0,w1,w2,w3,w4,w5,Nat.zero_add,Nat.reduceAdd,List.length_cons,List.length_nil])
    |fail)<;>(conv=>whnf)))
   refine⟨⟨(nB rfl),fun e he=>?_⟩,?_⟩
   ·change e<6 at he
    rcases(by omega:e=0∨e=1∨e=2∨e=3∨e=4∨e=5) with rfl|rfl|rfl|rfl|rfl|rfl<;>rfl
   refine⟨(([Ck 1,key,Lib.itoa day,locator,Lib.join (coupons.map Bv) [44],B7 taxes],[32]):List (List UInt8) × List UInt8),⟨Nat.le_trans hjl ((nB rfl)),(nB rfl)⟩,?_,?_⟩
   ·(conv=>whnf)
    (repeat' ((first|with_reducible exact⟨⟩|((with_reducible refine aI ?_ ?_);focus (exact tA))|with_reducible refine iA ?_ ?_|fail)<;>(conv=>whnf)))
    all_goals (try simp only[wQ])
    refine⟨fun h=>h,fun e he=>?_⟩
    change e<6 at he
    rcases(by omega:e=0∨e=1∨e=2∨e=3∨e=4∨e=5) with rfl|rfl|rfl|rfl|rfl|rfl<;>rfl
   (conv=>whnf)
   all_goals (try (show _=_;simp only[wQ]))
   all_goals exact hW.symm
  ·have hpar:=Kg (r:=⟨key,2,day,ticket,coupon,status,locator,coupons,taxes,amount,frm,til⟩) rfl
   have hfac:=Kf (r:=⟨key,2,day,ticket,coupon,status,locator,coupons,taxes,amount,frm,til⟩) rfl hmay
   dsimp only at hpar hfac
   obtain⟨r0,w0⟩:=Av (l:=[75,68,84,78,83]) 0 (by decide) (by decide)
   obtain⟨r1,w1⟩:=Av (l:=[75,68,84,78,83]) 1 (by decide) (by decide)
   obtain⟨r2,w2⟩:=Av (l:=[75,68,84,78,83]) 2 (by decide) (by decide)
   obtain⟨r3,w3⟩:=Av (l:=[75,68,84,78,83]) 3 (by decide) (by decide)
   obtain⟨r4,w4⟩:=Av (l:=[75,68,84,78,83]) 4 (by decide) (by decide)
   have r5:=True.intro
   have w5:=True.intro
   have hn:Ck 2=D2.getD (2 - 1) []:=Ci ⟨by decide,by decide⟩
   have hE:Br ⟨key,2,day,ticket,coupon,status,locator,coupons,taxes,amount,frm,til⟩=[Ck 2,key,Lib.itoa day,A7 ticket,Lib.itoa coupon,Dg status]:=by rw[hpar,hn];rfl
   rw[hE] at hjl hW
   (conv=>whnf)
   refine⟨(⟨key,2,day,ticket,coupon,status,locator,coupons,taxes,amount,frm,til⟩:Request),hp,?_,?_⟩
   ·exact Ac _
   (conv=>whnf)
   (repeat' ((first
    |(with_reducible refine Ao ?_)
    |(exact absurd (by with_reducible assumption) hex)
    |((with_reducible refine aI ?_ ?_);focus (first|with_reducible exact⟨⟩|((with_reducible refine⟨?_,?_,?_⟩)<;>first|(intro e he;rcases(by omega:e=0∨e=1∨e=2∨e=3∨e=4∨e=5) with rfl|rfl|rfl|rfl|rfl|rfl<;>first|rfl|(exfalso;omega))|(with_reducible assumption)|omega|((with_reducible show Aq _ _);simp only[Aq,ty2,ty3,ty4,ty5,ty9,Cw,Co,Cx,Cp,Cu,Cy,Cv,Cz,Bm,Bj,Bn,Bi,Bo,Bp,Bq,List.length_cons,List.length_nil];first|omega|(refine⟨?_,?_⟩<;>omega)))|omega|(simp only[Aq,ty2,ty3,ty4,ty5,ty9,Cw,Co,Cx,Cp,Cu,Cy,Cv,Cz,Bm,Bj,Bn,Bi,Bo,Bp,Bq];first|omega|(refine⟨?_,?_⟩<;>omega))))
    |(conv=>arg 2;(first|change eqI (Bg _ _) _|change decide (_+Ai _ _<_)|change ! (sB _));simp only[List.toList_toArray,Bd,r0,r1,r2,r3,r4,r5,w0,w1,w2,w3,w4,w5,Nat.zero_add,Nat.reduceAdd,List.length_cons,List.length_nil])
    |(split<;>rename_i hh<;>(try simp only[wS] at hh))
    |fail)<;>(conv=>whnf)))
   refine⟨⟨(nB rfl),fun e he=>?_⟩,?_⟩
   ·change e<6 at he
    rcases(by omega:e=0∨e=1∨e=2∨e=3∨e=4∨e=5) with rfl|rfl|rfl|rfl|rfl|rfl<;>rfl
   refine⟨(([Ck 2,key,Lib.itoa day,A7 ticket,Lib.itoa coupon,Dg status],[32]):List (List UInt8) × List UInt8),⟨Nat.le_trans hjl ((nB rfl)),(nB rfl)⟩,?_,?_⟩
   ·(conv=>whnf)
    (repeat' ((first|with_reducible exact⟨⟩|((with_reducible refine aI ?_ ?_);focus (exact tA))|with_reducible refine iA ?_ ?_|fail)<;>(conv=>whnf)))
    all_goals (try simp only[wQ])
    refine⟨fun h=>h,fun e he=>?_⟩
    change e<6 at he
    rcases(by omega:e=0∨e=1∨e=2∨e=3∨e=4∨e=5) with rfl|rfl|rfl|rfl|rfl|rfl<;>rfl
   (conv=>whnf)
   all_goals (try (show _=_;simp only[wQ]))
   all_goals exact hW.symm
  ·have hpar:=Ki (r:=⟨key,3,day,ticket,coupon,status,locator,coupons,taxes,amount,frm,til⟩) rfl
   have hfac:=Kh (r:=⟨key,3,day,ticket,coupon,status,locator,coupons,taxes,amount,frm,til⟩) rfl hmay
   dsimp only at hpar hfac
   obtain⟨r0,w0⟩:=Av (l:=[75,68,84]) 0 (by decide) (by decide)
   obtain⟨r1,w1⟩:=Av (l:=[75,68,84]) 1 (by decide) (by decide)
   obtain⟨r2,w2⟩:=Av (l:=[75,68,84]) 2 (by decide) (by decide)
   have r3:=True.intro
   have w3:=True.intro
   have r4:=True.intro
   have w4:=True.intro
   have r5:=True.intro
   have w5:=True.intro
   have hn:Ck 3=D2.getD (3 - 1) []:=Ci ⟨by decide,by decide⟩
   have hE:Br ⟨key,3,day,ticket,coupon,status,locator,coupons,taxes,amount,frm,til⟩=[Ck 3,key,Lib.itoa day,A7 ticket]:=by rw[hpar,hn];rfl
   rw[hE] at hjl hW
   (conv=>whnf)
   refine⟨(⟨key,3,day,ticket,coupon,status,locator,coupons,taxes,amount,frm,til⟩:Request),hp,?_,?_⟩
   ·exact Ac _
   (conv=>whnf)
   (repeat' ((first
    |(with_reducible refine Ao ?_)
    |(exact absurd (by with_reducible assumption) hex)
    |((with_reducible refine aI ?_ ?_);focus (first|with_reducible exact⟨⟩|((with_reducible refine⟨?_,?_,?_⟩)<;>first|(intro e he;rcases(by omega:e=0∨e=1∨e=2∨e=3∨e=4∨e=5) with rfl|rfl|rfl|rfl|rfl|rfl<;>first|rfl|(exfalso;omega))|(with_reducible assumption)|omega|((with_reducible show Aq _ _);simp only[Aq,ty2,ty3,ty4,ty5,ty9,Cw,Co,Cx,Cp,Cu,Cy,Cv,Cz,Bm,Bj,Bn,Bi,Bo,Bp,Bq,List.length_cons,List.length_nil];first|omega|(refine⟨?_,?_⟩<;>omega)))|omega|(simp only[Aq,ty2,ty3,ty4,ty5,ty9,Cw,Co,Cx,Cp,Cu,Cy,Cv,Cz,Bm,Bj,Bn,Bi,Bo,Bp,Bq];first|omega|(refine⟨?_,?_⟩<;>omega))))
    |(conv=>arg 2;(first|change eqI (Bg _ _) _|change decide (_+Ai _ _<_)|change ! (sB _));simp only[List.toList_toArray,Bd,r0,r1,r2,r3,r4,r5,w0,w1,w2,w3,w4,w5,Nat.zero_add,Nat.reduceAdd,List.length_cons,List.length_nil])
    |(split<;>rename_i hh<;>(try simp only[wS] at hh))
    |fail)<;>(conv=>whnf)))
   refine⟨⟨(nB rfl),fun e he=>?_⟩,?_⟩
   ·change e<4 at he
    rcases(by omega:e=0∨e=1∨e=2∨e=3) with rfl|rfl|rfl|rfl<;>rfl
   refine⟨(([Ck 3,key,Lib.itoa day,A7 ticket],[32]):List (List UInt8) × List UInt8),⟨Nat.le_trans hjl ((nB rfl)),(nB rfl)⟩,?_,?_⟩
   ·(conv=>whnf)
    (repeat' ((first|with_reducible exact⟨⟩|((with_reducible refine aI ?_ ?_);focus (exact tA))|with_reducible refine iA ?_ ?_|fail)<;>(conv=>whnf)))
    all_goals (try simp only[wQ])
    refine⟨fun h=>h,fun e he=>?_⟩
    change e<4 at he
    rcases(by omega:e=0∨e=1∨e=2∨e=3) with rfl|rfl|rfl|rfl<;>rfl
   (conv=>whnf)
   all_goals (try (show _=_;simp only[wQ]))
   all_goals exact hW.symm
  ·have hpar:=Kk (r:=⟨key,4,day,ticket,coupon,status,locator,coupons,taxes,amount,frm,til⟩) rfl
   have hfac:=Kj (r:=⟨key,4,day,ticket,coupon,status,locator,coupons,taxes,amount,frm,til⟩) rfl hmay
   dsimp only at hpar hfac
   obtain⟨r0,w0⟩:=Av (l:=[75,68,84,65]) 0 (by decide) (by decide)
   obtain⟨r1,w1⟩:=Av (l:=[75,68,84,65]) 1 (by decide) (by decide)
   obtain⟨r2,w2⟩:=Av (l:=[75,68,84,65]) 2 (by decide) (by decide)
   obtain⟨r3,w3⟩:=Av (l:=[75,68,84,65]) 3 (by decide) (by decide)
   have r4:=True.intro
   have w4:=True.intro
   have r5:=True.intro
   have w5:=True.intro
   have hn:Ck 4=D2.getD (4 - 1) []:=Ci ⟨by decide,by decide⟩
   have hE:Br ⟨key,4,day,ticket,coupon,status,locator,coupons,taxes,amount,frm,til⟩=[Ck 4,key,Lib.itoa day,A7 ticket,Du amount]:=by rw[hpar,hn];rfl
   rw[hE] at hjl hW
   (conv=>whnf)
   refine⟨(⟨key,4,day,ticket,coupon,status,locator,coupons,taxes,amount,frm,til⟩:Request),hp,?_,?_⟩
   ·exact Ac _
   (conv=>whnf)
   (repeat' ((first
    |(with_reducible refine Ao ?_)
    |(exact absurd (by with_reducible assumption) hex)
    |((with_reducible refine aI ?_ ?_);focus (first|with_reducible exact⟨⟩|((with_reducible refine⟨?_,?_,?_⟩)<;>first|(intro e he;rcases(by omega:e=0∨e=1∨e=2∨e=3∨e=4∨e=5) with rfl|rfl|rfl|rfl|rfl|rfl<;>first|rfl|(exfalso;omega))|(with_reducible assumption)|omega|((with_reducible show Aq _ _);simp only[Aq,ty2,ty3,ty4,ty5,ty9,Cw,Co,Cx,Cp,Cu,Cy,Cv,Cz,Bm,Bj,Bn,Bi,Bo,Bp,Bq,List.length_cons,List.length_nil];first|omega|(refine⟨?_,?_⟩<;>omega)))|omega|(simp only[Aq,ty2,ty3,ty4,ty5,ty9,Cw,Co,Cx,Cp,Cu,Cy,Cv,Cz,Bm,Bj,Bn,Bi,Bo,Bp,Bq];first|omega|(refine⟨?_,?_⟩<;>omega))))
    |(conv=>arg 2;(first|change eqI (Bg _ _) _|change decide (_+Ai _ _<_)|change ! (sB _));simp only[List.toList_toArray,Bd,r0,r1,r2,r3,r4,r5,w0,w1,w2,w3,w4,w5,Nat.zero_add,Nat.reduceAdd,List.length_cons,List.length_nil])
    |(split<;>rename_i hh<;>(try simp only[wS] at hh))
    |fail)<;>(conv=>whnf)))
   refine⟨⟨(nB rfl),fun e he=>?_⟩,?_⟩
   ·change e<5 at he
    rcases(by omega:e=0∨e=1∨e=2∨e=3∨e=4) with rfl|rfl|rfl|rfl|rfl<;>rfl
   refine⟨(([Ck 4,key,Lib.itoa day,A7 ticket,Du amount],[32]):List (List UInt8) × List UInt8),⟨Nat.le_trans hjl ((nB rfl)),(nB rfl)⟩,?_,?_⟩
   ·(conv=>whnf)
    (repeat' ((first|with_reducible exact⟨⟩|((with_reducible refine aI ?_ ?_);focus (exact tA))|with_reducible refine iA ?_ ?_|fail)<;>(conv=>whnf)))
    all_goals (try simp only[wQ])
    refine⟨fun h=>h,fun e he=>?_⟩
    change e<5 at he
    rcases(by omega:e=0∨e=1∨e=2∨e=3∨e=4) with rfl|rfl|rfl|rfl|rfl<;>rfl
   (conv=>whnf)
   all_goals (try (show _=_;simp only[wQ]))
   all_goals exact hW.symm
  ·have hpar:=Kl (r:=⟨key,5,day,ticket,coupon,status,locator,coupons,taxes,amount,frm,til⟩) rfl
   have hfac:=Ia (r:=⟨key,5,day,ticket,coupon,status,locator,coupons,taxes,amount,frm,til⟩) rfl hmay
   dsimp only at hpar hfac
   obtain⟨r0,w0⟩:=Av (l:=[75,68,84,65,67,88]) 0 (by decide) (by decide)
   obtain⟨r1,w1⟩:=Av (l:=[75,68,84,65,67,88]) 1 (by decide) (by decide)
   obtain⟨r2,w2⟩:=Av (l:=[75,68,84,65,67,88]) 2 (by decide) (by decide)
   obtain⟨r3,w3⟩:=Av (l:=[75,68,84,65,67,88]) 3 (by decide) (by decide)
   obtain⟨r4,w4⟩:=Av (l:=[75,68,84,65,67,88]) 4 (by decide) (by decide)
   obtain⟨r5,w5⟩:=Av (l:=[75,68,84,65,67,88]) 5 (by decide) (by decide)
   have hn:Ck 5=D2.getD (5 - 1) []:=Ci ⟨by decide,by decide⟩
   have hfl:Cf coupons=Lib.join (coupons.map Bv) [44]:=by unfold Cf;rfl
   have hE:Br ⟨key,5,day,ticket,coupon,status,locator,coupons,taxes,amount,frm,til⟩=[Ck 5,key,Lib.itoa day,A7 ticket,Du amount,Lib.join (coupons.map Bv) [44],B7 taxes]:=by rw[hpar,hn,hfl];rfl
   rw[hE] at hjl hW
   have hc1:0<coupons.length∧coupons.length≤1000000:=by have:=Ev hfac.2.2.2.2.1;omega
   have hx1:taxes.length≤1000000:=by have:=jQ hfac.2.2.2.2.2;omega
   (conv=>whnf)
   refine⟨(⟨key,5,day,ticket,coupon,status,locator,coupons,taxes,amount,frm,til⟩:Request),hp,?_,?_⟩
   ·exact Ac _
   (conv=>whnf)
   (repeat' ((first
    |(with_reducible refine Ao ?_)
    |(exact absurd (by with_reducible assumption) hex)
    |((with_reducible refine aI ?_ ?_);focus (first|with_reducible exact⟨⟩|((with_reducible refine⟨?_,?_,?_⟩)<;>first|(intro e he;rcases(by omega:e=0∨e=1∨e=2∨e=3∨e=4∨e=5) with rfl|rfl|rfl|rfl|rfl|rfl<;>first|rfl|(exfalso;omega))|(with_reducible assumption)|omega|((with_reducible show Aq _ _);simp only[Aq,ty2,ty3,ty4,ty5,ty9,Cw,Co,Cx,Cp,Cu,Cy,Cv,Cz,Bm,Bj,Bn,Bi,Bo,Bp,Bq,List.length_cons,List.length_nil];first|omega|(refine⟨?_,?_⟩<;>omega)))|omega|(simp only[Aq,ty2,ty3,ty4,ty5,ty9,Cw,Co,Cx,Cp,Cu,Cy,Cv,Cz,Bm,Bj,Bn,Bi,Bo,Bp,Bq];first|omega|(refine⟨?_,?_⟩<;>omega))))
    |(conv=>arg 2;(first|change eqI (Bg _ _) _|change decide (_+Ai _ _<_)|change ! (sB _));simp only[List.toList_toArray,Bd,r0,r1,r2,r3,r4,r5,w0,w1,w2,w3,w4,w5,Nat.zero_add,Nat.reduceAdd,List.length_cons,List.length_nil])
    |(split<;>rename_i hh<;>(try simp only[wS] at hh))
    |fail)<;>(conv=>whnf)))
   refine⟨coupons,hc1,?_,?_⟩
   ·exact Ac _
   (conv=>whnf)
   (repeat' ((first
    |(with_reducible refine Ao ?_)
    |((with_reducible refine aI ?_ ?_);focus (first|((with_reducible refine⟨?_,?_,?_⟩)<;>first|(intro e he;rcases(by omega:e=0∨e=1∨e=2∨e=3∨e=4∨e=5) with rfl|rfl|rfl|rfl|rfl|rfl<;>first|rfl|(exfalso;omega))|(with_reducible assumption)|omega|((with_reducible show Aq _ _);simp only[Aq,ty2,ty3,ty4,ty5,ty9,Cw,Co,Cx,Cp,Cu,Cy,Cv,Cz,Bm,Bj,Bn,Bi,Bo,Bp,Bq,List.length_cons,List.length_nil];first|omega|(refine⟨?_,?_⟩<;>omega)))|omega))
    |(conv=>arg 2;(first|change eqI (Bg _ _) _|change decide (_+Ai _ _<_));simp only[List.toList_toArray,Bd,r0,r1,r2,r3,r4,r5,w0,w1,w2,w3,w4,w5,Nat.zero_add,Nat.reduceAdd,List.length_cons,List.length_nil])
    |fail)<;>(conv=>whnf)))
   refine⟨taxes,hx1,?_,?_⟩
   ·exact Ac _
   (conv=>whnf)
   (repeat' ((first
    |((with_reducible refine aI ?_ ?_);focus (first|((with_reducible refine⟨?_,?_,?_⟩)<;>first|(intro e he;rcases(by omega:e=0∨e=1∨e=2∨e=3∨e=4∨e=5) with rfl|rfl|rfl|rfl|rfl|rfl<;>first|rfl|(exfalso;omega))|(with_reducible assumption)|omega|((with_reducible show Aq _ _);simp only[Aq,ty2,ty3,ty4,ty5,ty9,Cw,Co,Cx,Cp,Cu,Cy,Cv,Cz,Bm,Bj,Bn,Bi,Bo,Bp,Bq,List.length_cons,List.length_nil];first|omega|(refine⟨?_,?_⟩<;>omega)))|omega))
    |(conv=>arg 2;change decide (_+Ai _ _<_);simp only[List.toList_toArray,Bd,r0,r1,r2,r3,r4,r5,w0,w1,w2,w3,w4,w5,Nat.zero_add,Nat.reduceAdd,List.length_cons,List.length_nil])
    |fail)<;>(conv=>whnf)))
   refine⟨⟨(nB rfl),fun e he=>?_⟩,?_⟩
   ·change e<7 at he
    rcases(by omega:e=0∨e=1∨e=2∨e=3∨e=4∨e=5∨e=6) with rfl|rfl|rfl|rfl|rfl|rfl|rfl<;>rfl
   refine⟨(([Ck 5,key,Lib.itoa day,A7 ticket,Du amount,Lib.join (coupons.map Bv) [44],B7 taxes],[32]):List (List UInt8) × List UInt8),⟨Nat.le_trans hjl ((nB rfl)),(nB rfl)⟩,?_,?_⟩
   ·(conv=>whnf)
    (repeat' ((first|with_reducible exact⟨⟩|((with_reducible refine aI ?_ ?_);focus (exact tA))|with_reducible refine iA ?_ ?_|fail)<;>(conv=>whnf)))
    all_goals (try simp only[wQ])
    refine⟨fun h=>h,fun e he=>?_⟩
    change e<7 at he
    rcases(by omega:e=0∨e=1∨e=2∨e=3∨e=4∨e=5∨e=6) with rfl|rfl|rfl|rfl|rfl|rfl|rfl<;>rfl
   (conv=>whnf)
   all_goals (try (show _=_;simp only[wQ]))
   all_goals exact hW.symm
  ·have hpar:=Kn (r:=⟨key,6,day,ticket,coupon,status,locator,coupons,taxes,amount,frm,til⟩) rfl
   have hfac:=Km (r:=⟨key,6,day,ticket,coupon,status,locator,coupons,taxes,amount,frm,til⟩) rfl hmay
   dsimp only at hpar hfac
   obtain⟨r0,w0⟩:=Av (l:=[75,68,84,78]) 0 (by decide) (by decide)
   obtain⟨r1,w1⟩:=Av (l:=[75,68,84,78]) 1 (by decide) (by decide)
   obtain⟨r2,w2⟩:=Av (l:=[75,68,84,78]) 2 (by decide) (by decide)
   obtain⟨r3,w3⟩:=Av (l:=[75,68,84,78]) 3 (by decide) (by decide)
   have r4:=True.intro
   have w4:=True.intro
   have r5:=True.intro
   have w5:=True.intro
   have hn:Ck 6=D2.getD (6 - 1) []:=Ci ⟨by decide,by decide⟩
   have hE:Br ⟨key,6,day,ticket,coupon,status,locator,coupons,taxes,amount,frm,til⟩=[Ck 6,key,Lib.itoa day,A7 ticket,Lib.itoa coupon]:=by rw[hpar,hn];rfl
   rw[hE] at hjl hW
   (conv=>whnf)
   refine⟨(⟨key,6,day,ticket,coupon,status,locator,coupons,taxes,amount,frm,til⟩:Request),hp,?_,?_⟩
   ·exact Ac _
   (conv=>whnf)
   (repeat' ((first
    |(with_reducible refine Ao ?_)
    |(exact absurd (by with_reducible assumption) hex)
    |((with_reducible refine aI ?_ ?_);focus (first|with_reducible exact⟨⟩|((with_reducible refine⟨?_,?_,?_⟩)<;>first|(intro e he;rcases(by omega:e=0∨e=1∨e=2∨e=3∨e=4∨e=5) with rfl|rfl|rfl|rfl|rfl|rfl<;>first|rfl|(exfalso;omega))|(with_reducible assumption)|omega|((with_reducible show Aq _ _);simp only[Aq,ty2,ty3,ty4,ty5,ty9,Cw,Co,Cx,Cp,Cu,Cy,Cv,Cz,Bm,Bj,Bn,Bi,Bo,Bp,Bq,List.length_cons,List.length_nil];first|omega|(refine⟨?_,?_⟩<;>omega)))|omega|(simp only[Aq,ty2,ty3,ty4,ty5,ty9,Cw,Co,Cx,Cp,Cu,Cy,Cv,Cz,Bm,Bj,Bn,Bi,Bo,Bp,Bq];first|omega|(refine⟨?_,?_⟩<;>omega))))
    |(conv=>arg 2;(first|change eqI (Bg _ _) _|change decide (_+Ai _ _<_)|change ! (sB _));simp only[List.toList_toArray,Bd,r0,r1,r2,r3,r4,r5,w0,w1,w2,w3,w4,w5,Nat.zero_add,Nat.reduceAdd,List.length_cons,List.length_nil])
    |(split<;>rename_i hh<;>(try simp only[wS] at hh))
    |fail)<;>(conv=>whnf)))
   refine⟨⟨(nB rfl),fun e he=>?_⟩,?_⟩
   ·change e<5 at he
    rcases(by omega:e=0∨e=1∨e=2∨e=3∨e=4) with rfl|rfl|rfl|rfl|rfl<;>rfl
   refine⟨(([Ck 6,key,Lib.itoa day,A7 ticket,Lib.itoa coupon],[32]):List (List UInt8) × List UInt8),⟨Nat.le_trans hjl ((nB rfl)),(nB rfl)⟩,?_,?_⟩
   ·(conv=>whnf)
    (repeat' ((first|with_reducible exact⟨⟩|((with_reducible refine aI ?_ ?_);focus (exact tA))|with_reducible refine iA ?_ ?_|fail)<;>(conv=>whnf)))
    all_goals (try simp only[wQ])
    refine⟨fun h=>h,fun e he=>?_⟩
    change e<5 at he
    rcases(by omega:e=0∨e=1∨e=2∨e=3∨e=4) with rfl|rfl|rfl|rfl|rfl<;>rfl
   (conv=>whnf)
   all_goals (try (show _=_;simp only[wQ]))
   all_goals exact hW.symm
  ·have hpar:=Kp (r:=⟨key,7,day,ticket,coupon,status,locator,coupons,taxes,amount,frm,til⟩) rfl
   have hfac:=Ko (r:=⟨key,7,day,ticket,coupon,status,locator,coupons,taxes,amount,frm,til⟩) rfl hmay
   dsimp only at hpar hfac
   obtain⟨r0,w0⟩:=Av (l:=[75,68,84,78]) 0 (by decide) (by decide)
   obtain⟨r1,w1⟩:=Av (l:=[75,68,84,78]) 1 (by decide) (by decide)
   obtain⟨r2,w2⟩:=Av (l:=[75,68,84,78]) 2 (by decide) (by decide)
   obtain⟨r3,w3⟩:=Av (l:=[75,68,84,78]) 3 (by decide) (by decide)
   have r4:=True.intro
   have w4:=True.intro
   have r5:=True.intro
   have w5:=True.intro
   have hn:Ck 7=D2.getD (7 - 1) []:=Ci ⟨by decide,by decide⟩
   have hE:Br ⟨key,7,day,ticket,coupon,status,locator,coupons,taxes,amount,frm,til⟩=[Ck 7,key,Lib.itoa day,A7 ticket,Lib.itoa coupon]:=by rw[hpar,hn];rfl
   rw[hE] at hjl hW
   (conv=>whnf)
   refine⟨(⟨key,7,day,ticket,coupon,status,locator,coupons,taxes,amount,frm,til⟩:Request),hp,?_,?_⟩
   ·exact Ac _
   (conv=>whnf)
   (repeat' ((first
    |(with_reducible refine Ao ?_)
    |(exact absurd (by with_reducible assumption) hex)
    |((with_reducible refine aI ?_ ?_);focus (first|with_reducible exact⟨⟩|((with_reducible refine⟨?_,?_,?_⟩)<;>first|(intro e he;rcases(by omega:e=0∨e=1∨e=2∨e=3∨e=4∨e=5) with rfl|rfl|rfl|rfl|rfl|rfl<;>first|rfl|(exfalso;omega))|(with_reducible assumption)|omega|((with_reducible show Aq _ _);simp only[Aq,ty2,ty3,ty4,ty5,ty9,Cw,Co,Cx,Cp,Cu,Cy,Cv,Cz,Bm,Bj,Bn,Bi,Bo,Bp,Bq,List.length_cons,List.length_nil];first|omega|(refine⟨?_,?_⟩<;>omega)))|omega|(simp only[Aq,ty2,ty3,ty4,ty5,ty9,Cw,Co,Cx,Cp,Cu,Cy,Cv,Cz,Bm,Bj,Bn,Bi,Bo,Bp,Bq];first|omega|(refine⟨?_,?_⟩<;>omega))))
    |(conv=>arg 2;(first|change eqI (Bg _ _) _|change decide (_+Ai _ _<_)|change ! (sB _));simp only[List.toList_toArray,Bd,r0,r1,r2,r3,r4,r5,w0,w1,w2,w3,w4,w5,Nat.zero_add,Nat.reduceAdd,List.length_cons,List.length_nil])
    |(split<;>rename_i hh<;>(try simp only[wS] at hh))
    |fail)<;>(conv=>whnf)))
   refine⟨⟨(nB rfl),fun e he=>?_⟩,?_⟩
   ·change e<5 at he
    rcases(by omega:e=0∨e=1∨e=2∨e=3∨e=4) with rfl|rfl|rfl|rfl|rfl<;>rfl
   refine⟨(([Ck 7,key,Lib.itoa day,A7 ticket,Lib.itoa coupon],[32]):List (List UInt8) × List UInt8),⟨Nat.le_trans hjl ((nB rfl)),(nB rfl)⟩,?_,?_⟩
   ·(conv=>whnf)
    (repeat' ((first|with_reducible exact⟨⟩|((with_reducible refine aI ?_ ?_);focus (exact tA))|with_reducible refine iA ?_ ?_|fail)<;>(conv=>whnf)))
    all_goals (try simp only[wQ])
    refine⟨fun h=>h,fun e he=>?_⟩
    change e<5 at he
    rcases(by omega:e=0∨e=1∨e=2∨e=3∨e=4) with rfl|rfl|rfl|rfl|rfl<;>rfl
   (conv=>whnf)
   all_goals (try (show _=_;simp only[wQ]))
   all_goals exact hW.symm
  ·have hpar:=Kq (r:=⟨key,8,day,ticket,coupon,status,locator,coupons,taxes,amount,frm,til⟩) rfl
   have hfac:=Wk (r:=⟨key,8,day,ticket,coupon,status,locator,coupons,taxes,amount,frm,til⟩) rfl hmay
   dsimp only at hpar hfac
   obtain⟨r0,w0⟩:=Av (l:=[84]) 0 (by decide) (by decide)
   have r1:=True.intro
   have w1:=True.intro
   have r2:=True.intro
   have w2:=True.intro
   have r3:=True.intro
   have w3:=True.intro
   have r4:=True.intro
   have w4:=True.intro
   have r5:=True.intro
   have w5:=True.intro
   have hn:Ck 8=D2.getD (8 - 1) []:=Ci ⟨by decide,by decide⟩
   have hE:Br ⟨key,8,day,ticket,coupon,status,locator,coupons,taxes,amount,frm,til⟩=[Ck 8,A7 ticket]:=by rw[hpar,hn];rfl
   rw[hE] at hjl hW
   (conv=>whnf)
   refine⟨(⟨key,8,day,ticket,coupon,status,locator,coupons,taxes,amount,frm,til⟩:Request),hp,?_,?_⟩
   ·exact Ac _
   (conv=>whnf)
   (repeat' ((first
    |(with_reducible refine Ao ?_)
    |(exact absurd (by with_reducible assumption) hex)
    |((with_reducible refine aI ?_ ?_);focus (first|with_reducible exact⟨⟩|omega|(simp only[Aq,ty2,ty3,ty4,ty5,ty9,Cw,Co,Cx,Cp,Cu,Cy,Cv,Cz,Bm,Bj,Bn,Bi,Bo,Bp,Bq];first|omega|(refine⟨?_,?_⟩<;>omega))))
    |(conv=>arg 2;(first|change eqI (Bg _ _) _|change decide (_+Ai _ _<_)|change ! (sB _));simp only[List.toList_toArray,Bd,r0,r1,r2,r3,r4,r5,w0,w1,w2,w3,w4,w5,Nat.zero_add,Nat.reduceAdd,List.length_cons,List.length_nil])
    |(split<;>rename_i hh<;>(try simp only[wS] at hh))
    |fail)<;>(conv=>whnf)))
   refine⟨⟨(nB rfl),fun e he=>?_⟩,?_⟩
   ·change e<2 at he
    rcases(by omega:e=0∨e=1) with rfl|rfl<;>rfl
   refine⟨(([Ck 8,A7 ticket],[32]):List (List UInt8) × List UInt8),⟨Nat.le_trans hjl ((nB rfl)),(nB rfl)⟩,?_,?_⟩
   ·(conv=>whnf)
    (repeat' ((first|with_reducible exact⟨⟩|((with_reducible refine aI ?_ ?_);focus (exact tA))|with_reducible refine iA ?_ ?_|fail)<;>(conv=>whnf)))
    all_goals (try simp only[wQ])
    refine⟨fun h=>h,fun e he=>?_⟩
    change e<2 at he
    rcases(by omega:e=0∨e=1) with rfl|rfl<;>rfl
   (conv=>whnf)
   all_goals (try (show _=_;simp only[wQ]))
   all_goals exact hW.symm
  ·have hpar:=Ks (r:=⟨key,9,day,ticket,coupon,status,locator,coupons,taxes,amount,frm,til⟩) rfl
   have hfac:=Kr (r:=⟨key,9,day,ticket,coupon,status,locator,coupons,taxes,amount,frm,til⟩) rfl hmay
   dsimp only at hpar hfac
   obtain⟨r0,w0⟩:=Av (l:=[76]) 0 (by decide) (by decide)
   have r1:=True.intro
   have w1:=True.intro
   have r2:=True.intro
   have w2:=True.intro
   have r3:=True.intro
   have w3:=True.intro
   have r4:=True.intro
   have w4:=True.intro
   have r5:=True.intro
   have w5:=True.intro
   have hn:Ck 9=D2.getD (9 - 1) []:=Ci ⟨by decide,by decide⟩
   have hE:Br ⟨key,9,day,ticket,coupon,status,locator,coupons,taxes,amount,frm,til⟩=[Ck 9,locator]:=by rw[hpar,hn];rfl
   rw[hE] at hjl hW
   (conv=>whnf)
   refine⟨(⟨key,9,day,ticket,coupon,status,locator,coupons,taxes,amount,frm,til⟩:Request),hp,?_,?_⟩
   ·exact Ac _
   (conv=>whnf)
   (repeat' ((first
    |(with_reducible refine Ao ?_)
    |(exact absurd (by with_reducible assumption) hex)
    |((with_reducible refine aI ?_ ?_);focus (first|with_reducible exact⟨⟩|omega|(simp only[Aq,ty2,ty3,ty4,ty5,ty9,Cw,Co,Cx,Cp,Cu,Cy,Cv,Cz,Bm,Bj,Bn,Bi,Bo,Bp,Bq];first|omega|(refine⟨?_,?_⟩<;>omega))))
    |(conv=>arg 2;(first|change eqI (Bg _ _) _|change decide (_+Ai _ _<_)|change ! (sB _));simp only[List.toList_toArray,Bd,r0,r1,r2,r3,r4,r5,w0,w1,w2,w3,w4,w5,Nat.zero_add,Nat.reduceAdd,List.length_cons,List.length_nil])
    |(split<;>rename_i hh<;>(try simp only[wS] at hh))
    |fail)<;>(conv=>whnf)))
   refine⟨⟨(nB rfl),fun e he=>?_⟩,?_⟩
   ·change e<2 at he
    rcases(by omega:e=0∨e=1) with rfl|rfl<;>rfl
   refine⟨(([Ck 9,locator],[32]):List (List UInt8) × List UInt8),⟨Nat.le_trans hjl ((nB rfl)),(nB rfl)⟩,?_,?_⟩
   ·(conv=>whnf)
    (repeat' ((first|with_reducible exact⟨⟩|((with_reducible refine aI ?_ ?_);focus (exact tA))|with_reducible refine iA ?_ ?_|fail)<;>(conv=>whnf)))
    all_goals (try simp only[wQ])
    refine⟨fun h=>h,fun e he=>?_⟩
    change e<2 at he
    rcases(by omega:e=0∨e=1) with rfl|rfl<;>rfl
   (conv=>whnf)
   all_goals (try (show _=_;simp only[wQ]))
   all_goals exact hW.symm
  ·have hpar:=Io (r:=⟨key,10,day,ticket,coupon,status,locator,coupons,taxes,amount,frm,til⟩) rfl
   have hfac:=Td (r:=⟨key,10,day,ticket,coupon,status,locator,coupons,taxes,amount,frm,til⟩) rfl hmay
   dsimp only at hpar hfac
   obtain⟨r0,w0⟩:=Av (l:=[70,85]) 0 (by decide) (by decide)
   obtain⟨r1,w1⟩:=Av (l:=[70,85]) 1 (by decide) (by decide)
   have r2:=True.intro
   have w2:=True.intro
   have r3:=True.intro
   have w3:=True.intro
   have r4:=True.intro
   have w4:=True.intro
   have r5:=True.intro
   have w5:=True.intro
   have hn:Ck 10=D2.getD (10 - 1) []:=Ci ⟨by decide,by decide⟩
   have hE:Br ⟨key,10,day,ticket,coupon,status,locator,coupons,taxes,amount,frm,til⟩=[Ck 10,Lib.itoa frm,Lib.itoa til]:=by rw[hpar,hn];rfl
   rw[hE] at hjl hW
   (conv=>whnf)
   refine⟨(⟨key,10,day,ticket,coupon,status,locator,coupons,taxes,amount,frm,til⟩:Request),hp,?_,?_⟩
   ·exact Ac _
   (conv=>whnf)
   (repeat' ((first
    |(with_reducible refine Ao ?_)
    |(exact absurd (by with_reducible assumption) hex)
    |((with_reducible refine aI ?_ ?_);focus (first|with_reducible exact⟨⟩|((with_reducible refine⟨?_,?_,?_⟩)<;>first|(intro e he;rcases(by omega:e=0∨e=1∨e=2∨e=3∨e=4∨e=5) with rfl|rfl|rfl|rfl|rfl|rfl<;>first|rfl|(exfalso;omega))|(with_reducible assumption)|omega|((with_reducible show Aq _ _);simp only[Aq,ty2,ty3,ty4,ty5,ty9,Cw,Co,Cx,Cp,Cu,Cy,Cv,Cz,Bm,Bj,Bn,Bi,Bo,Bp,Bq,List.length_cons,List.length_nil];first|omega|(refine⟨?_,?_⟩<;>omega)))|omega|(simp only[Aq,ty2,ty3,ty4,ty5,ty9,Cw,Co,Cx,Cp,Cu,Cy,Cv,Cz,Bm,Bj,Bn,Bi,Bo,Bp,Bq];first|omega|(refine⟨?_,?_⟩<;>omega))))
    |(conv=>arg 2;(first|change eqI (Bg _ _) _|change decide (_+Ai _ _<_)|change ! (sB _));simp only[List.toList_toArray,Bd,r0,r1,r2,r3,r4,r5,w0,w1,w2,w3,w4,w5,Nat.zero_add,Nat.reduceAdd,List.length_cons,List.length_nil])
    |(split<;>rename_i hh<;>(try simp only[wS] at hh))
    |fail)<;>(conv=>whnf)))
   refine⟨⟨(nB rfl),fun e he=>?_⟩,?_⟩
   ·change e<3 at he
    rcases(by omega:e=0∨e=1∨e=2) with rfl|rfl|rfl<;>rfl
   refine⟨(([Ck 10,Lib.itoa frm,Lib.itoa til],[32]):List (List UInt8) × List UInt8),⟨Nat.le_trans hjl ((nB rfl)),(nB rfl)⟩,?_,?_⟩
   ·(conv=>whnf)
    (repeat' ((first|with_reducible exact⟨⟩|((with_reducible refine aI ?_ ?_);focus (exact tA))|with_reducible refine iA ?_ ?_|fail)<;>(conv=>whnf)))
    all_goals (try simp only[wQ])
    refine⟨fun h=>h,fun e he=>?_⟩
    change e<3 at he
    rcases(by omega:e=0∨e=1∨e=2) with rfl|rfl|rfl<;>rfl
   (conv=>whnf)
   all_goals (try (show _=_;simp only[wQ]))
   all_goals exact hW.symm
 ·have hm:Ah ⟨key,kind,day,ticket,coupon,status,locator,coupons,taxes,amount,frm,til⟩=false:=by simpa using hmay
  have hex: ¬Ah ⟨key,kind,day,ticket,coupon,status,locator,coupons,taxes,amount,frm,til⟩=true:=hmay
  clear hf
  (conv=>whnf)
  refine⟨(⟨key,kind,day,ticket,coupon,status,locator,coupons,taxes,amount,frm,til⟩:Request),hp,?_,?_⟩
  ·exact Ac _
  (conv=>whnf)
  (repeat' ((first
   |(with_reducible refine Ao ?_)
   |(exact absurd (by with_reducible assumption) hex)
   |(split<;>rename_i hh<;>(try simp only[wS] at hh))
   |fail)<;>(conv=>whnf)))
  all_goals (try (show _=_;simp only[wQ]))
  rw[Aqt hm]
end
end Go.Vc.Z
