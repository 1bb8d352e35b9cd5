/- script.ActOf: the act of a line, the program's. -/
import Derived.Test.YtpmpclbdnakniaaGreatDoorV21
import Derived.Test.YtpmpclbdnakniaaGreatDoorV34
import Derived.Test.YtpmpclbdnakniaaGreatDoorV38
set_option linter.all false
set_option linter.unusedVariables false
set_option linter.unusedSimpArgs false
namespace Go.Vc.Z
open Go Go.Vc Go.Proofs Go.RowKit Go.Pl Go.Lib
theorem nE{s p:List UInt8}:Lib.hasPrefix s p=true↔s.take p.length=p:=by
 unfold Lib.hasPrefix
 rw[List.isPrefixOf_iff_prefix,List.prefix_iff_eq_take]
 exact eq_comm
theorem Ak4{s p:List UInt8}(h:s.length<p.length):Lib.hasPrefix s p=false:=by
 cases hp:Lib.hasPrefix s p with
 |false=>rfl
 |true=>
  have:=congrArg List.length (nE.1 hp)
  rw[List.length_take] at this
  omega
theorem nF(s:List UInt8):Va s=(Ay,4)∨∃ r,Ah r=true∧Va s=(r,0):=by
 by_cases hx:∃ r,Ah r=true∧Bu r=s
 ·obtain⟨r,h1,h2⟩:=hx
  subst h2
  exact .inr ⟨r,h1,qN h1⟩
 ·exact .inl (dR fun r h1 h2=>hx ⟨r,h1,h2⟩)
theorem Up{r:Request}(h:Ah r=true):D5 r:=by
 by_cases k1:r.kind=1
 ·obtain⟨_,_,_,h4,h5⟩:=H9 k1 h
  have:=Ev h4;have:=G8 h5;exact⟨by omega,by omega⟩
 by_cases k5:r.kind=5
 ·obtain⟨_,_,_,_,h4,h5⟩:=Ia k5 h
  have:=Ev h4;have:=G8 h5;exact⟨by omega,by omega⟩
 rw[Jb h]
 unfold Ct
 rcases F5 h with k|k|k|k|k|k|k|k|k|k
 all_goals first|exact absurd k k1|exact absurd k k5|(rw[k];exact⟨Nat.zero_le _,Nat.zero_le _⟩)
theorem Ak5(s:List UInt8):(To s).length≤s.length:=by
 unfold To
 split
 ·rw[List.length_drop];omega
 ·exact Nat.le_refl _
theorem Lz{n:Nat}{g b:Nat→List AV}{e:Nat}(h:e<n):B0 n g b e=g e:=if_pos h
theorem zY{a b:List UInt8}:(a == b)=decide (a=b):=by rw[Bool.eq_iff_iff,beq_iff_eq,decide_eq_true_eq]
@[reducible] def A2x{A:Act}{P:Act→Prop}(_:∀ a,Af a=true→fitA a→P a→A=a):Act:=A
theorem A2y{s:List UInt8}{x:Act × Int}{A:Act}(hf:(∀ a,Af a=true→fitA a→Bt a=s→False)→x=(Gk,4))(hr:∀ a,Af a=true→fitA a→Bt a=s→A=a)(hh:Af A=false):x=(Gk,4):=hf fun a hm hf hw=>by
 rw[hr a hm hf hw,hm] at hh;cases hh
theorem A2z{s:List UInt8}{x:Act × Int}{A:Act}(hf:(∀ a,Af a=true→fitA a→Bt a=s→False)→x=(Gk,4))(hr:∀ a,Af a=true→fitA a→Bt a=s→A=a)(hh: ¬Bt A=s):x=(Gk,4):=hf fun a hm hf hw=>by
 rw[hr a hm hf hw] at hh;exact hh hw
theorem aM:Af Gk=false:=by unfold Af;rfl
noncomputable section
set_option maxRecDepth 100000
attribute [local irreducible] inK Utf8.decode Utf8.encode Lib.itoa Pl.worth Pl.allDig
attribute [local irreducible] Lib.join Bw Aa
def Apf:PC:=PC.fun fun|[.str s,.str p]=>some (p=[100,111,32]∧s.length≤100000000,.str (sS (To s)))|_=>none
def C9:PT:=C2 []
theorem Ew{W:World}(hW:Fz W):Cl (Fw W) Tryz.prog C9:=As
def Lf:FuncId→Option Ctr:=Aw C9 []
theorem Lg{W:World}(hW:Fz W):Ad (Fw W) Tryz.prog Lf:=(Au (Ew hW))
def Jt:List (FuncId × Ctr):=(244,inl TY Lf C9 (fun _=>false) (fun _ _ _=>none) Tryz.f244)::[]
def Ju:FuncId→Option Ctr:=Aw C9 Jt
theorem Jv{W:World}(hW:Fz W):Ad (Fw W) Tryz.prog Ju:=Ae Tryz.call244 (Ag rfl Ap (Ew hW) (Lg hW) Tryz.func244 (fun _ _ _=>none)) (Lg hW)
def R0:List (FuncId × Ctr):=(178,inl TY Ju C9 (fun _=>false) (fun _ _ _=>none) Tryz.f178)::Jt
def Gd:FuncId→Option Ctr:=Aw C9 R0
theorem R1{W:World}(hW:Fz W):Ad (Fw W) Tryz.prog Gd:=Ae Tryz.call178 (Ag rfl Ap (Ew hW) (Jv hW) Tryz.func178 (fun _ _ _=>none)) (Jv hW)
theorem Tp{W:World}(hW:Fz W):GoodP (Fw W) Tryz.prog 95 Apf:=by
 have hD:=Ew hW
 have hC0:Ad (Fw W) Tryz.prog Gd:=(R1 hW)
 refine Az (D:=C9) (C:=Gd) (wr:=(fun _=>false)) rfl Ap hD hC0 Tryz.func95 (fun _ _=>none) ?_
 clear hC0 hD hW
 intro cs p r h hf hp
 split at h
 case h_2=>cases h
 rename_i s p
 cases h
 try simp only[Ax,Bh,Am,Go.Vc.lo,Go.Vc.hi,and_true] at hf
 obtain⟨hp3,hsl⟩:=hp
 subst hp3
 have h4:(([100,111,32]:List UInt8).length:Int)=3:=rfl
 have t0:Lib.hasPrefix s [100,111,32]=false→s=To s:=fun h=>by unfold To;rw[if_neg (by rw[h];exact Bool.false_ne_true)]
 have t1:Lib.hasPrefix s [100,111,32]=true→s.drop 3=To s:=fun h=>by unfold To;rw[if_pos h]
 (conv=>whnf)
 (repeat' ((first
  |(with_reducible refine Ao ?_)
  |((with_reducible refine aI ?_ ?_);focus (omega))
  |(split<;>rename_i hh<;>(try simp only[wS] at hh))
  |with_reducible refine lnI fun hln=>?_
  |fail)<;>(conv=>whnf)))
 all_goals (try (show _=_;simp only[wQ]))
 ·rw[show Int.toNat (([100,111,32]:List UInt8).length:Int)=3 from rfl,List.take_of_length_le (by rw[List.length_drop];exact Nat.le_refl _)]
  exact t1 (nE.2 (by assumption))
 ·refine t0 ?_
  cases hp:Lib.hasPrefix s [100,111,32] with
  |false=>rfl
  |true=>exact absurd (nE.1 hp) (by assumption)
 ·refine t0 (Ak4 ?_)
  exact Int.ofNat_lt.1 (by assumption)
def Ai3:PC:=PC.of (fun x:List UInt8 × Act × Int=>[.str x.1]) (fun x=>dD x.1=x.2∧x.1.length≤1000000) (fun x=>.tup [.agg x.2.1.enc,.int .i64 x.2.2])
def Nt:PT:=C2 [(26,Ai2),(34,aK),(36,Yg),(78,lO),(93,Ua),(94,Z5),(95,Apf),(96,Ah3)]
theorem Tq{W:World}(hW:Fz W):Cl (Fw W) Tryz.prog Nt:=(Ab Tryz.call26 (Arq hW.1) (Ab Tryz.call34 (xI hW.1) (Ab Tryz.call36 (lF hW.1) (Ab Tryz.call78 (lP hW.1) (Ab Tryz.call93 (Gs hW.1) (Ab Tryz.call94 (Xs hW.1) (Ab Tryz.call95 (Tp hW) (Ab Tryz.call96 (hZ hW) As))))))))
def Nu:FuncId→Option Ctr:=Aw Nt []
theorem nG{W:World}(hW:Fz W):Ad (Fw W) Tryz.prog Nu:=(Au (Tq hW))
set_option maxHeartbeats 4000000 in
theorem nH{W:World}(hW:Fz W):GoodP (Fw W) Tryz.prog 30 Ai3:=by
 have hD:=Tq hW
 have hC0:∀ x:List UInt8 × Act × Int,Ad (Fw W) Tryz.prog Nu:=fun x=>(nG hW)
 refine Ar (D:=Nt) (C:=fun x=>Nu) (wr:=(fun _=>false)) rfl Ap hD hC0 Tryz.func30 (fun _ _=>none) (fun _=>rfl) ?_
 intro x hf hp
 clear hf
 obtain⟨hq,hs⟩:=hp
 have hlen1:=Hr 32 x.1
 have hsL:=Dd (Aa 32 x.1)
 have hlenW:(sL (Aa 32 x.1)).length≤1000001:=by rw[hsL];have:=Ma 32 x.1;omega
 have hmem:∀ i,((sL (Aa 32 x.1)).getD i []).length≤1000000:=fun i=>Z8 hs i
 have hfail:(∀ a,Af a=true→fitA a→Bt a=x.1→False)→x.2=(Gk,4):=fun h=>by rw[←hq];exact zX h
 have hdl:=Ar9 x.1
 have htl:(sS (To x.1)).length≤100000000:=by rw[A0];exact Nat.le_trans (Ak5 x.1) (Nat.le_trans hs (by decide))
 have hpr:(⟨#[100,111,32]⟩:ByteArray).data.toList=[100,111,32]∧x.1.length≤100000000:=⟨rfl,Nat.le_trans hs (by decide)⟩
 rcases hW0:sL (Aa 32 x.1) with _|⟨w0,_|⟨w1,_|⟨w2,ws⟩⟩⟩
 ·rw[←hsL,hW0] at hlen1;exact absurd hlen1 (by decide)
 focus
  have hc:Aa 32 x.1=[w0]:=hsL.symm.trans hW0
  have d0:(Aa 32 x.1).getD 0 []=w0:=by rw[hc];rfl
  have d1:(Aa 32 x.1).getD 1 []=[]:=by rw[hc];rfl
  have d2:(Aa 32 x.1).getD 2 []=[]:=by rw[hc];rfl
  have hm1:∀ i,(([]:List (List UInt8)).getD i []).length≤100000000:=fun i=>by have:=hmem (i+1);rw[hW0] at this;exact Nat.le_trans this (by decide)
  have hm2:∀ i,(([]:List (List UInt8)).getD i []).length≤100000000:=fun i=>by have:=hmem (i+2);rw[hW0] at this;exact Nat.le_trans this (by decide)
  have hlw:[w0].length≤1000001:=by rw[←hW0];exact hlenW
  simp only[List.length_cons,List.length_nil] at hlw
  by_cases hn1:w0=[100,111]
  focus
   subst hn1
   rcases nF (doP x.1) with hr|⟨r,hmr,hr⟩
   ·have hz:x.2=(Gk,4):=hfail fun a hm hf hw=>by
     have h3:=(Aey d0 hm hf hw).2.2.1
     rw[hr] at h3;cases h3
    refine⟨((x.1,32,[[100,111]]):List UInt8 × UInt8 × List (List UInt8)),⟨Nat.le_trans hs (by decide),hW0⟩,?_,?_⟩
    ·exact Ac _
    (conv=>whnf)
    (repeat' ((first
     |((with_reducible refine aI ?_ ?_);focus (first|exact htl|exact hpr))
     |((with_reducible refine aI ?_ ?_);focus (first|with_reducible exact⟨⟩|omega|(simp only[List.length_append,bytesOf_length,List.toList_toArray,List.length_cons,List.length_nil,List.length_take,List.length_drop,A0];omega)|(simp only[Aq,ty2,ty3,ty4,ty5,ty9,Cw,Co,Cx,Cp,Cu,Cy,Cv,Cz,Bm,Bj,Bn,Bi,Bo,Bp,Bq,List.length_cons,List.length_nil];first|omega|(refine⟨?_,?_⟩<;>omega))|(dsimp only at*;simp only[Am,Go.Vc.lo,Go.Vc.hi];omega)))
     |with_reducible refine lnI fun hln=>?_
     |fail)<;>(conv=>whnf)))
    refine⟨((doP x.1,Ay,4):List UInt8 × Request × Int),⟨hr,Nat.le_trans hdl hs⟩,?_,?_⟩
    ·(conv=>whnf)
     (repeat' ((first|with_reducible exact⟨⟩|with_reducible refine iA ?_ ?_|fail)<;>(conv=>whnf)))
     all_goals (try simp only[wQ])
     unfold doP;rfl
    (conv=>whnf)
    (repeat' ((first
     |with_reducible exact⟨⟩
     |((with_reducible refine aI ?_ ?_);focus (with_reducible rfl))
     |with_reducible refine iA ?_ ?_
     |fail)<;>(conv=>whnf)))
    all_goals (try (show _=_;simp only[wQ]))
    all_goals (rw[hz]<;>rfl)
   have hsh:=Up hmr
   have hfit:fitA ⟨1,(Aj []).1,r,0,[],false⟩:=Md
   have hrd:∀ a,Af a=true→fitA a→Bt a=x.1→(⟨1,(Aj []).1,r,0,[],false⟩:Act)=a:=fun a hm hf hw=>by
    have h3:=(Aey d0 hm hf hw).1
    unfold A1 at h3
    rw[d1,hr] at h3;exact h3
   refine⟨((x.1,32,[[100,111]]):List UInt8 × UInt8 × List (List UInt8)),⟨Nat.le_trans hs (by decide),hW0⟩,?_,?_⟩
   ·exact Ac _
   (conv=>whnf)
   (repeat' ((first
    |((with_reducible refine aI ?_ ?_);focus (first|exact htl|exact hpr))
    |((with_reducible refine aI ?_ ?_);focus (first|with_reducible exact⟨⟩|omega|(simp only[List.length_append,bytesOf_length,List.toList_toArray,List.length_cons,List.length_nil,List.length_take,List.length_drop,A0];omega)|(simp only[Aq,ty2,ty3,ty4,ty5,ty9,Cw,Co,Cx,Cp,Cu,Cy,Cv,Cz,Bm,Bj,Bn,Bi,Bo,Bp,Bq,List.length_cons,List.length_nil];first|omega|(refine⟨?_,?_⟩<;>omega))|(dsimp only at*;simp only[Am,Go.Vc.lo,Go.Vc.hi];omega)))
    |with_reducible refine lnI fun hln=>?_
    |fail)<;>(conv=>whnf)))
   refine⟨((doP x.1,r,0):List UInt8 × Request × Int),⟨hr,Nat.le_trans hdl hs⟩,?_,?_⟩
   ·(conv=>whnf)
    (repeat' ((first|with_reducible exact⟨⟩|with_reducible refine iA ?_ ?_|fail)<;>(conv=>whnf)))
    all_goals (try simp only[wQ])
    unfold doP;rfl
   (conv=>whnf)
  rotate_left
  by_cases hn2:w0=[116,105,99,107]
  focus
   subst hn2
   have hsh:=short_zero (r:=Ay) rfl
   have hfit:fitA ⟨2,0,Ay,0,([]:List (List UInt8)).map Dp,false⟩:=Uo Qg
   have hrd:∀ a,Af a=true→fitA a→Bt a=x.1→(⟨2,0,Ay,0,([]:List (List UInt8)).map Dp,false⟩:Act)=a:=fun a hm hf hw=>by
    have h3:=(Apb d0 hm hf hw).1
    unfold A2 at h3
    rw[hc] at h3;exact h3
   refine⟨((x.1,32,[[116,105,99,107]]):List UInt8 × UInt8 × List (List UInt8)),⟨Nat.le_trans hs (by decide),hW0⟩,?_,?_⟩
   ·exact Ac _
   (conv=>whnf)
   (repeat' ((first
    |((with_reducible refine aI ?_ ?_);focus (first|with_reducible exact⟨⟩|omega|(simp only[List.length_append,bytesOf_length,List.toList_toArray,List.length_cons,List.length_nil,List.length_take,List.length_drop,A0];omega)|(simp only[Aq,ty2,ty3,ty4,ty5,ty9,Cw,Co,Cx,Cp,Cu,Cy,Cv,Cz,Bm,Bj,Bn,Bi,Bo,Bp,Bq,List.length_cons,List.length_nil];first|omega|(refine⟨?_,?_⟩<;>omega))|(dsimp only at*;simp only[Am,Go.Vc.lo,Go.Vc.hi];omega)))
    |with_reducible refine lnI fun hln=>?_
    |fail)<;>(conv=>whnf)))
   try refine⟨⟨by simp only[List.length_cons,List.length_nil];omega,fun e he=>by rw[Lz (by simp only[List.length_cons,List.length_nil] at he ⊢;omega)];rfl⟩,?_⟩
   refine⟨([]:List (List UInt8)),⟨by simp only[List.length_cons,List.length_nil];omega,hm1⟩,?_,?_⟩
   ·(conv=>whnf)
    (repeat' ((first|with_reducible exact⟨⟩|((with_reducible refine aI ?_ ?_);focus (exact tA))|with_reducible refine iA ?_ ?_|fail)<;>(conv=>whnf)))
    all_goals (try simp only[wQ])
    exact⟨fun h=>h,fun e he=>by rw[Lz (by have he2:e<0:=he;show 0+1+e<1;omega),show 0+Int.toNat 1+e=e+1 by(show 0+1+e=e+1;omega)];rfl⟩
   (conv=>whnf)
  rotate_left
  by_cases hn3:w0=[102,117,115,101]
  focus
   subst hn3
   have hsh:=short_zero (r:=Ay) rfl
   have hfit:fitA ⟨3,(Aj []).1,Ay,(Aj []).1,[],false⟩:=Md
   have hrd:∀ a,Af a=true→fitA a→Bt a=x.1→(⟨3,(Aj []).1,Ay,(Aj []).1,[],false⟩:Act)=a:=fun a hm hf hw=>by
    have h3:=(Apc d0 hm hf hw).1
    unfold A3 at h3
    rw[d1,d2] at h3;exact h3
   refine⟨((x.1,32,[[102,117,115,101]]):List UInt8 × UInt8 × List (List UInt8)),⟨Nat.le_trans hs (by decide),hW0⟩,?_,?_⟩
   ·exact Ac _
   (conv=>whnf)
   (repeat' ((first
    |((with_reducible refine aI ?_ ?_);focus (first|with_reducible exact⟨⟩|omega|(simp only[List.length_append,bytesOf_length,List.toList_toArray,List.length_cons,List.length_nil,List.length_take,List.length_drop,A0];omega)|(simp only[Aq,ty2,ty3,ty4,ty5,ty9,Cw,Co,Cx,Cp,Cu,Cy,Cv,Cz,Bm,Bj,Bn,Bi,Bo,Bp,Bq,List.length_cons,List.length_nil];first|omega|(refine⟨?_,?_⟩<;>omega))|(dsimp only at*;simp only[Am,Go.Vc.lo,Go.Vc.hi];omega)))
    |with_reducible refine lnI fun hln=>?_
    |fail)<;>(conv=>whnf)))
  rotate_left
  by_cases hn4:w0=[99,114,97,115,104]
  focus
   subst hn4
   have hsh:=short_zero (r:=Ay) rfl
   have hfit:fitA ⟨4,(Aj []).1,Ay,0,([]:List (List UInt8)).map Dp,false⟩:=Uo Qg
   have hrd:∀ a,Af a=true→fitA a→Bt a=x.1→(⟨4,(Aj []).1,Ay,0,([]:List (List UInt8)).map Dp,false⟩:Act)=a:=fun a hm hf hw=>by
    have h3:=(Apd d0 hm hf hw).1
    unfold A4 at h3
    rw[d1,hc] at h3;exact h3
   refine⟨((x.1,32,[[99,114,97,115,104]]):List UInt8 × UInt8 × List (List UInt8)),⟨Nat.le_trans hs (by decide),hW0⟩,?_,?_⟩
   ·exact Ac _
   (conv=>whnf)
   (repeat' ((first
    |((with_reducible refine aI ?_ ?_);focus (first|with_reducible exact⟨⟩|omega|exact tK|(simp only[List.length_append,bytesOf_length,List.toList_toArray,List.length_cons,List.length_nil,List.length_take,List.length_drop,A0];omega)|(simp only[Aq,ty2,ty3,ty4,ty5,ty9,Cw,Co,Cx,Cp,Cu,Cy,Cv,Cz,Bm,Bj,Bn,Bi,Bo,Bp,Bq,List.length_cons,List.length_nil];first|omega|(refine⟨?_,?_⟩<;>omega))|(dsimp only at*;simp only[Am,Go.Vc.lo,Go.Vc.hi];omega)))
    |(split<;>rename_i hh<;>(try simp only[wS] at hh))
    |with_reducible refine lnI fun hln=>?_
    |fail)<;>(conv=>whnf)))
   all_goals try (exfalso;first|exact absurd (show true=false by assumption) Bool.true_eq_false.mp|(simp only[List.length_cons,List.length_nil] at hh;omega))
   try refine⟨⟨by simp only[List.length_cons,List.length_nil];omega,fun e he=>by rw[Lz (by simp only[List.length_cons,List.length_nil] at he ⊢;omega)];rfl⟩,?_⟩
   refine⟨([]:List (List UInt8)),⟨by simp only[List.length_cons,List.length_nil];omega,hm2⟩,?_,?_⟩
   ·(conv=>whnf)
    (repeat' ((first|with_reducible exact⟨⟩|((with_reducible refine aI ?_ ?_);focus (exact tA))|with_reducible refine iA ?_ ?_|fail)<;>(conv=>whnf)))
    all_goals (try simp only[wQ])
    exact⟨fun h=>h,fun e he=>by rw[Lz (by have he2:e<0:=he;show 0+2+e<1;omega),show 0+Int.toNat 2+e=e+2 by(show 0+2+e=e+2;omega)];rfl⟩
   (conv=>whnf)
  rotate_left
  by_cases hn5:w0=[99,97,108,109]
  focus
   subst hn5
   have hsh:=short_zero (r:=Ay) rfl
   have hfit:fitA ⟨5,0,Ay,0,[],(([]:List UInt8) == [121,101,115])⟩:=Md
   have hrd:∀ a,Af a=true→fitA a→Bt a=x.1→(⟨5,0,Ay,0,[],(([]:List UInt8) == [121,101,115])⟩:Act)=a:=fun a hm hf hw=>by
    have h3:=(Ape d0 hm hf hw).1
    unfold A5 at h3
    rw[d1] at h3;rw[zY];exact h3
   refine⟨((x.1,32,[[99,97,108,109]]):List UInt8 × UInt8 × List (List UInt8)),⟨Nat.le_trans hs (by decide),hW0⟩,?_,?_⟩
   ·exact Ac _
   (conv=>whnf)
   (repeat' ((first
    |((with_reducible refine aI ?_ ?_);focus (first|with_reducible exact⟨⟩|omega|(simp only[List.length_append,bytesOf_length,List.toList_toArray,List.length_cons,List.length_nil,List.length_take,List.length_drop,A0];omega)|(simp only[Aq,ty2,ty3,ty4,ty5,ty9,Cw,Co,Cx,Cp,Cu,Cy,Cv,Cz,Bm,Bj,Bn,Bi,Bo,Bp,Bq,List.length_cons,List.length_nil];first|omega|(refine⟨?_,?_⟩<;>omega))|(dsimp only at*;simp only[Am,Go.Vc.lo,Go.Vc.hi];omega)))
    |with_reducible refine lnI fun hln=>?_
    |fail)<;>(conv=>whnf)))
  rotate_left
  have hz:x.2=(Gk,4):=hq.symm.trans (Apa (by rw[d0];exact hn1) (by rw[d0];exact hn2) (by rw[d0];exact hn3) (by rw[d0];exact hn4) (by rw[d0];exact hn5))
  focus
   have hn1: ¬(([w0]:List (List UInt8)).getD (0+Int.toNat 0) [])=[100,111]:=hn1
   have hn2: ¬(([w0]:List (List UInt8)).getD (0+Int.toNat 0) [])=[116,105,99,107]:=hn2
   have hn3: ¬(([w0]:List (List UInt8)).getD (0+Int.toNat 0) [])=[102,117,115,101]:=hn3
   have hn4: ¬(([w0]:List (List UInt8)).getD (0+Int.toNat 0) [])=[99,114,97,115,104]:=hn4
   have hn5: ¬(([w0]:List (List UInt8)).getD (0+Int.toNat 0) [])=[99,97,108,109]:=hn5
   refine⟨((x.1,32,[w0]):List UInt8 × UInt8 × List (List UInt8)),⟨Nat.le_trans hs (by decide),hW0⟩,?_,?_⟩
   ·exact Ac _
   (conv=>whnf)
   (repeat' ((first
    |((with_reducible refine aI ?_ ?_);focus (first|exact htl|exact hpr))
    |(exact absurd (by with_reducible assumption) hn1)
    |(exact absurd (by with_reducible assumption) hn2)
    |(exact absurd (by with_reducible assumption) hn3)
    |(exact absurd (by with_reducible assumption) hn4)
    |(exact absurd (by with_reducible assumption) hn5)
    |((with_reducible refine aI ?_ ?_);focus (first|with_reducible exact⟨⟩|omega|(simp only[List.length_append,bytesOf_length,List.toList_toArray,List.length_cons,List.length_nil,List.length_take,List.length_drop,A0];omega)|(simp only[Aq,ty2,ty3,ty4,ty5,ty9,Cw,Co,Cx,Cp,Cu,Cy,Cv,Cz,Bm,Bj,Bn,Bi,Bo,Bp,Bq,List.length_cons,List.length_nil];first|omega|(refine⟨?_,?_⟩<;>omega))|(dsimp only at*;simp only[Am,Go.Vc.lo,Go.Vc.hi];omega)))
    |(split<;>rename_i hh<;>(try simp only[wS] at hh))
    |with_reducible refine lnI fun hln=>?_
    |fail)<;>(conv=>whnf)))
   refine⟨(Gk:Act),short_zero rfl,?_,?_⟩
   ·exact tL
   (conv=>whnf)
   (repeat' ((first
    |with_reducible exact⟨⟩
    |((with_reducible refine aI ?_ ?_);focus (with_reducible rfl))
    |(split<;>rename_i hh<;>(try simp only[wS] at hh))
    |with_reducible refine iA ?_ ?_
    |fail)<;>(conv=>whnf)))
   all_goals first|(rw[hz]<;>rfl)|exact absurd (aM.symm.trans (by assumption)) (by decide)
 rotate_left 5
 focus
  have hc:Aa 32 x.1=[w0,w1]:=hsL.symm.trans hW0
  have d0:(Aa 32 x.1).getD 0 []=w0:=by rw[hc];rfl
  have d1:(Aa 32 x.1).getD 1 []=w1:=by rw[hc];rfl
  have d2:(Aa 32 x.1).getD 2 []=[]:=by rw[hc];rfl
  have hm1:∀ i,(([w1]:List (List UInt8)).getD i []).length≤100000000:=fun i=>by have:=hmem (i+1);rw[hW0] at this;exact Nat.le_trans this (by decide)
  have hm2:∀ i,(([]:List (List UInt8)).getD i []).length≤100000000:=fun i=>by have:=hmem (i+2);rw[hW0] at this;exact Nat.le_trans this (by decide)
  have hlw:[w0,w1].length≤1000001:=by rw[←hW0];exact hlenW
  simp only[List.length_cons,List.length_nil] at hlw
  by_cases hn1:w0=[100,111]
  focus
   subst hn1
   rcases nF (doP x.1) with hr|⟨r,hmr,hr⟩
   ·have hz:x.2=(Gk,4):=hfail fun a hm hf hw=>by
     have h3:=(Aey d0 hm hf hw).2.2.1
     rw[hr] at h3;cases h3
    refine⟨((x.1,32,[[100,111],w1]):List UInt8 × UInt8 × List (List UInt8)),⟨Nat.le_trans hs (by decide),hW0⟩,?_,?_⟩
    ·exact Ac _
    (conv=>whnf)
    (repeat' ((first
     |((with_reducible refine aI ?_ ?_);focus (first|exact htl|exact hpr))
     |((with_reducible refine aI ?_ ?_);focus (first|with_reducible exact⟨⟩|omega|(simp only[List.length_append,bytesOf_length,List.toList_toArray,List.length_cons,List.length_nil,List.length_take,List.length_drop,A0];omega)|(simp only[Aq,ty2,ty3,ty4,ty5,ty9,Cw,Co,Cx,Cp,Cu,Cy,Cv,Cz,Bm,Bj,Bn,Bi,Bo,Bp,Bq,List.length_cons,List.length_nil];first|omega|(refine⟨?_,?_⟩<;>omega))|(dsimp only at*;simp only[Am,Go.Vc.lo,Go.Vc.hi];omega)))
     |with_reducible refine lnI fun hln=>?_
     |fail)<;>(conv=>whnf)))
    refine⟨((doP x.1,Ay,4):List UInt8 × Request × Int),⟨hr,Nat.le_trans hdl hs⟩,?_,?_⟩
    ·(conv=>whnf)
     (repeat' ((first|with_reducible exact⟨⟩|with_reducible refine iA ?_ ?_|fail)<;>(conv=>whnf)))
     all_goals (try simp only[wQ])
     unfold doP;rfl
    (conv=>whnf)
    (repeat' ((first
     |with_reducible exact⟨⟩
     |((with_reducible refine aI ?_ ?_);focus (with_reducible rfl))
     |with_reducible refine iA ?_ ?_
     |fail)<;>(conv=>whnf)))
    all_goals (try (show _=_;simp only[wQ]))
    all_goals (rw[hz]<;>rfl)
   have hsh:=Up hmr
   have hfit:fitA ⟨1,(Aj w1).1,r,0,[],false⟩:=Md
   have hrd:∀ a,Af a=true→fitA a→Bt a=x.1→(⟨1,(Aj w1).1,r,0,[],false⟩:Act)=a:=fun a hm hf hw=>by
    have h3:=(Aey d0 hm hf hw).1
    unfold A1 at h3
    rw[d1,hr] at h3;exact h3
   refine⟨((x.1,32,[[100,111],w1]):List UInt8 × UInt8 × List (List UInt8)),⟨Nat.le_trans hs (by decide),hW0⟩,?_,?_⟩
   ·exact Ac _
   (conv=>whnf)
   (repeat' ((first
    |((with_reducible refine aI ?_ ?_);focus (first|exact htl|exact hpr))
    |((with_reducible refine aI ?_ ?_);focus (first|with_reducible exact⟨⟩|omega|(simp only[List.length_append,bytesOf_length,List.toList_toArray,List.length_cons,List.length_nil,List.length_take,List.length_drop,A0];omega)|(simp only[Aq,ty2,ty3,ty4,ty5,ty9,Cw,Co,Cx,Cp,Cu,Cy,Cv,Cz,Bm,Bj,Bn,Bi,Bo,Bp,Bq,List.length_cons,List.length_nil];first|omega|(refine⟨?_,?_⟩<;>omega))|(dsimp only at*;simp only[Am,Go.Vc.lo,Go.Vc.hi];omega)))
    |with_reducible refine lnI fun hln=>?_
    |fail)<;>(conv=>whnf)))
   refine⟨((doP x.1,r,0):List UInt8 × Request × Int),⟨hr,Nat.le_trans hdl hs⟩,?_,?_⟩
   ·(conv=>whnf)
    (repeat' ((first|with_reducible exact⟨⟩|with_reducible refine iA ?_ ?_|fail)<;>(conv=>whnf)))
    all_goals (try simp only[wQ])
    unfold doP;rfl
   (conv=>whnf)
  rotate_left
  by_cases hn2:w0=[116,105,99,107]
  focus
   subst hn2
   have hsh:=short_zero (r:=Ay) rfl
   have hfit:fitA ⟨2,0,Ay,0,([w1]:List (List UInt8)).map Dp,false⟩:=Uo Qg
   have hrd:∀ a,Af a=true→fitA a→Bt a=x.1→(⟨2,0,Ay,0,([w1]:List (List UInt8)).map Dp,false⟩:Act)=a:=fun a hm hf hw=>by
    have h3:=(Apb d0 hm hf hw).1
    unfold A2 at h3
    rw[hc] at h3;exact h3
   refine⟨((x.1,32,[[116,105,99,107],w1]):List UInt8 × UInt8 × List (List UInt8)),⟨Nat.le_trans hs (by decide),hW0⟩,?_,?_⟩
   ·exact Ac _
   (conv=>whnf)
   (repeat' ((first
    |((with_reducible refine aI ?_ ?_);focus (first|with_reducible exact⟨⟩|omega|(simp only[List.length_append,bytesOf_length,List.toList_toArray,List.length_cons,List.length_nil,List.length_take,List.length_drop,A0];omega)|(simp only[Aq,ty2,ty3,ty4,ty5,ty9,Cw,Co,Cx,Cp,Cu,Cy,Cv,Cz,Bm,Bj,Bn,Bi,Bo,Bp,Bq,List.length_cons,List.length_nil];first|omega|(refine⟨?_,?_⟩<;>omega))|(dsimp only at*;simp only[Am,Go.Vc.lo,Go.Vc.hi];omega)))
    |with_reducible refine lnI fun hln=>?_
    |fail)<;>(conv=>whnf)))
   try refine⟨⟨by simp only[List.length_cons,List.length_nil];omega,fun e he=>by rw[Lz (by simp only[List.length_cons,List.length_nil] at he ⊢;omega)];rfl⟩,?_⟩
   refine⟨([w1]:List (List UInt8)),⟨by simp only[List.length_cons,List.length_nil];omega,hm1⟩,?_,?_⟩
   ·(conv=>whnf)
    (repeat' ((first|with_reducible exact⟨⟩|((with_reducible refine aI ?_ ?_);focus (exact tA))|with_reducible refine iA ?_ ?_|fail)<;>(conv=>whnf)))
    all_goals (try simp only[wQ])
    exact⟨fun h=>h,fun e he=>by rw[Lz (by have he2:e<1:=he;show 0+1+e<2;omega),show 0+Int.toNat 1+e=e+1 by(show 0+1+e=e+1;omega)];rfl⟩
   (conv=>whnf)
  rotate_left
  by_cases hn3:w0=[102,117,115,101]
  focus
   subst hn3
   have hsh:=short_zero (r:=Ay) rfl
   have hfit:fitA ⟨3,(Aj w1).1,Ay,(Aj []).1,[],false⟩:=Md
   have hrd:∀ a,Af a=true→fitA a→Bt a=x.1→(⟨3,(Aj w1).1,Ay,(Aj []).1,[],false⟩:Act)=a:=fun a hm hf hw=>by
    have h3:=(Apc d0 hm hf hw).1
    unfold A3 at h3
    rw[d1,d2] at h3;exact h3
   refine⟨((x.1,32,[[102,117,115,101],w1]):List UInt8 × UInt8 × List (List UInt8)),⟨Nat.le_trans hs (by decide),hW0⟩,?_,?_⟩
   ·exact Ac _
   (conv=>whnf)
   (repeat' ((first
    |((with_reducible refine aI ?_ ?_);focus (first|with_reducible exact⟨⟩|omega|(simp only[List.length_append,bytesOf_length,List.toList_toArray,List.length_cons,List.length_nil,List.length_take,List.length_drop,A0];omega)|(simp only[Aq,ty2,ty3,ty4,ty5,ty9,Cw,Co,Cx,Cp,Cu,Cy,Cv,Cz,Bm,Bj,Bn,Bi,Bo,Bp,Bq,List.length_cons,List.length_nil];first|omega|(refine⟨?_,?_⟩<;>omega))|(dsimp only at*;simp only[Am,Go.Vc.lo,Go.Vc.hi];omega)))
    |with_reducible refine lnI fun hln=>?_
    |fail)<;>(conv=>whnf)))
  rotate_left
  by_cases hn4:w0=[99,114,97,115,104]
  focus
   subst hn4
   have hsh:=short_zero (r:=Ay) rfl
   have hfit:fitA ⟨4,(Aj w1).1,Ay,0,([]:List (List UInt8)).map Dp,false⟩:=Uo Qg
   have hrd:∀ a,Af a=true→fitA a→Bt a=x.1→(⟨4,(Aj w1).1,Ay,0,([]:List (List UInt8)).map Dp,false⟩:Act)=a:=fun a hm hf hw=>by
    have h3:=(Apd d0 hm hf hw).1
    unfold A4 at h3
    rw[d1,hc] at h3;exact h3
   refine⟨((x.1,32,[[99,114,97,115,104],w1]):List UInt8 × UInt8 × List (List UInt8)),⟨Nat.le_trans hs (by decide),hW0⟩,?_,?_⟩
   ·exact Ac _
   (conv=>whnf)
   (repeat' ((first
    |((with_reducible refine aI ?_ ?_);focus (first|with_reducible exact⟨⟩|omega|exact tK|(simp only[List.length_append,bytesOf_length,List.toList_toArray,List.length_cons,List.length_nil,List.length_take,List.length_drop,A0];omega)|(simp only[Aq,ty2,ty3,ty4,ty5,ty9,Cw,Co,Cx,Cp,Cu,Cy,Cv,Cz,Bm,Bj,Bn,Bi,Bo,Bp,Bq,List.length_cons,List.length_nil];first|omega|(refine⟨?_,?_⟩<;>omega))|(dsimp only at*;simp only[Am,Go.Vc.lo,Go.Vc.hi];omega)))
    |(split<;>rename_i hh<;>(try simp only[wS] at hh))
    |with_reducible refine lnI fun hln=>?_
    |fail)<;>(conv=>whnf)))
   all_goals try (exfalso;first|exact absurd (show true=false by assumption) Bool.true_eq_false.mp|(simp only[List.length_cons,List.length_nil] at hh;omega))
   try refine⟨⟨by simp only[List.length_cons,List.length_nil];omega,fun e he=>by rw[Lz (by simp only[List.length_cons,List.length_nil] at he ⊢;omega)];rfl⟩,?_⟩
   refine⟨([]:List (List UInt8)),⟨by simp only[List.length_cons,List.length_nil];omega,hm2⟩,?_,?_⟩
   ·(conv=>whnf)
    (repeat' ((first|with_reducible exact⟨⟩|((with_reducible refine aI ?_ ?_);focus (exact tA))|with_reducible refine iA ?_ ?_|fail)<;>(conv=>whnf)))
    all_goals (try simp only[wQ])
    exact⟨fun h=>h,fun e he=>by rw[Lz (by have he2:e<0:=he;show 0+2+e<2;omega),show 0+Int.toNat 2+e=e+2 by(show 0+2+e=e+2;omega)];rfl⟩
   (conv=>whnf)
  rotate_left
  by_cases hn5:w0=[99,97,108,109]
  focus
   subst hn5
   have hsh:=short_zero (r:=Ay) rfl
   have hfit:fitA ⟨5,0,Ay,0,[],((w1:List UInt8) == [121,101,115])⟩:=Md
   have hrd:∀ a,Af a=true→fitA a→Bt a=x.1→(⟨5,0,Ay,0,[],((w1:List UInt8) == [121,101,115])⟩:Act)=a:=fun a hm hf hw=>by
    have h3:=(Ape d0 hm hf hw).1
    unfold A5 at h3
    rw[d1] at h3;rw[zY];exact h3
   refine⟨((x.1,32,[[99,97,108,109],w1]):List UInt8 × UInt8 × List (List UInt8)),⟨Nat.le_trans hs (by decide),hW0⟩,?_,?_⟩
   ·exact Ac _
   (conv=>whnf)
   (repeat' ((first
    |((with_reducible refine aI ?_ ?_);focus (first|with_reducible exact⟨⟩|omega|(simp only[List.length_append,bytesOf_length,List.toList_toArray,List.length_cons,List.length_nil,List.length_take,List.length_drop,A0];omega)|(simp only[Aq,ty2,ty3,ty4,ty5,ty9,Cw,Co,Cx,Cp,Cu,Cy,Cv,Cz,Bm,Bj,Bn,Bi,Bo,Bp,Bq,List.length_cons,List.length_nil];first|omega|(refine⟨?_,?_⟩<;>omega))|(dsimp only at*;simp only[Am,Go.Vc.lo,Go.Vc.hi];omega)))
    |with_reducible refine lnI fun hln=>?_
    |fail)<;>(conv=>whnf)))
  rotate_left
  have hz:x.2=(Gk,4):=hq.symm.trans (Apa (by rw[d0];exact hn1) (by rw[d0];exact hn2) (by rw[d0];exact hn3) (by rw[d0];exact hn4) (by rw[d0];exact hn5))
  focus
   have hn1: ¬(([w0,w1]:List (List UInt8)).getD (0+Int.toNat 0) [])=[100,111]:=hn1
   have hn2: ¬(([w0,w1]:List (List UInt8)).getD (0+Int.toNat 0) [])=[116,105,99,107]:=hn2
   have hn3: ¬(([w0,w1]:List (List UInt8)).getD (0+Int.toNat 0) [])=[102,117,115,101]:=hn3
   have hn4: ¬(([w0,w1]:List (List UInt8)).getD (0+Int.toNat 0) [])=[99,114,97,115,104]:=hn4
   have hn5: ¬(([w0,w1]:List (List UInt8)).getD (0+Int.toNat 0) [])=[99,97,108,109]:=hn5
   refine⟨((x.1,32,[w0,w1]):List UInt8 × UInt8 × List (List UInt8)),⟨Nat.le_trans hs (by decide),hW0⟩,?_,?_⟩
   ·exact Ac _
   (conv=>whnf)
   (repeat' ((first
    |((with_reducible refine aI ?_ ?_);focus (first|exact htl|exact hpr))
    |(exact absurd (by with_reducible assumption) hn1)
    |(exact absurd (by with_reducible assumption) hn2)
    |(exact absurd (by with_reducible assumption) hn3)
    |(exact absurd (by with_reducible assumption) hn4)
    |(exact absurd (by with_reducible assumption) hn5)
    |((with_reducible refine aI ?_ ?_);focus (first|with_reducible exact⟨⟩|omega|(simp only[List.length_append,bytesOf_length,List.toList_toArray,List.length_cons,List.length_nil,List.length_take,List.length_drop,A0];omega)|(simp only[Aq,ty2,ty3,ty4,ty5,ty9,Cw,Co,Cx,Cp,Cu,Cy,Cv,Cz,Bm,Bj,Bn,Bi,Bo,Bp,Bq,List.length_cons,List.length_nil];first|omega|(refine⟨?_,?_⟩<;>omega))|(dsimp only at*;simp only[Am,Go.Vc.lo,Go.Vc.hi];omega)))
    |(split<;>rename_i hh<;>(try simp only[wS] at hh))
    |with_reducible refine lnI fun hln=>?_
    |fail)<;>(conv=>whnf)))
   refine⟨(Gk:Act),short_zero rfl,?_,?_⟩
   ·exact tL
   (conv=>whnf)
   (repeat' ((first
    |with_reducible exact⟨⟩
    |((with_reducible refine aI ?_ ?_);focus (with_reducible rfl))
    |(split<;>rename_i hh<;>(try simp only[wS] at hh))
    |with_reducible refine iA ?_ ?_
    |fail)<;>(conv=>whnf)))
   all_goals first|(rw[hz]<;>rfl)|exact absurd (aM.symm.trans (by assumption)) (by decide)
 rotate_left 5
 focus
  have hc:Aa 32 x.1=(w0::w1::w2::ws):=hsL.symm.trans hW0
  have d0:(Aa 32 x.1).getD 0 []=w0:=by rw[hc];rfl
  have d1:(Aa 32 x.1).getD 1 []=w1:=by rw[hc];rfl
  have d2:(Aa 32 x.1).getD 2 []=w2:=by rw[hc];rfl
  have hm1:∀ i,(((w1::w2::ws):List (List UInt8)).getD i []).length≤100000000:=fun i=>by have:=hmem (i+1);rw[hW0] at this;exact Nat.le_trans this (by decide)
  have hm2:∀ i,(((w2::ws):List (List UInt8)).getD i []).length≤100000000:=fun i=>by have:=hmem (i+2);rw[hW0] at this;exact Nat.le_trans this (by decide)
  have hlw:(w0::w1::w2::ws).length≤1000001:=by rw[←hW0];exact hlenW
  simp only[List.length_cons,List.length_nil] at hlw
  by_cases hn1:w0=[100,111]
  focus
   subst hn1
   rcases nF (doP x.1) with hr|⟨r,hmr,hr⟩
   ·have hz:x.2=(Gk,4):=hfail fun a hm hf hw=>by
     have h3:=(Aey d0 hm hf hw).2.2.1
     rw[hr] at h3;cases h3
    refine⟨((x.1,32,([100,111]::w1::w2::ws)):List UInt8 × UInt8 × List (List UInt8)),⟨Nat.le_trans hs (by decide),hW0⟩,?_,?_⟩
    ·exact Ac _
    (conv=>whnf)
    (repeat' ((first
     |((with_reducible refine aI ?_ ?_);focus (first|exact htl|exact hpr))
     |((with_reducible refine aI ?_ ?_);focus (first|with_reducible exact⟨⟩|omega|(simp only[List.length_append,bytesOf_length,List.toList_toArray,List.length_cons,List.length_nil,List.length_take,List.length_drop,A0];omega)|(simp only[Aq,ty2,ty3,ty4,ty5,ty9,Cw,Co,Cx,Cp,Cu,Cy,Cv,Cz,Bm,Bj,Bn,Bi,Bo,Bp,Bq,List.length_cons,List.length_nil];first|omega|(refine⟨?_,?_⟩<;>omega))|(dsimp only at*;simp only[Am,Go.Vc.lo,Go.Vc.hi];omega)))
     |with_reducible refine lnI fun hln=>?_
     |fail)<;>(conv=>whnf)))
    refine⟨((doP x.1,Ay,4):List UInt8 × Request × Int),⟨hr,Nat.le_trans hdl hs⟩,?_,?_⟩
    ·(conv=>whnf)
     (repeat' ((first|with_reducible exact⟨⟩|with_reducible refine iA ?_ ?_|fail)<;>(conv=>whnf)))
     all_goals (try simp only[wQ])
     unfold doP;rfl
    (conv=>whnf)
    (repeat' ((first
     |with_reducible exact⟨⟩
     |((with_reducible refine aI ?_ ?_);focus (with_reducible rfl))
     |with_reducible refine iA ?_ ?_
     |fail)<;>(conv=>whnf)))
    all_goals (try (show _=_;simp only[wQ]))
    all_goals (rw[hz]<;>rfl)
   have hsh:=Up hmr
   have hfit:fitA ⟨1,(Aj w1).1,r,0,[],false⟩:=Md
   have hrd:∀ a,Af a=true→fitA a→Bt a=x.1→(⟨1,(Aj w1).1,r,0,[],false⟩:Act)=a:=fun a hm hf hw=>by
    have h3:=(Aey d0 hm hf hw).1
    unfold A1 at h3
    rw[d1,hr] at h3;exact h3
   refine⟨((x.1,32,([100,111]::w1::w2::ws)):List UInt8 × UInt8 × List (List UInt8)),⟨Nat.le_trans hs (by decide),hW0⟩,?_,?_⟩
   ·exact Ac _
   (conv=>whnf)
   (repeat' ((first
    |((with_reducible refine aI ?_ ?_);focus (first|exact htl|exact hpr))
    |((with_reducible refine aI ?_ ?_);focus (first|with_reducible exact⟨⟩|omega|(simp only[List.length_append,bytesOf_length,List.toList_toArray,List.length_cons,List.length_nil,List.length_take,List.length_drop,A0];omega)|(simp only[Aq,ty2,ty3,ty4,ty5,ty9,Cw,Co,Cx,Cp,Cu,Cy,Cv,Cz,Bm,Bj,Bn,Bi,Bo,Bp,Bq,List.length_cons,List.length_nil];first|omega|(refine⟨?_,?_⟩<;>omega))|(dsimp only at*;simp only[Am,Go.Vc.lo,Go.Vc.hi];omega)))
    |with_reducible refine lnI fun hln=>?_
    |fail)<;>(conv=>whnf)))
   refine⟨((doP x.1,r,0):List UInt8 × Request × Int),⟨hr,Nat.le_trans hdl hs⟩,?_,?_⟩
   ·(conv=>whnf)
    (repeat' ((first|with_reducible exact⟨⟩|with_reducible refine iA ?_ ?_|fail)<;>(conv=>whnf)))
    all_goals (try simp only[wQ])
    unfold doP;rfl
   (conv=>whnf)
  rotate_left
  by_cases hn2:w0=[116,105,99,107]
  focus
   subst hn2
   have hsh:=short_zero (r:=Ay) rfl
   have hfit:fitA ⟨2,0,Ay,0,((w1::w2::ws):List (List UInt8)).map Dp,false⟩:=Uo Qg
   have hrd:∀ a,Af a=true→fitA a→Bt a=x.1→(⟨2,0,Ay,0,((w1::w2::ws):List (List UInt8)).map Dp,false⟩:Act)=a:=fun a hm hf hw=>by
    have h3:=(Apb d0 hm hf hw).1
    unfold A2 at h3
    rw[hc] at h3;exact h3
   refine⟨((x.1,32,([116,105,99,107]::w1::w2::ws)):List UInt8 × UInt8 × List (List UInt8)),⟨Nat.le_trans hs (by decide),hW0⟩,?_,?_⟩
   ·exact Ac _
   (conv=>whnf)
   (repeat' ((first
    |((with_reducible refine aI ?_ ?_);focus (first|with_reducible exact⟨⟩|omega|(simp only[List.length_append,bytesOf_length,List.toList_toArray,List.length_cons,List.length_nil,List.length_take,List.length_drop,A0];omega)|(simp only[Aq,ty2,ty3,ty4,ty5,ty9,Cw,Co,Cx,Cp,Cu,Cy,Cv,Cz,Bm,Bj,Bn,Bi,Bo,Bp,Bq,List.length_cons,List.length_nil];first|omega|(refine⟨?_,?_⟩<;>omega))|(dsimp only at*;simp only[Am,Go.Vc.lo,Go.Vc.hi];omega)))
    |with_reducible refine lnI fun hln=>?_
    |fail)<;>(conv=>whnf)))
   try refine⟨⟨by simp only[List.length_cons,List.length_nil];omega,fun e he=>by rw[Lz (by simp only[List.length_cons,List.length_nil] at he ⊢;omega)];rfl⟩,?_⟩
   refine⟨((w1::w2::ws):List (List UInt8)),⟨by simp only[List.length_cons,List.length_nil];omega,hm1⟩,?_,?_⟩
   ·(conv=>whnf)
    (repeat' ((first|with_reducible exact⟨⟩|((with_reducible refine aI ?_ ?_);focus (exact tA))|with_reducible refine iA ?_ ?_|fail)<;>(conv=>whnf)))
    all_goals (try simp only[wQ])
    exact⟨by simp only[List.length_cons,List.length_nil];omega,fun h=>h,fun e he=>by rw[Lz (by simp only[List.length_cons,List.length_nil] at he ⊢;omega),show 0+Int.toNat 1+e=e+1 by(show 0+1+e=e+1;omega)];rfl⟩
   (conv=>whnf)
  rotate_left
  by_cases hn3:w0=[102,117,115,101]
  focus
   subst hn3
   have hsh:=short_zero (r:=Ay) rfl
   have hfit:fitA ⟨3,(Aj w1).1,Ay,(Aj w2).1,[],false⟩:=Md
   have hrd:∀ a,Af a=true→fitA a→Bt a=x.1→(⟨3,(Aj w1).1,Ay,(Aj w2).1,[],false⟩:Act)=a:=fun a hm hf hw=>by
    have h3:=(Apc d0 hm hf hw).1
    unfold A3 at h3
    rw[d1,d2] at h3;exact h3
   refine⟨((x.1,32,([102,117,115,101]::w1::w2::ws)):List UInt8 × UInt8 × List (List UInt8)),⟨Nat.le_trans hs (by decide),hW0⟩,?_,?_⟩
   ·exact Ac _
   (conv=>whnf)
   (repeat' ((first
    |((with_reducible refine aI ?_ ?_);focus (first|with_reducible exact⟨⟩|omega|(simp only[List.length_append,bytesOf_length,List.toList_toArray,List.length_cons,List.length_nil,List.length_take,List.length_drop,A0];omega)|(simp only[Aq,ty2,ty3,ty4,ty5,ty9,Cw,Co,Cx,Cp,Cu,Cy,Cv,Cz,Bm,Bj,Bn,Bi,Bo,Bp,Bq,List.length_cons,List.length_nil];first|omega|(refine⟨?_,?_⟩<;>omega))|(dsimp only at*;simp only[Am,Go.Vc.lo,Go.Vc.hi];omega)))
    |with_reducible refine lnI fun hln=>?_
    |fail)<;>(conv=>whnf)))
  rotate_left
  by_cases hn4:w0=[99,114,97,115,104]
  focus
   subst hn4
   have hsh:=short_zero (r:=Ay) rfl
   have hfit:fitA ⟨4,(Aj w1).1,Ay,0,((w2::ws):List (List UInt8)).map Dp,false⟩:=Uo Qg
   have hrd:∀ a,Af a=true→fitA a→Bt a=x.1→(⟨4,(Aj w1).1,Ay,0,((w2::ws):List (List UInt8)).map Dp,false⟩:Act)=a:=fun a hm hf hw=>by
    have h3:=(Apd d0 hm hf hw).1
    unfold A4 at h3
    rw[d1,hc] at h3;exact h3
   refine⟨((x.1,32,([99,114,97,115,104]::w1::w2::ws)):List UInt8 × UInt8 × List (List UInt8)),⟨Nat.le_trans hs (by decide),hW0⟩,?_,?_⟩
   ·exact Ac _
   (conv=>whnf)
   (repeat' ((first
    |((with_reducible refine aI ?_ ?_);focus (first|with_reducible exact⟨⟩|omega|((with_reducible refine⟨?_,?_⟩)<;>first|with_reducible assumption|omega)|exact tK|(simp only[List.length_append,bytesOf_length,List.toList_toArray,List.length_cons,List.length_nil,List.length_take,List.length_drop,A0];omega)|(simp only[Aq,ty2,ty3,ty4,ty5,ty9,Cw,Co,Cx,Cp,Cu,Cy,Cv,Cz,Bm,Bj,Bn,Bi,Bo,Bp,Bq,List.length_cons,List.length_nil];first|omega|(refine⟨?_,?_⟩<;>omega))|(dsimp only at*;simp only[Am,Go.Vc.lo,Go.Vc.hi];omega)))
    |(split<;>rename_i hh<;>(try simp only[wS] at hh))
    |with_reducible refine lnI fun hln=>?_
    |fail)<;>(conv=>whnf)))
   all_goals try (exfalso;first|exact absurd (show true=false by assumption) Bool.true_eq_false.mp|(simp only[List.length_cons,List.length_nil] at hh;omega))
   try refine⟨⟨by simp only[List.length_cons,List.length_nil];omega,fun e he=>by rw[Lz (by simp only[List.length_cons,List.length_nil] at he ⊢;omega)];rfl⟩,?_⟩
   refine⟨((w2::ws):List (List UInt8)),⟨by simp only[List.length_cons,List.length_nil];omega,hm2⟩,?_,?_⟩
   ·(conv=>whnf)
    (repeat' ((first|with_reducible exact⟨⟩|((with_reducible refine aI ?_ ?_);focus (exact tA))|with_reducible refine iA ?_ ?_|fail)<;>(conv=>whnf)))
    all_goals (try simp only[wQ])
    exact⟨by simp only[List.length_cons,List.length_nil];omega,fun h=>h,fun e he=>by rw[Lz (by simp only[List.length_cons,List.length_nil] at he ⊢;omega),show 0+Int.toNat 2+e=e+2 by(show 0+2+e=e+2;omega)];rfl⟩
   (conv=>whnf)
  rotate_left
  by_cases hn5:w0=[99,97,108,109]
  focus
   subst hn5
   have hsh:=short_zero (r:=Ay) rfl
   have hfit:fitA ⟨5,0,Ay,0,[],((w1:List UInt8) == [121,101,115])⟩:=Md
   have hrd:∀ a,Af a=true→fitA a→Bt a=x.1→(⟨5,0,Ay,0,[],((w1:List UInt8) == [121,101,115])⟩:Act)=a:=fun a hm hf hw=>by
    have h3:=(Ape d0 hm hf hw).1
    unfold A5 at h3
    rw[d1] at h3;rw[zY];exact h3
   refine⟨((x.1,32,([99,97,108,109]::w1::w2::ws)):List UInt8 × UInt8 × List (List UInt8)),⟨Nat.le_trans hs (by decide),hW0⟩,?_,?_⟩
   ·exact Ac _
   (conv=>whnf)
   (repeat' ((first
    |((with_reducible refine aI ?_ ?_);focus (first|with_reducible exact⟨⟩|omega|(simp only[List.length_append,bytesOf_length,List.toList_toArray,List.length_cons,List.length_nil,List.length_take,List.length_drop,A0];omega)|(simp only[Aq,ty2,ty3,ty4,ty5,ty9,Cw,Co,Cx,Cp,Cu,Cy,Cv,Cz,Bm,Bj,Bn,Bi,Bo,Bp,Bq,List.length_cons,List.length_nil];first|omega|(refine⟨?_,?_⟩<;>omega))|(dsimp only at*;simp only[Am,Go.Vc.lo,Go.Vc.hi];omega)))
    |with_reducible refine lnI fun hln=>?_
    |fail)<;>(conv=>whnf)))
  rotate_left
  have hz:x.2=(Gk,4):=hq.symm.trans (Apa (by rw[d0];exact hn1) (by rw[d0];exact hn2) (by rw[d0];exact hn3) (by rw[d0];exact hn4) (by rw[d0];exact hn5))
  focus
   have hn1: ¬(((w0::w1::w2::ws):List (List UInt8)).getD (0+Int.toNat 0) [])=[100,111]:=hn1
   have hn2: ¬(((w0::w1::w2::ws):List (List UInt8)).getD (0+Int.toNat 0) [])=[116,105,99,107]:=hn2
   have hn3: ¬(((w0::w1::w2::ws):List (List UInt8)).getD (0+Int.toNat 0) [])=[102,117,115,101]:=hn3
   have hn4: ¬(((w0::w1::w2::ws):List (List UInt8)).getD (0+Int.toNat 0) [])=[99,114,97,115,104]:=hn4
   have hn5: ¬(((w0::w1::w2::ws):List (List UInt8)).getD (0+Int.toNat 0) [])=[99,97,108,109]:=hn5
   refine⟨((x.1,32,(w0::w1::w2::ws)):List UInt8 × UInt8 × List (List UInt8)),⟨Nat.le_trans hs (by decide),hW0⟩,?_,?_⟩
   ·exact Ac _
   (conv=>whnf)
   (repeat' ((first
    |((with_reducible refine aI ?_ ?_);focus (first|exact htl|exact hpr))
    |(exact absurd (by with_reducible assumption) hn1)
    |(exact absurd (by with_reducible assumption) hn2)
    |(exact absurd (by with_reducible assumption) hn3)
    |(exact absurd (by with_reducible assumption) hn4)
    |(exact absurd (by with_reducible assumption) hn5)
    |((with_reducible refine aI ?_ ?_);focus (first|with_reducible exact⟨⟩|omega|(simp only[List.length_append,bytesOf_length,List.toList_toArray,List.length_cons,List.length_nil,List.length_take,List.length_drop,A0];omega)|(simp only[Aq,ty2,ty3,ty4,ty5,ty9,Cw,Co,Cx,Cp,Cu,Cy,Cv,Cz,Bm,Bj,Bn,Bi,Bo,Bp,Bq,List.length_cons,List.length_nil];first|omega|(refine⟨?_,?_⟩<;>omega))|(dsimp only at*;simp only[Am,Go.Vc.lo,Go.Vc.hi];omega)))
    |(split<;>rename_i hh<;>(try simp only[wS] at hh))
    |with_reducible refine lnI fun hln=>?_
    |fail)<;>(conv=>whnf)))
   refine⟨(Gk:Act),short_zero rfl,?_,?_⟩
   ·exact tL
   (conv=>whnf)
   (repeat' ((first
    |with_reducible exact⟨⟩
    |((with_reducible refine aI ?_ ?_);focus (with_reducible rfl))
    |(split<;>rename_i hh<;>(try simp only[wS] at hh))
    |with_reducible refine iA ?_ ?_
    |fail)<;>(conv=>whnf)))
   all_goals first|(rw[hz]<;>rfl)|exact absurd (aM.symm.trans (by assumption)) (by decide)
 rotate_left 5
 all_goals (
  refine⟨A2x hrd,hsh,?_,?_⟩
  ·exact tL
  (conv=>whnf)
  (repeat' ((first
   |with_reducible exact⟨⟩
   |((with_reducible refine aI ?_ ?_);focus (with_reducible rfl))
   |(split<;>rename_i hh<;>(try simp only[wS] at hh))
   |with_reducible refine iA ?_ ?_
   |fail)<;>(conv=>whnf)))
  all_goals try (rw[A2y hfail hrd hh]<;>rfl)
  refine⟨A2x hrd,hsh,?_,?_⟩
  ·exact tL
  (conv=>whnf)
  (repeat' ((first
   |with_reducible exact⟨⟩
   |((with_reducible refine aI ?_ ?_);focus (with_reducible rfl))
   |(split<;>rename_i hh<;>(try simp only[wS] at hh))
   |with_reducible refine iA ?_ ?_
   |fail)<;>(conv=>whnf)))
  all_goals (try (show _=_;simp only[wQ]))
  all_goals try (rw[A2z hfail hrd hh]<;>rfl)
  all_goals (
   rw[hq.symm.trans (Aex (by assumption) hfit (by assumption) hrd)]
   all_goals first|rfl|exact⟨rfl,fun h=>h,fun _ _=>rfl⟩))
end
end Go.Vc.Z
