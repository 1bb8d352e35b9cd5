/- script.ActOf: the act of a line, the program's. -/
import Derived.Test.YtpmpclbdnakniaaGreatDoorV31
import Derived.Test.YtpmpclbdnakniaaGreatDoorV35
import Derived.Test.YtpmpclbdnakniaaGreatDoorV37
set_option linter.all false
set_option maxHeartbeats 8000000
namespace Go.Vc.Z
open Go Go.Vc Go.Proofs Go.RowKit Go.Pl Go.Lib
theorem qR{s p:List UInt8}:Lib.hasPrefix s p=true↔s.take p.length=p:=by
 unfold Lib.hasPrefix;rw[List.isPrefixOf_iff_prefix,List.prefix_iff_eq_take];exact eq_comm
theorem Aom{s p:List UInt8}(h:s.length<p.length):Lib.hasPrefix s p=false:=by
 cases hp:Lib.hasPrefix s p with
 |false=>rfl
 |true=>
  have:=congrArg List.length (qR.1 hp);rw[List.length_take] at this;omega
theorem aU(s:List UInt8):Ve s=(An,4)∨∃ r,Af r=true∧Ve s=(r,0):=by
 by_cases hx:∃ r,Af r=true∧Be r=s
 ·obtain⟨r,h1,h2⟩:=hx;subst h2;exact .inr ⟨r,h1,zY h1⟩
 ·exact .inl (aP fun r h1 h2=>hx ⟨r,h1,h2⟩)
theorem Wo{r:Request}(h:Af r=true):Eh r:=by
 by_cases k1:r.kind=1
 ·obtain⟨_,_,_,h4,h5⟩:=Ha k1 h;have:=D7 h4;have:=Hp h5;exact⟨by omega,by omega⟩
 by_cases k5:r.kind=5
 ·obtain⟨_,_,_,_,h4,h5⟩:=Hb k5 h;have:=D7 h4;have:=Hp h5;exact⟨by omega,by omega⟩
 rw[J7 h];unfold Cq;rcases Fg h with k|k|k|k|k|k|k|k|k|k;all_goals first|exact absurd k k1|exact absurd k k5|(rw[k];exact⟨Nat.zero_le _,Nat.zero_le _⟩)
theorem Aon(s:List UInt8):(Vp s).length≤s.length:=by
 unfold Vp;split
 ·rw[List.length_drop];omega
 ·exact Nat.le_refl _
theorem Mw{n:Nat}{g b:Nat→List AV}{e:Nat}(h:e<n):Bq n g b e=g e:=if_pos h
theorem Wp{a b:List UInt8}:(a == b)=decide (a=b):=by rw[Bool.eq_iff_iff,beq_iff_eq,decide_eq_true_eq]
@[reducible] def Avr{A:Act}{P:Act→Prop}(_:∀ a,Ag a=true→fitA a→P a→A=a):Act:=A
theorem Az0{s:List UInt8}{x:Act × Int}{A:Act}(hf:(∀ a,Ag a=true→fitA a→Bh a=s→False)→x=(C9,4))(hr:∀ a,Ag a=true→fitA a→Bh a=s→A=a)(hh:Ag A=false):x=(C9,4):=hf fun a hm hf hw=>by
 rw[hr a hm hf hw,hm] at hh;cases hh
theorem Az1{s:List UInt8}{x:Act × Int}{A:Act}(hf:(∀ a,Ag a=true→fitA a→Bh a=s→False)→x=(C9,4))(hr:∀ a,Ag a=true→fitA a→Bh a=s→A=a)(hh: ¬Bh A=s):x=(C9,4):=hf fun a hm hf hw=>by
 rw[hr a hm hf hw] at hh;exact hh hw
theorem Es:Ag C9=false:=by unfold Ag;rfl
noncomputable section
set_option maxRecDepth 100000
attribute [local irreducible] inK Utf8.decode Utf8.encode Lib.itoa Pl.worth Pl.allDig
attribute [local irreducible] Lib.join Bp Aa
def Asz:PC:=PC.fun fun|[.str s,.str p]=>some (p=[100,111,32]∧s.length≤100000000,.str (sS (Vp s)))|_=>none
def Cy:PT:=Cg []
theorem E1{W:World}(hW:Gd W):Cb (Fw W) Tryz.prog Cy:=Aq
def Mb:FuncId→Option Ctr:=Av Cy []
theorem Mc{W:World}(hW:Gd W):Ad (Fw W) Tryz.prog Mb:=(Ar (E1 hW))
def Kl:List (FuncId × Ctr):=(244,inl TY Mb Cy (fun _=>false) (fun _ _ _=>none) Tryz.f244)::[]
def Km:FuncId→Option Ctr:=Av Cy Kl
theorem Kn{W:World}(hW:Gd W):Ad (Fw W) Tryz.prog Km:=Ae Tryz.call244 (Ah rfl Ao (E1 hW) (Mc hW) Tryz.func244 (fun _ _ _=>none)) (Mc hW)
def Tz:List (FuncId × Ctr):=(178,inl TY Km Cy (fun _=>false) (fun _ _ _=>none) Tryz.f178)::Kl
def Gs:FuncId→Option Ctr:=Av Cy Tz
theorem T4{W:World}(hW:Gd W):Ad (Fw W) Tryz.prog Gs:=Ae Tryz.call178 (Ah rfl Ao (E1 hW) (Kn hW) Tryz.func178 (fun _ _ _=>none)) (Kn hW)
theorem Vq{W:World}(hW:Gd W):GoodP (Fw W) Tryz.prog 95 Asz:=by
 have hD:=E1 hW;have hC0:Ad (Fw W) Tryz.prog Gs:=(T4 hW);refine Au (D:=Cy) (C:=Gs) (wr:=(fun _=>false)) rfl Ao hD hC0 Tryz.func95 (fun _ _=>none) ?_;clear hC0 hD hW;intro cs p r h hf hp;split at h
 case h_2=>cases h
 rename_i s p;cases h;try simp only[Az,Bd,Aw,Go.Vc.lo,Go.Vc.hi,and_true] at hf
 obtain⟨hp3,hsl⟩:=hp;subst hp3;have h4:(([100,111,32]:List UInt8).length:Int)=3:=rfl;have t0:Lib.hasPrefix s [100,111,32]=false→s=Vp s:=fun h=>by unfold Vp;rw[if_neg (by rw[h];exact Bool.false_ne_true)]
 have t1:Lib.hasPrefix s [100,111,32]=true→s.drop 3=Vp s:=fun h=>by unfold Vp;rw[if_pos h]
 (conv=>whnf)
 (repeat' (first|(with_reducible refine Ap ?_)|refine⟨tU,?_⟩|split<;>rename_i hh<;>try simp only[wS] at hh|with_reducible refine lnI fun hln=>?_)<;>conv=>whnf)
 all_goals try(show _=_;simp only[wQ])
 ·rw[show Int.toNat (([100,111,32]:List UInt8).length:Int)=3 from rfl,List.take_of_length_le (by rw[List.length_drop];exact Nat.le_refl _)]
  exact t1 (qR.2 (by assumption))
 ·refine t0 ?_;cases hp:Lib.hasPrefix s [100,111,32] with
  |false=>rfl
  |true=>exact absurd (qR.1 hp) (by assumption)
 ·refine t0 (Aom ?_);exact Int.ofNat_lt.1 (by assumption)
def Amb:PC:=PC.of (fun x:List UInt8 × Act × Int=>[.str x.1]) (fun x=>dG x.1=x.2∧x.1.length≤1000000) (fun x=>.tup [.agg x.2.1.enc,.int .i64 x.2.2])
def O4:PT:=Cg [(26,Al9),(34,dF),(36,aS),(78,pL),(93,Wa),(94,cZ),(95,Asz),(96,Al8)]
theorem Vr{W:World}(hW:Gd W):Cb (Fw W) Tryz.prog O4:=(Ab Tryz.call26 (Au6 hW.1) (Ab Tryz.call34 (Aa3 hW.1) (Ab Tryz.call36 (qN hW.1) (Ab Tryz.call78 (pM hW.1) (Ab Tryz.call93 (G5 hW.1) (Ab Tryz.call94 (aL hW.1) (Ab Tryz.call95 (Vq hW) (Ab Tryz.call96 (pK hW) Aq))))))))
def O5:FuncId→Option Ctr:=Av O4 []
theorem qS{W:World}(hW:Gd W):Ad (Fw W) Tryz.prog O5:=(Ar (Vr hW))
theorem qT{W:World}(hW:Gd W):GoodP (Fw W) Tryz.prog 30 Amb:=by
 have hD:=Vr hW;have hC0:∀ x:List UInt8 × Act × Int,Ad (Fw W) Tryz.prog O5:=fun x=>(qS hW);refine As (D:=O4) (C:=fun x=>O5) (wr:=(fun _=>false)) rfl Ao hD hC0 Tryz.func30 (fun _ _=>none) (fun _=>rfl) ?_;intro x hf hp;clear hf;obtain⟨hq,hs⟩:=hp;have hlen1:=Di 32 x.1;have hsL:=Ck (Aa 32 x.1);have hlenW:(sL (Aa 32 x.1)).length≤1000001:=by rw[hsL];have:=Gw 32 x.1;omega
 have hmem:∀ i,((sL (Aa 32 x.1)).getD i []).length≤1000000:=fun i=>Fo hs i;have hfail:(∀ a,Ag a=true→fitA a→Bh a=x.1→False)→x.2=(C9,4):=fun h=>by rw[←hq];exact jD h
 have hdl:=Avp x.1;have htl:(sS (Vp x.1)).length≤100000000:=by rw[Cn];exact Nat.le_trans (Aon x.1) (Nat.le_trans hs (by decide))
 have hpr:(⟨#[100,111,32]⟩:ByteArray).data.toList=[100,111,32]∧x.1.length≤100000000:=⟨rfl,Nat.le_trans hs (by decide)⟩
 rcases hW0:sL (Aa 32 x.1) with _|⟨w0,_|⟨w1,_|⟨w2,ws⟩⟩⟩
 ·rw[←hsL,hW0] at hlen1;exact absurd hlen1 (by decide)
 focus
  have hc:Aa 32 x.1=[w0]:=hsL.symm.trans hW0;have d0:(Aa 32 x.1).getD 0 []=w0:=by rw[hc];rfl
  have d1:(Aa 32 x.1).getD 1 []=[]:=by rw[hc];rfl
  have d2:(Aa 32 x.1).getD 2 []=[]:=by rw[hc];rfl
  have hm1:∀ i,(([]:List (List UInt8)).getD i []).length≤100000000:=fun i=>by have:=hmem (i+1);rw[hW0] at this;exact Nat.le_trans this (by decide)
  have hm2:∀ i,(([]:List (List UInt8)).getD i []).length≤100000000:=fun i=>by have:=hmem (i+2);rw[hW0] at this;exact Nat.le_trans this (by decide)
  have hlw:[w0].length≤1000001:=by rw[←hW0];exact hlenW
  simp only[List.length_cons,List.length_nil] at hlw;by_cases hn1:w0=[100,111]
  focus
   subst hn1;rcases aU (doP x.1) with hr|⟨r,hmr,hr⟩
   ·have hz:x.2=(C9,4):=hfail fun a hm hf hw=>by
     have h3:=(hP d0 hm hf hw).2.2.1;rw[hr] at h3;cases h3
    refine⟨((x.1,32,[[100,111]]):List UInt8 × UInt8 × List (List UInt8)),⟨Nat.le_trans hs (by decide),hW0⟩,?_,?_⟩
    ·exact Ac _
    (conv=>whnf)
    (repeat' (first|((with_reducible refine aI ?_ ?_);focus (first|exact htl|exact hpr))|refine⟨tU,?_⟩|with_reducible refine lnI fun hln=>?_)<;>conv=>whnf)
    refine⟨((doP x.1,An,4):List UInt8 × Request × Int),⟨hr,Nat.le_trans hdl hs⟩,?_,?_⟩
    ·(conv=>whnf)
     (repeat' (first|with_reducible exact⟨⟩|with_reducible refine iA ?_ ?_)<;>conv=>whnf)
     all_goals try simp only[wQ]
     unfold doP;rfl
    (conv=>whnf)
    (repeat' (first|with_reducible exact⟨⟩|refine⟨tU,?_⟩|with_reducible refine iA ?_ ?_)<;>conv=>whnf)
    all_goals try(show _=_;simp only[wQ])
    all_goals (rw[hz]<;>rfl)
   have hsh:=Wo hmr;have hfit:fitA ⟨1,(Aj []).1,r,0,[],false⟩:=Gy;have hrd:∀ a,Ag a=true→fitA a→Bh a=x.1→(⟨1,(Aj []).1,r,0,[],false⟩:Act)=a:=fun a hm hf hw=>by
    have h3:=(hP d0 hm hf hw).1;unfold A1 at h3;rw[d1,hr] at h3;exact h3
   refine⟨((x.1,32,[[100,111]]):List UInt8 × UInt8 × List (List UInt8)),⟨Nat.le_trans hs (by decide),hW0⟩,?_,?_⟩
   ·exact Ac _
   (conv=>whnf)
   (repeat' (first|((with_reducible refine aI ?_ ?_);focus (first|exact htl|exact hpr))|refine⟨tU,?_⟩|with_reducible refine lnI fun hln=>?_)<;>conv=>whnf)
   refine⟨((doP x.1,r,0):List UInt8 × Request × Int),⟨hr,Nat.le_trans hdl hs⟩,?_,?_⟩
   ·(conv=>whnf)
    (repeat' (first|with_reducible exact⟨⟩|with_reducible refine iA ?_ ?_)<;>conv=>whnf)
    all_goals try simp only[wQ]
    unfold doP;rfl
   (conv=>whnf)
  rotate_left
  by_cases hn2:w0=[116,105,99,107]
  focus
   subst hn2;have hsh:=short_zero (r:=An) rfl;have hfit:fitA ⟨2,0,An,0,([]:List (List UInt8)).map Dg,false⟩:=Kb R2;have hrd:∀ a,Ag a=true→fitA a→Bh a=x.1→(⟨2,0,An,0,([]:List (List UInt8)).map Dg,false⟩:Act)=a:=fun a hm hf hw=>by
    have h3:=(Ah0 d0 hm hf hw).1;unfold A2 at h3;rw[hc] at h3;exact h3
   refine⟨((x.1,32,[[116,105,99,107]]):List UInt8 × UInt8 × List (List UInt8)),⟨Nat.le_trans hs (by decide),hW0⟩,?_,?_⟩
   ·exact Ac _
   (conv=>whnf)
   (repeat' (first|refine⟨tU,?_⟩|with_reducible refine lnI fun hln=>?_)<;>conv=>whnf)
   try refine⟨⟨by simp only[List.length_cons,List.length_nil];omega,fun e he=>by rw[Mw (by simp only[List.length_cons,List.length_nil] at he ⊢;omega)];rfl⟩,?_⟩
   refine⟨([]:List (List UInt8)),⟨by simp only[List.length_cons,List.length_nil];omega,hm1⟩,?_,?_⟩
   ·(conv=>whnf)
    (repeat' (first|with_reducible exact⟨⟩|refine⟨tA,?_⟩|with_reducible refine iA ?_ ?_)<;>conv=>whnf)
    all_goals try simp only[wQ]
    exact⟨fun h=>h,fun e he=>by rw[Mw (by have he2:e<0:=he;show 0+1+e<1;omega),show 0+Int.toNat 1+e=e+1 by(show 0+1+e=e+1;omega)];rfl⟩
   (conv=>whnf)
  rotate_left
  by_cases hn3:w0=[102,117,115,101]
  focus
   subst hn3;have hsh:=short_zero (r:=An) rfl;have hfit:fitA ⟨3,(Aj []).1,An,(Aj []).1,[],false⟩:=Gy;have hrd:∀ a,Ag a=true→fitA a→Bh a=x.1→(⟨3,(Aj []).1,An,(Aj []).1,[],false⟩:Act)=a:=fun a hm hf hw=>by
    have h3:=(Ac4 d0 hm hf hw).1;unfold A3 at h3;rw[d1,d2] at h3;exact h3
   refine⟨((x.1,32,[[102,117,115,101]]):List UInt8 × UInt8 × List (List UInt8)),⟨Nat.le_trans hs (by decide),hW0⟩,?_,?_⟩
   ·exact Ac _
   (conv=>whnf)
   (repeat' (first|refine⟨tU,?_⟩|with_reducible refine lnI fun hln=>?_)<;>conv=>whnf)
  rotate_left
  by_cases hn4:w0=[99,114,97,115,104]
  focus
   subst hn4;have hsh:=short_zero (r:=An) rfl;have hfit:fitA ⟨4,(Aj []).1,An,0,([]:List (List UInt8)).map Dg,false⟩:=Kb R2;have hrd:∀ a,Ag a=true→fitA a→Bh a=x.1→(⟨4,(Aj []).1,An,0,([]:List (List UInt8)).map Dg,false⟩:Act)=a:=fun a hm hf hw=>by
    have h3:=(Ah1 d0 hm hf hw).1;unfold A4 at h3;rw[d1,hc] at h3;exact h3
   refine⟨((x.1,32,[[99,114,97,115,104]]):List UInt8 × UInt8 × List (List UInt8)),⟨Nat.le_trans hs (by decide),hW0⟩,?_,?_⟩
   ·exact Ac _
   (conv=>whnf)
   (repeat' (first|refine⟨tU,?_⟩|split<;>rename_i hh<;>try simp only[wS] at hh|with_reducible refine lnI fun hln=>?_)<;>conv=>whnf)
   all_goals try (exfalso;first|exact absurd (show true=false by assumption) Bool.true_eq_false.mp|(simp only[List.length_cons,List.length_nil] at hh;omega))
   try refine⟨⟨by simp only[List.length_cons,List.length_nil];omega,fun e he=>by rw[Mw (by simp only[List.length_cons,List.length_nil] at he ⊢;omega)];rfl⟩,?_⟩
   refine⟨([]:List (List UInt8)),⟨by simp only[List.length_cons,List.length_nil];omega,hm2⟩,?_,?_⟩
   ·(conv=>whnf)
    (repeat' (first|with_reducible exact⟨⟩|refine⟨tA,?_⟩|with_reducible refine iA ?_ ?_)<;>conv=>whnf)
    all_goals try simp only[wQ]
    exact⟨fun h=>h,fun e he=>by rw[Mw (by have he2:e<0:=he;show 0+2+e<1;omega),show 0+Int.toNat 2+e=e+2 by(show 0+2+e=e+2;omega)];rfl⟩
   (conv=>whnf)
  rotate_left
  by_cases hn5:w0=[99,97,108,109]
  focus
   subst hn5;have hsh:=short_zero (r:=An) rfl;have hfit:fitA ⟨5,0,An,0,[],(([]:List UInt8) == [121,101,115])⟩:=Gy;have hrd:∀ a,Ag a=true→fitA a→Bh a=x.1→(⟨5,0,An,0,[],(([]:List UInt8) == [121,101,115])⟩:Act)=a:=fun a hm hf hw=>by
    have h3:=(Ah2 d0 hm hf hw).1;unfold A5 at h3;rw[d1] at h3;rw[Wp];exact h3
   refine⟨((x.1,32,[[99,97,108,109]]):List UInt8 × UInt8 × List (List UInt8)),⟨Nat.le_trans hs (by decide),hW0⟩,?_,?_⟩
   ·exact Ac _
   (conv=>whnf)
   (repeat' (first|refine⟨tU,?_⟩|with_reducible refine lnI fun hln=>?_)<;>conv=>whnf)
  rotate_left
  have hz:x.2=(C9,4):=hq.symm.trans (Aa4 (by rw[d0];exact hn1) (by rw[d0];exact hn2) (by rw[d0];exact hn3) (by rw[d0];exact hn4) (by rw[d0];exact hn5))
  focus
   have hn1: ¬(([w0]:List (List UInt8)).getD (0+Int.toNat 0) [])=[100,111]:=hn1;have hn2: ¬(([w0]:List (List UInt8)).getD (0+Int.toNat 0) [])=[116,105,99,107]:=hn2;have hn3: ¬(([w0]:List (List UInt8)).getD (0+Int.toNat 0) [])=[102,117,115,101]:=hn3;have hn4: ¬(([w0]:List (List UInt8)).getD (0+Int.toNat 0) [])=[99,114,97,115,104]:=hn4;have hn5: ¬(([w0]:List (List UInt8)).getD (0+Int.toNat 0) [])=[99,97,108,109]:=hn5;refine⟨((x.1,32,[w0]):List UInt8 × UInt8 × List (List UInt8)),⟨Nat.le_trans hs (by decide),hW0⟩,?_,?_⟩
   ·exact Ac _
   (conv=>whnf)
   (repeat' (first|((with_reducible refine aI ?_ ?_);focus (first|exact htl|exact hpr))|(exact absurd (by with_reducible assumption) hn1)|(exact absurd (by with_reducible assumption) hn2)|(exact absurd (by with_reducible assumption) hn3)|(exact absurd (by with_reducible assumption) hn4)|(exact absurd (by with_reducible assumption) hn5)|refine⟨tU,?_⟩|split<;>rename_i hh<;>try simp only[wS] at hh|with_reducible refine lnI fun hln=>?_)<;>conv=>whnf)
   refine⟨(C9:Act),short_zero rfl,?_,?_⟩
   ·exact tL
   (conv=>whnf)
   (repeat' (first|with_reducible exact⟨⟩|refine⟨tU,?_⟩|split<;>rename_i hh<;>try simp only[wS] at hh|with_reducible refine iA ?_ ?_)<;>conv=>whnf)
   all_goals first|(rw[hz]<;>rfl)|exact absurd (Es.symm.trans (by assumption)) (by decide)
 rotate_left 5
 focus
  have hc:Aa 32 x.1=[w0,w1]:=hsL.symm.trans hW0;have d0:(Aa 32 x.1).getD 0 []=w0:=by rw[hc];rfl
  have d1:(Aa 32 x.1).getD 1 []=w1:=by rw[hc];rfl
  have d2:(Aa 32 x.1).getD 2 []=[]:=by rw[hc];rfl
  have hm1:∀ i,(([w1]:List (List UInt8)).getD i []).length≤100000000:=fun i=>by have:=hmem (i+1);rw[hW0] at this;exact Nat.le_trans this (by decide)
  have hm2:∀ i,(([]:List (List UInt8)).getD i []).length≤100000000:=fun i=>by have:=hmem (i+2);rw[hW0] at this;exact Nat.le_trans this (by decide)
  have hlw:[w0,w1].length≤1000001:=by rw[←hW0];exact hlenW
  simp only[List.length_cons,List.length_nil] at hlw;by_cases hn1:w0=[100,111]
  focus
   subst hn1;rcases aU (doP x.1) with hr|⟨r,hmr,hr⟩
   ·have hz:x.2=(C9,4):=hfail fun a hm hf hw=>by
     have h3:=(hP d0 hm hf hw).2.2.1;rw[hr] at h3;cases h3
    refine⟨((x.1,32,[[100,111],w1]):List UInt8 × UInt8 × List (List UInt8)),⟨Nat.le_trans hs (by decide),hW0⟩,?_,?_⟩
    ·exact Ac _
    (conv=>whnf)
    (repeat' (first|((with_reducible refine aI ?_ ?_);focus (first|exact htl|exact hpr))|refine⟨tU,?_⟩|with_reducible refine lnI fun hln=>?_)<;>conv=>whnf)
    refine⟨((doP x.1,An,4):List UInt8 × Request × Int),⟨hr,Nat.le_trans hdl hs⟩,?_,?_⟩
    ·(conv=>whnf)
     (repeat' (first|with_reducible exact⟨⟩|with_reducible refine iA ?_ ?_)<;>conv=>whnf)
     all_goals try simp only[wQ]
     unfold doP;rfl
    (conv=>whnf)
    (repeat' (first|with_reducible exact⟨⟩|refine⟨tU,?_⟩|with_reducible refine iA ?_ ?_)<;>conv=>whnf)
    all_goals try(show _=_;simp only[wQ])
    all_goals (rw[hz]<;>rfl)
   have hsh:=Wo hmr;have hfit:fitA ⟨1,(Aj w1).1,r,0,[],false⟩:=Gy;have hrd:∀ a,Ag a=true→fitA a→Bh a=x.1→(⟨1,(Aj w1).1,r,0,[],false⟩:Act)=a:=fun a hm hf hw=>by
    have h3:=(hP d0 hm hf hw).1;unfold A1 at h3;rw[d1,hr] at h3;exact h3
   refine⟨((x.1,32,[[100,111],w1]):List UInt8 × UInt8 × List (List UInt8)),⟨Nat.le_trans hs (by decide),hW0⟩,?_,?_⟩
   ·exact Ac _
   (conv=>whnf)
   (repeat' (first|((with_reducible refine aI ?_ ?_);focus (first|exact htl|exact hpr))|refine⟨tU,?_⟩|with_reducible refine lnI fun hln=>?_)<;>conv=>whnf)
   refine⟨((doP x.1,r,0):List UInt8 × Request × Int),⟨hr,Nat.le_trans hdl hs⟩,?_,?_⟩
   ·(conv=>whnf)
    (repeat' (first|with_reducible exact⟨⟩|with_reducible refine iA ?_ ?_)<;>conv=>whnf)
    all_goals try simp only[wQ]
    unfold doP;rfl
   (conv=>whnf)
  rotate_left
  by_cases hn2:w0=[116,105,99,107]
  focus
   subst hn2;have hsh:=short_zero (r:=An) rfl;have hfit:fitA ⟨2,0,An,0,([w1]:List (List UInt8)).map Dg,false⟩:=Kb R2;have hrd:∀ a,Ag a=true→fitA a→Bh a=x.1→(⟨2,0,An,0,([w1]:List (List UInt8)).map Dg,false⟩:Act)=a:=fun a hm hf hw=>by
    have h3:=(Ah0 d0 hm hf hw).1;unfold A2 at h3;rw[hc] at h3;exact h3
   refine⟨((x.1,32,[[116,105,99,107],w1]):List UInt8 × UInt8 × List (List UInt8)),⟨Nat.le_trans hs (by decide),hW0⟩,?_,?_⟩
   ·exact Ac _
   (conv=>whnf)
   (repeat' (first|refine⟨tU,?_⟩|with_reducible refine lnI fun hln=>?_)<;>conv=>whnf)
   try refine⟨⟨by simp only[List.length_cons,List.length_nil];omega,fun e he=>by rw[Mw (by simp only[List.length_cons,List.length_nil] at he ⊢;omega)];rfl⟩,?_⟩
   refine⟨([w1]:List (List UInt8)),⟨by simp only[List.length_cons,List.length_nil];omega,hm1⟩,?_,?_⟩
   ·(conv=>whnf)
    (repeat' (first|with_reducible exact⟨⟩|refine⟨tA,?_⟩|with_reducible refine iA ?_ ?_)<;>conv=>whnf)
    all_goals try simp only[wQ]
    exact⟨fun h=>h,fun e he=>by rw[Mw (by have he2:e<1:=he;show 0+1+e<2;omega),show 0+Int.toNat 1+e=e+1 by(show 0+1+e=e+1;omega)];rfl⟩
   (conv=>whnf)
  rotate_left
  by_cases hn3:w0=[102,117,115,101]
  focus
   subst hn3;have hsh:=short_zero (r:=An) rfl;have hfit:fitA ⟨3,(Aj w1).1,An,(Aj []).1,[],false⟩:=Gy;have hrd:∀ a,Ag a=true→fitA a→Bh a=x.1→(⟨3,(Aj w1).1,An,(Aj []).1,[],false⟩:Act)=a:=fun a hm hf hw=>by
    have h3:=(Ac4 d0 hm hf hw).1;unfold A3 at h3;rw[d1,d2] at h3;exact h3
   refine⟨((x.1,32,[[102,117,115,101],w1]):List UInt8 × UInt8 × List (List UInt8)),⟨Nat.le_trans hs (by decide),hW0⟩,?_,?_⟩
   ·exact Ac _
   (conv=>whnf)
   (repeat' (first|refine⟨tU,?_⟩|with_reducible refine lnI fun hln=>?_)<;>conv=>whnf)
  rotate_left
  by_cases hn4:w0=[99,114,97,115,104]
  focus
   subst hn4;have hsh:=short_zero (r:=An) rfl;have hfit:fitA ⟨4,(Aj w1).1,An,0,([]:List (List UInt8)).map Dg,false⟩:=Kb R2;have hrd:∀ a,Ag a=true→fitA a→Bh a=x.1→(⟨4,(Aj w1).1,An,0,([]:List (List UInt8)).map Dg,false⟩:Act)=a:=fun a hm hf hw=>by
    have h3:=(Ah1 d0 hm hf hw).1;unfold A4 at h3;rw[d1,hc] at h3;exact h3
   refine⟨((x.1,32,[[99,114,97,115,104],w1]):List UInt8 × UInt8 × List (List UInt8)),⟨Nat.le_trans hs (by decide),hW0⟩,?_,?_⟩
   ·exact Ac _
   (conv=>whnf)
   (repeat' (first|refine⟨tU,?_⟩|split<;>rename_i hh<;>try simp only[wS] at hh|with_reducible refine lnI fun hln=>?_)<;>conv=>whnf)
   all_goals try (exfalso;first|exact absurd (show true=false by assumption) Bool.true_eq_false.mp|(simp only[List.length_cons,List.length_nil] at hh;omega))
   try refine⟨⟨by simp only[List.length_cons,List.length_nil];omega,fun e he=>by rw[Mw (by simp only[List.length_cons,List.length_nil] at he ⊢;omega)];rfl⟩,?_⟩
   refine⟨([]:List (List UInt8)),⟨by simp only[List.length_cons,List.length_nil];omega,hm2⟩,?_,?_⟩
   ·(conv=>whnf)
    (repeat' (first|with_reducible exact⟨⟩|refine⟨tA,?_⟩|with_reducible refine iA ?_ ?_)<;>conv=>whnf)
    all_goals try simp only[wQ]
    exact⟨fun h=>h,fun e he=>by rw[Mw (by have he2:e<0:=he;show 0+2+e<2;omega),show 0+Int.toNat 2+e=e+2 by(show 0+2+e=e+2;omega)];rfl⟩
   (conv=>whnf)
  rotate_left
  by_cases hn5:w0=[99,97,108,109]
  focus
   subst hn5;have hsh:=short_zero (r:=An) rfl;have hfit:fitA ⟨5,0,An,0,[],((w1:List UInt8) == [121,101,115])⟩:=Gy;have hrd:∀ a,Ag a=true→fitA a→Bh a=x.1→(⟨5,0,An,0,[],((w1:List UInt8) == [121,101,115])⟩:Act)=a:=fun a hm hf hw=>by
    have h3:=(Ah2 d0 hm hf hw).1;unfold A5 at h3;rw[d1] at h3;rw[Wp];exact h3
   refine⟨((x.1,32,[[99,97,108,109],w1]):List UInt8 × UInt8 × List (List UInt8)),⟨Nat.le_trans hs (by decide),hW0⟩,?_,?_⟩
   ·exact Ac _
   (conv=>whnf)
   (repeat' (first|refine⟨tU,?_⟩|with_reducible refine lnI fun hln=>?_)<;>conv=>whnf)
  rotate_left
  have hz:x.2=(C9,4):=hq.symm.trans (Aa4 (by rw[d0];exact hn1) (by rw[d0];exact hn2) (by rw[d0];exact hn3) (by rw[d0];exact hn4) (by rw[d0];exact hn5))
  focus
   have hn1: ¬(([w0,w1]:List (List UInt8)).getD (0+Int.toNat 0) [])=[100,111]:=hn1;have hn2: ¬(([w0,w1]:List (List UInt8)).getD (0+Int.toNat 0) [])=[116,105,99,107]:=hn2;have hn3: ¬(([w0,w1]:List (List UInt8)).getD (0+Int.toNat 0) [])=[102,117,115,101]:=hn3;have hn4: ¬(([w0,w1]:List (List UInt8)).getD (0+Int.toNat 0) [])=[99,114,97,115,104]:=hn4;have hn5: ¬(([w0,w1]:List (List UInt8)).getD (0+Int.toNat 0) [])=[99,97,108,109]:=hn5;refine⟨((x.1,32,[w0,w1]):List UInt8 × UInt8 × List (List UInt8)),⟨Nat.le_trans hs (by decide),hW0⟩,?_,?_⟩
   ·exact Ac _
   (conv=>whnf)
   (repeat' (first|((with_reducible refine aI ?_ ?_);focus (first|exact htl|exact hpr))|(exact absurd (by with_reducible assumption) hn1)|(exact absurd (by with_reducible assumption) hn2)|(exact absurd (by with_reducible assumption) hn3)|(exact absurd (by with_reducible assumption) hn4)|(exact absurd (by with_reducible assumption) hn5)|refine⟨tU,?_⟩|split<;>rename_i hh<;>try simp only[wS] at hh|with_reducible refine lnI fun hln=>?_)<;>conv=>whnf)
   refine⟨(C9:Act),short_zero rfl,?_,?_⟩
   ·exact tL
   (conv=>whnf)
   (repeat' (first|with_reducible exact⟨⟩|refine⟨tU,?_⟩|split<;>rename_i hh<;>try simp only[wS] at hh|with_reducible refine iA ?_ ?_)<;>conv=>whnf)
   all_goals first|(rw[hz]<;>rfl)|exact absurd (Es.symm.trans (by assumption)) (by decide)
 rotate_left 5
 focus
  have hc:Aa 32 x.1=(w0::w1::w2::ws):=hsL.symm.trans hW0;have d0:(Aa 32 x.1).getD 0 []=w0:=by rw[hc];rfl
  have d1:(Aa 32 x.1).getD 1 []=w1:=by rw[hc];rfl
  have d2:(Aa 32 x.1).getD 2 []=w2:=by rw[hc];rfl
  have hm1:∀ i,(((w1::w2::ws):List (List UInt8)).getD i []).length≤100000000:=fun i=>by have:=hmem (i+1);rw[hW0] at this;exact Nat.le_trans this (by decide)
  have hm2:∀ i,(((w2::ws):List (List UInt8)).getD i []).length≤100000000:=fun i=>by have:=hmem (i+2);rw[hW0] at this;exact Nat.le_trans this (by decide)
  have hlw:(w0::w1::w2::ws).length≤1000001:=by rw[←hW0];exact hlenW
  simp only[List.length_cons,List.length_nil] at hlw;by_cases hn1:w0=[100,111]
  focus
   subst hn1;rcases aU (doP x.1) with hr|⟨r,hmr,hr⟩
   ·have hz:x.2=(C9,4):=hfail fun a hm hf hw=>by
     have h3:=(hP d0 hm hf hw).2.2.1;rw[hr] at h3;cases h3
    refine⟨((x.1,32,([100,111]::w1::w2::ws)):List UInt8 × UInt8 × List (List UInt8)),⟨Nat.le_trans hs (by decide),hW0⟩,?_,?_⟩
    ·exact Ac _
    (conv=>whnf)
    (repeat' (first|((with_reducible refine aI ?_ ?_);focus (first|exact htl|exact hpr))|refine⟨tU,?_⟩|with_reducible refine lnI fun hln=>?_)<;>conv=>whnf)
    refine⟨((doP x.1,An,4):List UInt8 × Request × Int),⟨hr,Nat.le_trans hdl hs⟩,?_,?_⟩
    ·(conv=>whnf)
     (repeat' (first|with_reducible exact⟨⟩|with_reducible refine iA ?_ ?_)<;>conv=>whnf)
     all_goals try simp only[wQ]
     unfold doP;rfl
    (conv=>whnf)
    (repeat' (first|with_reducible exact⟨⟩|refine⟨tU,?_⟩|with_reducible refine iA ?_ ?_)<;>conv=>whnf)
    all_goals try(show _=_;simp only[wQ])
    all_goals (rw[hz]<;>rfl)
   have hsh:=Wo hmr;have hfit:fitA ⟨1,(Aj w1).1,r,0,[],false⟩:=Gy;have hrd:∀ a,Ag a=true→fitA a→Bh a=x.1→(⟨1,(Aj w1).1,r,0,[],false⟩:Act)=a:=fun a hm hf hw=>by
    have h3:=(hP d0 hm hf hw).1;unfold A1 at h3;rw[d1,hr] at h3;exact h3
   refine⟨((x.1,32,([100,111]::w1::w2::ws)):List UInt8 × UInt8 × List (List UInt8)),⟨Nat.le_trans hs (by decide),hW0⟩,?_,?_⟩
   ·exact Ac _
   (conv=>whnf)
   (repeat' (first|((with_reducible refine aI ?_ ?_);focus (first|exact htl|exact hpr))|refine⟨tU,?_⟩|with_reducible refine lnI fun hln=>?_)<;>conv=>whnf)
   refine⟨((doP x.1,r,0):List UInt8 × Request × Int),⟨hr,Nat.le_trans hdl hs⟩,?_,?_⟩
   ·(conv=>whnf)
    (repeat' (first|with_reducible exact⟨⟩|with_reducible refine iA ?_ ?_)<;>conv=>whnf)
    all_goals try simp only[wQ]
    unfold doP;rfl
   (conv=>whnf)
  rotate_left
  by_cases hn2:w0=[116,105,99,107]
  focus
   subst hn2;have hsh:=short_zero (r:=An) rfl;have hfit:fitA ⟨2,0,An,0,((w1::w2::ws):List (List UInt8)).map Dg,false⟩:=Kb R2;have hrd:∀ a,Ag a=true→fitA a→Bh a=x.1→(⟨2,0,An,0,((w1::w2::ws):List (List UInt8)).map Dg,false⟩:Act)=a:=fun a hm hf hw=>by
    have h3:=(Ah0 d0 hm hf hw).1;unfold A2 at h3;rw[hc] at h3;exact h3
   refine⟨((x.1,32,([116,105,99,107]::w1::w2::ws)):List UInt8 × UInt8 × List (List UInt8)),⟨Nat.le_trans hs (by decide),hW0⟩,?_,?_⟩
   ·exact Ac _
   (conv=>whnf)
   (repeat' (first|refine⟨tU,?_⟩|with_reducible refine lnI fun hln=>?_)<;>conv=>whnf)
   try refine⟨⟨by simp only[List.length_cons,List.length_nil];omega,fun e he=>by rw[Mw (by simp only[List.length_cons,List.length_nil] at he ⊢;omega)];rfl⟩,?_⟩
   refine⟨((w1::w2::ws):List (List UInt8)),⟨by simp only[List.length_cons,List.length_nil];omega,hm1⟩,?_,?_⟩
   ·(conv=>whnf)
    (repeat' (first|with_reducible exact⟨⟩|refine⟨tA,?_⟩|with_reducible refine iA ?_ ?_)<;>conv=>whnf)
    all_goals try simp only[wQ]
    exact⟨by simp only[List.length_cons,List.length_nil];omega,fun h=>h,fun e he=>by rw[Mw (by simp only[List.length_cons,List.length_nil] at he ⊢;omega),show 0+Int.toNat 1+e=e+1 by(show 0+1+e=e+1;omega)];rfl⟩
   (conv=>whnf)
  rotate_left
  by_cases hn3:w0=[102,117,115,101]
  focus
   subst hn3;have hsh:=short_zero (r:=An) rfl;have hfit:fitA ⟨3,(Aj w1).1,An,(Aj w2).1,[],false⟩:=Gy;have hrd:∀ a,Ag a=true→fitA a→Bh a=x.1→(⟨3,(Aj w1).1,An,(Aj w2).1,[],false⟩:Act)=a:=fun a hm hf hw=>by
    have h3:=(Ac4 d0 hm hf hw).1;unfold A3 at h3;rw[d1,d2] at h3;exact h3
   refine⟨((x.1,32,([102,117,115,101]::w1::w2::ws)):List UInt8 × UInt8 × List (List UInt8)),⟨Nat.le_trans hs (by decide),hW0⟩,?_,?_⟩
   ·exact Ac _
   (conv=>whnf)
   (repeat' (first|refine⟨tU,?_⟩|with_reducible refine lnI fun hln=>?_)<;>conv=>whnf)
  rotate_left
  by_cases hn4:w0=[99,114,97,115,104]
  focus
   subst hn4;have hsh:=short_zero (r:=An) rfl;have hfit:fitA ⟨4,(Aj w1).1,An,0,((w2::ws):List (List UInt8)).map Dg,false⟩:=Kb R2;have hrd:∀ a,Ag a=true→fitA a→Bh a=x.1→(⟨4,(Aj w1).1,An,0,((w2::ws):List (List UInt8)).map Dg,false⟩:Act)=a:=fun a hm hf hw=>by
    have h3:=(Ah1 d0 hm hf hw).1;unfold A4 at h3;rw[d1,hc] at h3;exact h3
   refine⟨((x.1,32,([99,114,97,115,104]::w1::w2::ws)):List UInt8 × UInt8 × List (List UInt8)),⟨Nat.le_trans hs (by decide),hW0⟩,?_,?_⟩
   ·exact Ac _
   (conv=>whnf)
   (repeat' (first|refine⟨tU,?_⟩|split<;>rename_i hh<;>try simp only[wS] at hh|with_reducible refine lnI fun hln=>?_)<;>conv=>whnf)
   all_goals try (exfalso;first|exact absurd (show true=false by assumption) Bool.true_eq_false.mp|(simp only[List.length_cons,List.length_nil] at hh;omega))
   try refine⟨⟨by simp only[List.length_cons,List.length_nil];omega,fun e he=>by rw[Mw (by simp only[List.length_cons,List.length_nil] at he ⊢;omega)];rfl⟩,?_⟩
   refine⟨((w2::ws):List (List UInt8)),⟨by simp only[List.length_cons,List.length_nil];omega,hm2⟩,?_,?_⟩
   ·(conv=>whnf)
    (repeat' (first|with_reducible exact⟨⟩|refine⟨tA,?_⟩|with_reducible refine iA ?_ ?_)<;>conv=>whnf)
    all_goals try simp only[wQ]
    exact⟨by simp only[List.length_cons,List.length_nil];omega,fun h=>h,fun e he=>by rw[Mw (by simp only[List.length_cons,List.length_nil] at he ⊢;omega),show 0+Int.toNat 2+e=e+2 by(show 0+2+e=e+2;omega)];rfl⟩
   (conv=>whnf)
  rotate_left
  by_cases hn5:w0=[99,97,108,109]
  focus
   subst hn5;have hsh:=short_zero (r:=An) rfl;have hfit:fitA ⟨5,0,An,0,[],((w1:List UInt8) == [121,101,115])⟩:=Gy;have hrd:∀ a,Ag a=true→fitA a→Bh a=x.1→(⟨5,0,An,0,[],((w1:List UInt8) == [121,101,115])⟩:Act)=a:=fun a hm hf hw=>by
    have h3:=(Ah2 d0 hm hf hw).1;unfold A5 at h3;rw[d1] at h3;rw[Wp];exact h3
   refine⟨((x.1,32,([99,97,108,109]::w1::w2::ws)):List UInt8 × UInt8 × List (List UInt8)),⟨Nat.le_trans hs (by decide),hW0⟩,?_,?_⟩
   ·exact Ac _
   (conv=>whnf)
   (repeat' (first|refine⟨tU,?_⟩|with_reducible refine lnI fun hln=>?_)<;>conv=>whnf)
  rotate_left
  have hz:x.2=(C9,4):=hq.symm.trans (Aa4 (by rw[d0];exact hn1) (by rw[d0];exact hn2) (by rw[d0];exact hn3) (by rw[d0];exact hn4) (by rw[d0];exact hn5))
  focus
   have hn1: ¬(((w0::w1::w2::ws):List (List UInt8)).getD (0+Int.toNat 0) [])=[100,111]:=hn1;have hn2: ¬(((w0::w1::w2::ws):List (List UInt8)).getD (0+Int.toNat 0) [])=[116,105,99,107]:=hn2;have hn3: ¬(((w0::w1::w2::ws):List (List UInt8)).getD (0+Int.toNat 0) [])=[102,117,115,101]:=hn3;have hn4: ¬(((w0::w1::w2::ws):List (List UInt8)).getD (0+Int.toNat 0) [])=[99,114,97,115,104]:=hn4;have hn5: ¬(((w0::w1::w2::ws):List (List UInt8)).getD (0+Int.toNat 0) [])=[99,97,108,109]:=hn5;refine⟨((x.1,32,(w0::w1::w2::ws)):List UInt8 × UInt8 × List (List UInt8)),⟨Nat.le_trans hs (by decide),hW0⟩,?_,?_⟩
   ·exact Ac _
   (conv=>whnf)
   (repeat' (first|((with_reducible refine aI ?_ ?_);focus (first|exact htl|exact hpr))|(exact absurd (by with_reducible assumption) hn1)|(exact absurd (by with_reducible assumption) hn2)|(exact absurd (by with_reducible assumption) hn3)|(exact absurd (by with_reducible assumption) hn4)|(exact absurd (by with_reducible assumption) hn5)|refine⟨tU,?_⟩|split<;>rename_i hh<;>try simp only[wS] at hh|with_reducible refine lnI fun hln=>?_)<;>conv=>whnf)
   refine⟨(C9:Act),short_zero rfl,?_,?_⟩
   ·exact tL
   (conv=>whnf)
   (repeat' (first|with_reducible exact⟨⟩|refine⟨tU,?_⟩|split<;>rename_i hh<;>try simp only[wS] at hh|with_reducible refine iA ?_ ?_)<;>conv=>whnf)
   all_goals first|(rw[hz]<;>rfl)|exact absurd (Es.symm.trans (by assumption)) (by decide)
 rotate_left 5
 all_goals (
  refine⟨Avr hrd,hsh,?_,?_⟩
  ·exact tL
  (conv=>whnf)
  (repeat' (first|with_reducible exact⟨⟩|refine⟨tU,?_⟩|split<;>rename_i hh<;>try simp only[wS] at hh|with_reducible refine iA ?_ ?_)<;>conv=>whnf)
  all_goals try (rw[Az0 hfail hrd hh]<;>rfl)
  refine⟨Avr hrd,hsh,?_,?_⟩
  ·exact tL
  (conv=>whnf)
  (repeat' (first|with_reducible exact⟨⟩|refine⟨tU,?_⟩|split<;>rename_i hh<;>try simp only[wS] at hh|with_reducible refine iA ?_ ?_)<;>conv=>whnf)
  all_goals try(show _=_;simp only[wQ])
  all_goals try (rw[Az1 hfail hrd hh]<;>rfl)
  all_goals (
   rw[hq.symm.trans (qP (by assumption) hfit (by assumption) hrd)]
   all_goals first|rfl|exact⟨rfl,fun h=>h,fun _ _=>rfl⟩))
end
end Go.Vc.Z
