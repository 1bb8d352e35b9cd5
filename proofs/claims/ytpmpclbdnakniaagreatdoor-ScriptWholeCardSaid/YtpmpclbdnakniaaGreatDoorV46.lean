/- Scripts of any text: the plain law. -/
import Derived.Test.YtpmpclbdnakniaaGreatDoorV45
set_option linter.all false
set_option linter.unusedVariables false
set_option linter.unusedSimpArgs false
namespace Go.Vc.Z
open Go Go.Vc Go.Proofs Go.RowKit Go.Pl Go.Lib
noncomputable section
theorem Asu{l:List Site}{k:Int}{A:List Act}:
  (scL ⟨l,k⟩ A).getD 0 []=Lib.join (Nx k) [32]∧(∀ i,i<l.length→(scL ⟨l,k⟩ A).getD (i+1) []=Lib.join (Ex (l.getD i default)) [32])∧(∀ i,i<A.length→(scL ⟨l,k⟩ A).getD (l.length+1+i) []=Bt (A.getD i default)):=by
 unfold scL Jw
 refine⟨rfl,fun i hi=>?_,fun i hi=>?_⟩
 ·simp[List.getD_eq_getElem?_getD,List.getElem?_append_left,hi]
 ·simp only[List.getD_eq_getElem?_getD]
  rw[List.getElem?_append_right (by simp)]
  simp[hi]
theorem Ai8{l:List Site}{k:Int}{A:List Act}:(scL ⟨l,k⟩ A).length=l.length+1+A.length:=by
 unfold scL Jw;simp;omega
theorem Apm{a:Act}(h:Af a=true): ¬(Aa 32 (Bt a)).getD 0 []=[115,105,116,101]:=by
 rw[Av8 h]
 rcases D9 h with k|k|k|k|k<;>rw[k]<;>decide
theorem Wx{α:Type}[Inhabited α]{l:List α}{i:Nat}(h:i<l.length):l.take (i+1)=l.take i++[l.getD i default]:=by
 rw[List.take_add_one,List.getElem?_eq_getElem h,List.getD_eq_getElem?_getD,List.getElem?_eq_getElem h];rfl
theorem Us{l:List (List UInt8)}{n e:Nat}:(l.drop n).getD e []=l.getD (n+e) []:=by simp[List.getD_eq_getElem?_getD]
@[irreducible] def Kx(t:List UInt8)(s:Setup)(A:List Act):Prop:=Dt s=true∧A.length≤10000∧(∀ i,i<A.length→Af (A.getD i default)=true∧fitA (A.getD i default))∧t=scW s A
@[irreducible] def R2(t:List UInt8)(i:Nat)(S:List Site)(B:List Act)(K:Int):Prop:=∀ s C,Kx t s C→S=s.sites.take (i - 1)∧B=C.take (i - 1 - s.sites.length)∧K=if i=0 then 0 else s.k
def dF(t:List UInt8)(W:List (List UInt8))(d:Nat):Prop:=∀ s C,Kx t s C→W.length=s.sites.length+1+C.length+d∧W.getD 0 []=Lib.join (Nx s.k) [32]∧(∀ i,i<s.sites.length→W.getD (i+1) []=Lib.join (Ex (s.sites.getD i default)) [32])∧(∀ i,i<C.length→W.getD (s.sites.length+1+i) []=Bt (C.getD i default))
theorem Ak8(t:List UInt8):dF t (Aa 10 (Jk t)) 0:=by
 rintro⟨l,k⟩ C h
 unfold Kx at h
 obtain⟨_,_,_,rfl⟩:=h
 rw[Ai7]
 exact⟨by rw[Ai8];rfl,Asu⟩
theorem Agx{t:List UInt8}{s:Setup}{C:List Act}(h:Kx t s C):(1≤s.sites.length∧s.sites.length≤4)∧(1≤s.k∧s.k≤64)∧∀ i,i<s.sites.length→Oq (s.sites.getD i default)=true:=by
 unfold Kx at h
 obtain⟨l,k⟩:=s
 obtain⟨h1,h2,h3,_⟩:=Np h.1
 exact⟨h1,h2,fun i hi=>h3 _ (by rw[List.getD_eq_getElem?_getD,List.getElem?_eq_getElem hi];exact List.getElem_mem _)⟩
theorem Apn{t:List UInt8}{s:Setup}{C:List Act}(h:Kx t s C){i:Nat}(hi:i<C.length):Af (C.getD i default)=true∧fitA (C.getD i default):=by
 unfold Kx at h;exact h.2.2.1 i hi
@[irreducible] def Ny(w:List (List UInt8)):Site × Bool:=if w.length=6∧(Aj (w.getD 0 [])).2=true∧(Aj (w.getD 1 [])).2=true∧(Aj (w.getD 2 [])).2=true∧(Aj (w.getD 3 [])).2=true∧(Aj (w.getD 4 [])).2=true∧(Aj (w.getD 5 [])).2=true then(⟨(Aj (w.getD 0 [])).1,(Aj (w.getD 1 [])).1,(Aj (w.getD 2 [])).1,(Aj (w.getD 3 [])).1,(Aj (w.getD 4 [])).1,(Aj (w.getD 5 [])).1⟩,true) else(⟨0,0,0,0,0,0⟩,false)
theorem cN{s:Site}(h:Oq s=true):Ny ((Ex s).drop 1)=(s,true):=by
 obtain⟨h1,h2,h3,h4,h5,h6⟩:=zZ h
 have w1:=B9 (n:=s.carrier) h1.1 (by omega)
 have w2:=B9 (n:=s.first) h2.1 (by omega)
 have w3:=B9 (n:=s.count) h3.1 (by omega)
 have w4:=B9 (n:=s.sectors) h4.1 (by omega)
 have w5:=B9 (n:=s.pages) h5.1 (by omega)
 have w6:=B9 (n:=s.frames) h6.1 (by omega)
 unfold Ny
 rw[if_pos ⟨rfl,congrArg Prod.snd w1,congrArg Prod.snd w2,congrArg Prod.snd w3,congrArg Prod.snd w4,congrArg Prod.snd w5,congrArg Prod.snd w6⟩]
 show((⟨(Aj (Lib.itoa s.carrier)).1,(Aj (Lib.itoa s.first)).1,(Aj (Lib.itoa s.count)).1,(Aj (Lib.itoa s.sectors)).1,(Aj (Lib.itoa s.pages)).1,(Aj (Lib.itoa s.frames)).1⟩:Site),true)=(s,true)
 rw[w1,w2,w3,w4,w5,w6]
section
variable {t : List UInt8} {W : List (List UInt8)} {d i : Nat} {S : List Site} {B : List Act} {K : Int}
theorem Ak9:R2 t 0 [] [] 0:=by unfold R2;intro s C h;exact⟨by simp,by simp,rfl⟩
theorem Agy(hW:dF t W d){s:Setup}{C:List Act}(h:Kx t s C):Aa 32 (W.getD 0 [])=[[110,101,116],Lib.itoa s.k]:=by
 rw[(hW s C h).2.1,Ast];rfl
theorem A40(hW:dF t W d){K:Int}(hK:K=(Aj ((Aa 32 (W.getD 0 [])).getD 1 [])).1∨K=M1 ((Aa 32 (W.getD 0 [])).getD 1 [])):R2 t 1 [] [] K:=by
 unfold R2
 intro s C h
 refine⟨by simp,by simp,?_⟩
 rw[Agy hW h] at hK
 have hk:=(Agx h).2.1
 rw[if_neg (by decide)]
 rcases hK with rfl|rfl
 ·exact congrArg Prod.fst (B9 (n:=s.k) (by omega) (by omega))
 ·exact M9 (n:=s.k) (by omega) (by omega)
theorem A20(hW:dF t W d)(hi:i+d<W.length)(h0:1≤i∨¬(Aa 32 (W.getD i [])).length=2)(hw:(Aa 32 (W.getD i [])).getD 0 []=[115,105,116,101]){s:Setup}{C:List Act}(h:Kx t s C):1≤i∧i - 1<s.sites.length∧Aa 32 (W.getD i [])=Ex (s.sites.getD (i - 1) default):=by
 obtain⟨l1,g0,g1,g2⟩:=hW s C h
 have hi1:1≤i:=by
  rcases Nat.eq_zero_or_pos i with rfl|hp
  ·rcases h0 with h0|h0
   ·omega
   ·rw[Agy hW h] at h0;exact absurd rfl h0
  ·exact hp
 have hlt:i - 1<s.sites.length:=by
  rcases Nat.lt_or_ge (i - 1) s.sites.length with hl|hl
  ·exact hl
  ·have hj:i - 1 - s.sites.length<C.length:=by omega
   have e:=g2 _ hj
   rw[show s.sites.length+1+(i - 1 - s.sites.length)=i by omega] at e
   rw[e] at hw
   exact absurd hw (Apm (Apn h hj).1)
 have e:=g1 _ hlt
 rw[show i - 1+1=i by omega] at e
 exact⟨hi1,hlt,by rw[e,Ae3]⟩
theorem Axu(hs:R2 t i S [] K){x:Site}(hx:∀ s C,Kx t s C→1≤i∧i - 1<s.sites.length∧x=s.sites.getD (i - 1) default):R2 t (i+1) (S++[x]) [] K:=by
 unfold R2 at hs ⊢
 intro s C h
 obtain⟨h1,h2,h3⟩:=hs s C h
 obtain⟨g1,g2,g3⟩:=hx s C h
 refine⟨?_,?_,?_⟩
 ·rw[h1,g3,←Wx g2,show i - 1+1=i+1 - 1 by omega]
 ·rw[show i+1 - 1 - s.sites.length=0 by omega];rfl
 ·rw[h3,if_neg (by omega),if_neg (by omega)]
theorem A21(hW:dF t W d)(hi:i+d<W.length)(h0:1≤i∨¬(Aa 32 (W.getD i [])).length=2)(hw:(Aa 32 (W.getD i [])).getD 0 []=[115,105,116,101])(hs:R2 t i S [] K):R2 t (i+1) (S++[(Ny ((Aa 32 (W.getD i [])).drop 1)).1]) [] K:=
 Axu hs fun s C h=>by
  obtain⟨h1,h2,h3⟩:=A20 hW hi h0 hw h
  refine⟨h1,h2,?_⟩
  rw[h3,cN ((Agx h).2.2 _ h2)]
theorem A22(hW:dF t W d)(hi:i+d<W.length)(h0:1≤i∨¬(Aa 32 (W.getD i [])).length=2)(hw:(Aa 32 (W.getD i [])).getD 0 []=[115,105,116,101])(hn:(Ny ((Aa 32 (W.getD i [])).drop 1)).2=false):∀ s C,¬Kx t s C:=fun s C h=>by
 obtain⟨h1,h2,h3⟩:=A20 hW hi h0 hw h
 rw[h3,cN ((Agx h).2.2 _ h2)] at hn
 cases hn
theorem A23(hW:dF t W d)(hi:i+d<W.length){s:Setup}{C:List Act}(h:Kx t s C)(hn:s.sites.length<i):i - 1 - s.sites.length<C.length∧dD (W.getD i [])=(C.getD (i - 1 - s.sites.length) default,0):=by
 obtain⟨l1,g0,g1,g2⟩:=hW s C h
 have hj:i - 1 - s.sites.length<C.length:=by omega
 have e:=g2 _ hj
 rw[show s.sites.length+1+(i - 1 - s.sites.length)=i by omega] at e
 obtain⟨m1,m2⟩:=Apn h hj
 exact⟨hj,by rw[e];exact xJ m1 m2⟩
theorem A24(hW:dF t W d)(hs:R2 t i S B K)(h0:1≤i∨¬(Aa 32 (W.getD i [])).length=2)(hw: ¬(Aa 32 (W.getD i [])).getD 0 []=[115,105,116,101]∨0<B.length):∀ s C,Kx t s C→s.sites.length<i:=fun s C h=>by
 obtain⟨l1,g0,g1,g2⟩:=hW s C h
 rcases Nat.lt_or_ge s.sites.length i with hl|hl
 ·exact hl
 ·exfalso
  rcases Nat.eq_zero_or_pos i with rfl|hp
  ·rcases h0 with h0|h0
   ·omega
   ·rw[Agy hW h] at h0;exact absurd rfl h0
  ·have e:=g1 (i - 1) (by omega)
   rw[show i - 1+1=i by omega] at e
   rcases hw with hw|hw
   ·rw[e,Ae3] at hw;exact absurd rfl hw
   ·unfold R2 at hs
    have h2:=(hs s C h).2.1
    rw[show i - 1 - s.sites.length=0 by omega] at h2
    rw[h2] at hw;exact absurd hw (Nat.lt_irrefl 0)
theorem A25(hW:dF t W d)(hi:i+d<W.length)(hs:R2 t i S B K)(hn:∀ s C,Kx t s C→s.sites.length<i){a:Act}(ha:dD (W.getD i [])=(a,0)):R2 t (i+1) S (B++[a]) K:=by
 unfold R2 at hs ⊢
 intro s C h
 obtain⟨h1,h2,h3⟩:=hs s C h
 have hl:=hn s C h
 obtain⟨g1,g2⟩:=A23 hW hi h hl
 cases ha.symm.trans g2
 refine⟨?_,?_,?_⟩
 ·rw[h1,List.take_of_length_le (by omega),List.take_of_length_le (by omega)]
 ·rw[h2,←Wx g1,show i - 1 - s.sites.length+1=i+1 - 1 - s.sites.length by omega]
 ·rw[h3,if_neg (by omega),if_neg (by omega)]
theorem A26(hW:dF t W d)(hi:i+d<W.length)(hn:∀ s C,Kx t s C→s.sites.length<i){x:Act × Int}(ha:dD (W.getD i [])=x)(he: ¬x.2=0):∀ s C,¬Kx t s C:=fun s C h=>by
 rw[←ha,(A23 hW hi h (hn s C h)).2] at he;exact he rfl
theorem Axv(hW:dF t W d)(hi:W.length≤i+d)(hs:R2 t i S B K):∀ s C,Kx t s C→s=⟨S,K⟩∧C=B:=fun s C h=>by
 obtain⟨l1,_⟩:=hW s C h
 unfold R2 at hs
 obtain⟨h1,h2,h3⟩:=hs s C h
 rw[List.take_of_length_le (by omega)] at h1 h2
 rw[if_neg (by omega)] at h3
 obtain⟨l,k⟩:=s
 exact⟨by rw[h1,h3],h2.symm⟩
end
theorem Agz{s:Setup}{A:List Act}{u:List UInt8}(h:Lh s A=(u,0)):Dt s=true∧A.length≤10000∧u=scW s A:=by
 unfold Lh at h
 split at h
 ·cases h
 ·split at h
  ·rename_i h1 h2;cases h;exact⟨h2.1,by omega,rfl⟩
  ·cases h
@[irreducible] def Ag0(t:List UInt8)(s:Setup)(A:List Act)(e:Int):Prop:=(e=0∧Kx t s A)∨(e=4∧s=⟨[],0⟩∧A=[]∧∀ s C,¬Kx t s C)
theorem Aaa{t:List UInt8}{s:Setup}{A:List Act}{e:Int}(h:Ag0 t s A e)(hn:∀ s C,¬Kx t s C):e=4∧s=⟨[],0⟩∧A=[]:=by
 unfold Ag0 at h
 rcases h with ⟨_,h⟩|⟨h1,h2,h3,_⟩
 ·exact absurd h (hn _ _)
 ·exact⟨h1,h2,h3⟩
theorem Apo{t:List UInt8}{s:Setup}{A:List Act}{e:Int}(h:Ag0 t s A e){x:Setup}{B:List Act}(hx:Kx t x B)(hu:∀ s C,Kx t s C→s=x∧C=B):e=0∧s=x∧A=B:=by
 unfold Ag0 at h
 rcases h with ⟨h0,h⟩|⟨_,_,_,h⟩
 ·exact⟨h0,hu _ _ h⟩
 ·exact absurd hx (h _ _)
end
end Go.Vc.Z
namespace Go.Vc.Z
open Go Go.Vc Go.Proofs Go.RowKit Go.Pl Go.Lib
theorem xR{w:List (List UInt8)}(h: ¬(w.length=6∧(Aj (w.getD 0 [])).2=true∧(Aj (w.getD 1 [])).2=true∧(Aj (w.getD 2 [])).2=true∧(Aj (w.getD 3 [])).2=true∧(Aj (w.getD 4 [])).2=true∧(Aj (w.getD 5 [])).2=true)):Ny w=(⟨0,0,0,0,0,0⟩,false):=by unfold Ny;rw[if_neg h]
theorem Ag1{w:List (List UInt8)}(h:w.length=6∧(Aj (w.getD 0 [])).2=true∧(Aj (w.getD 1 [])).2=true∧(Aj (w.getD 2 [])).2=true∧(Aj (w.getD 3 [])).2=true∧(Aj (w.getD 4 [])).2=true∧(Aj (w.getD 5 [])).2=true):Ny w=(⟨(Aj (w.getD 0 [])).1,(Aj (w.getD 1 [])).1,(Aj (w.getD 2 [])).1,(Aj (w.getD 3 [])).1,(Aj (w.getD 4 [])).1,(Aj (w.getD 5 [])).1⟩,true):=by unfold Ny;rw[if_pos h]
theorem Ala{s:List UInt8}{c:UInt8}(h:1≤s.length):s.drop (s.length - 1)=[c]↔s.getLast? =some c:=by
 obtain⟨t,d,rfl⟩:∃ t d,s=t++[d]:=⟨s.dropLast,s.getLast (by intro e;rw[e] at h;simp at h),(List.dropLast_concat_getLast _).symm⟩
 simp
noncomputable section
set_option maxRecDepth 100000
attribute [local irreducible] inK Utf8.decode Utf8.encode Lib.itoa Pl.worth Pl.allDig
attribute [local irreducible] Lib.join Bw Aa
def Ai9:PC:=PC.fun fun|[.str s,.str p]=>some (p=[10],.str (sS (Jk s)))|_=>none
def Da:PT:=C2 []
theorem Ey{W:World}(hW:Tabs W):Cl (Fw W) Tryz.prog Da:=As
def Li:FuncId→Option Ctr:=Aw Da []
theorem Lj{W:World}(hW:Tabs W):Ad (Fw W) Tryz.prog Li:=(Au (Ey hW))
def Jx:List (FuncId × Ctr):=(251,inl TY Li Da (fun _=>false) (fun _ _ _=>none) Tryz.f251)::[]
def Jy:FuncId→Option Ctr:=Aw Da Jx
theorem Jz{W:World}(hW:Tabs W):Ad (Fw W) Tryz.prog Jy:=Ae Tryz.call251 (Ag rfl Ap (Ey hW) (Lj hW) Tryz.func251 (fun _ _ _=>none)) (Lj hW)
def R3:List (FuncId × Ctr):=(184,inl TY Jy Da (fun _=>false) (fun _ _ _=>none) Tryz.f184)::Jx
def Ge:FuncId→Option Ctr:=Aw Da R3
theorem R4{W:World}(hW:Tabs W):Ad (Fw W) Tryz.prog Ge:=Ae Tryz.call184 (Ag rfl Ap (Ey hW) (Jz hW) Tryz.func184 (fun _ _ _=>none)) (Jz hW)
theorem Tr{W:World}(hW:Tabs W):GoodP (Fw W) Tryz.prog 104 Ai9:=by
 have hD:=Ey hW
 have hC0:Ad (Fw W) Tryz.prog Ge:=(R4 hW)
 refine Az (D:=Da) (C:=Ge) (wr:=(fun _=>false)) rfl Ap hD hC0 Tryz.func104 (fun _ _=>none) ?_
 clear hC0 hD hW
 intro cs p r h hf hp
 split at h
 case h_2=>cases h
 rename_i s p
 cases h
 try simp only[Ax,Bh,Am,Go.Vc.lo,Go.Vc.hi,and_true] at hf
 subst hp
 have h4:(([10]:List UInt8).length:Int)=1:=rfl
 have t0: ¬s.getLast? =some 10→s=Jk s:=fun h=>by unfold Jk;rw[if_neg h]
 have t1:s.getLast? =some 10→s.dropLast=Jk s:=fun h=>by unfold Jk;rw[if_pos h]
 have e1:1≤s.length→((s.length:Int) - (([10]:List UInt8).length:Int)).toNat=s.length - 1:=fun h=>by rw[h4];omega
 have e2:1≤s.length→(List.take (s.length - ((s.length:Int) - (([10]:List UInt8).length:Int)).toNat) (List.drop ((s.length:Int) - (([10]:List UInt8).length:Int)).toNat s)=[10]↔s.getLast? =some 10):=fun h=>by
  rw[e1 h,List.take_of_length_le (by rw[List.length_drop];exact Nat.le_refl _)];exact Ala h
 have hpos:(([10]:List UInt8).length:Int)≤(s.length:Int)→1≤s.length:=fun h=>by rw[h4] at h;omega
 (conv=>whnf)
 (repeat' ((first
  |(with_reducible refine Ao ?_)
  |((with_reducible refine aI ?_ ?_);focus (first|omega|exact tK))
  |(split<;>rename_i hh<;>(try simp only[wS] at hh))
  |with_reducible refine lnI fun hln=>?_
  |fail)<;>(conv=>whnf)))
 all_goals (try (show _=_;simp only[wQ]))
 ·have hl:=hpos (by assumption)
  rw[e1 hl,List.drop_zero,Nat.sub_zero,←List.dropLast_eq_take]
  exact t1 ((e2 hl).1 (by assumption))
 ·exact t0 (fun h=>absurd ((e2 (hpos (by assumption))).2 h) (by assumption))
 ·refine t0 fun h=>?_
  have:s=[]:=List.length_eq_zero_iff.1 (by rw[h4] at*;omega)
  rw[this] at h;cases h
def Ae4:PC:=PC.of (fun x:List (List UInt8) × Site × Bool=>[slS x.1]) (fun x=>Ny x.1=x.2) (fun x=>.tup [.agg x.2.1.enc,.bool x.2.2])
def Pe:PT:=C2 [(93,Ua)]
theorem Vp{W:World}(hW:Tabs W):Cl (Fw W) Tryz.prog Pe:=(Ab Tryz.call93 (Gs hW) As)
def Pf:FuncId→Option Ctr:=Aw Pe []
theorem oO{W:World}(hW:Tabs W):Ad (Fw W) Tryz.prog Pf:=(Au (Vp hW))
def oP:List (List UInt8) × Site × Bool→Nat→Option LR:=fun x i=>cond (Nat.beq i 5) (some (.unroll 7)) (none)
set_option maxHeartbeats 4000000 in
theorem oQ{W:World}(hW:Tabs W):GoodP (Fw W) Tryz.prog 105 Ae4:=by
 have hD:=Vp hW
 have hC0:∀ x:List (List UInt8) × Site × Bool,Ad (Fw W) Tryz.prog Pf:=fun x=>(oO hW)
 refine Ar (D:=Pe) (C:=fun x=>Pf) (wr:=(fun _=>false)) rfl Ap hD hC0 Tryz.func105 (oP) (fun _=>rfl) ?_
 rintro⟨L,y,b⟩ hf hp
 clear hf
 change Ny L=(y,b) at hp
 by_cases h6:L.length=6
 ·rcases L with _|⟨a0,_|⟨a1,_|⟨a2,_|⟨a3,_|⟨a4,_|⟨a5,_|⟨a6,L⟩⟩⟩⟩⟩⟩⟩
  all_goals try (simp only[List.length_cons,List.length_nil] at h6;omega)
  by_cases hall:(Aj a0).2=true∧(Aj a1).2=true∧(Aj a2).2=true∧(Aj a3).2=true∧(Aj a4).2=true∧(Aj a5).2=true
  ·cases hp.symm.trans (Ag1 ⟨rfl,hall⟩)
   obtain⟨c0,c1,c2,c3,c4,c5⟩:=hall
   (conv=>whnf)
   (repeat' ((first
    |with_reducible exact⟨⟩
    |(exact Bool.noConfusion (c0.symm.trans hh))
    |(exact Bool.noConfusion (c1.symm.trans hh))
    |(exact Bool.noConfusion (c2.symm.trans hh))
    |(exact Bool.noConfusion (c3.symm.trans hh))
    |(exact Bool.noConfusion (c4.symm.trans hh))
    |(exact Bool.noConfusion (c5.symm.trans hh))
    |((with_reducible refine aI ?_ ?_);focus (first|with_reducible exact⟨⟩|with_reducible rfl|omega|exact tK))
    |(split<;>rename_i hh<;>(try simp only[wS] at hh))
    |with_reducible refine lnI fun hln=>?_
    |with_reducible refine iA ?_ ?_
    |fail)<;>(conv=>whnf)))
   all_goals (try (show _=_;simp only[wQ]))
   all_goals first|rfl|skip
  ·cases hp.symm.trans (xR fun h=>hall h.2)
   (conv=>whnf)
   (repeat' ((first
    |with_reducible exact⟨⟩
    |((with_reducible refine aI ?_ ?_);focus (first|with_reducible exact⟨⟩|with_reducible rfl|omega|exact tK))
    |(split<;>rename_i hh<;>(try simp only[wS] at hh))
    |with_reducible refine lnI fun hln=>?_
    |with_reducible refine iA ?_ ?_
    |fail)<;>(conv=>whnf)))
   all_goals (try (show _=_;simp only[wQ]))
   all_goals first|rfl|exact absurd ⟨by assumption,by assumption,by assumption,by assumption,by assumption,by assumption⟩ hall
 ·cases hp.symm.trans (xR fun h=>h6 h.1)
  (conv=>whnf)
  (repeat' ((first
   |with_reducible exact⟨⟩
   |((with_reducible refine aI ?_ ?_);focus (first|with_reducible exact⟨⟩|with_reducible rfl|omega))
   |(split<;>rename_i hh<;>(try simp only[wS] at hh))
   |with_reducible refine lnI fun hln=>?_
   |with_reducible refine iA ?_ ?_
   |fail)<;>(conv=>whnf)))
  all_goals first|rfl|(exfalso;omega)|skip
end
end Go.Vc.Z
