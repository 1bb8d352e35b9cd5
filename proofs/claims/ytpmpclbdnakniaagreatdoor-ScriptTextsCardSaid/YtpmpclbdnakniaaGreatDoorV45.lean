/- Scripts of any text: the plain law. -/
import Derived.Test.YtpmpclbdnakniaaGreatDoorV44
set_option linter.all false
set_option maxHeartbeats 8000000
namespace Go.Vc.Z
open Go Go.Vc Go.Proofs Go.RowKit Go.Pl Go.Lib
noncomputable section
theorem Amg{l:List Site}{k:Int}{A:List Act}:
  (scL ⟨l,k⟩ A).getD 0 []=Lib.join (O7 k) [32]∧(∀ i,i<l.length→(scL ⟨l,k⟩ A).getD (i+1) []=Lib.join (Ei (l.getD i default)) [32])∧(∀ i,i<A.length→(scL ⟨l,k⟩ A).getD (l.length+1+i) []=Bh (A.getD i default)):=by
 unfold scL Md;refine⟨rfl,fun i hi=>?_,fun i hi=>?_⟩
 ·simp[List.getD_eq_getElem?_getD,List.getElem?_append_left,hi]
 ·simp only[List.getD_eq_getElem?_getD];rw[List.getElem?_append_right (by simp)]
  simp[hi]
theorem Amh{l:List Site}{k:Int}{A:List Act}:(scL ⟨l,k⟩ A).length=l.length+1+A.length:=by
 unfold scL Md;simp;omega
theorem As4{a:Act}(h:Ag a=true): ¬(Aa 32 (Bh a)).getD 0 []=[115,105,116,101]:=by
 rw[Azz h];rcases D6 h with k|k|k|k|k<;>rw[k]<;>decide
theorem qX{α:Type}[Inhabited α]{l:List α}{i:Nat}(h:i<l.length):l.take (i+1)=l.take i++[l.getD i default]:=by
 rw[List.take_add_one,List.getElem?_eq_getElem h,List.getD_eq_getElem?_getD,List.getElem?_eq_getElem h];rfl
theorem Aba{l:List (List UInt8)}{n e:Nat}:(l.drop n).getD e []=l.getD (n+e) []:=by simp[List.getD_eq_getElem?_getD]
@[irreducible] def Fx(t:List UInt8)(s:Setup)(A:List Act):Prop:=Tx s=true∧A.length≤10000∧(∀ i,i<A.length→Ag (A.getD i default)=true∧fitA (A.getD i default))∧t=scW s A
@[irreducible] def Nk(t:List UInt8)(i:Nat)(S:List Site)(B:List Act)(K:Int):Prop:=∀ s C,Fx t s C→S=s.sites.take (i - 1)∧B=C.take (i - 1 - s.sites.length)∧K=if i=0 then 0 else s.k
def Vs(t:List UInt8)(W:List (List UInt8))(d:Nat):Prop:=∀ s C,Fx t s C→W.length=s.sites.length+1+C.length+d∧W.getD 0 []=Lib.join (O7 s.k) [32]∧(∀ i,i<s.sites.length→W.getD (i+1) []=Lib.join (Ei (s.sites.getD i default)) [32])∧(∀ i,i<C.length→W.getD (s.sites.length+1+i) []=Bh (C.getD i default))
theorem Aos(t:List UInt8):Vs t (Aa 10 (Ko t)) 0:=by
 rintro⟨l,k⟩ C h;unfold Fx at h;obtain⟨_,_,_,rfl⟩:=h;rw[Av9];exact⟨by rw[Amh];rfl,Amg⟩
theorem Aic(x:Setup)(A:List Act):Aa 10 (scW x A)=scL x A++[[]]:=by
 have e:scW x A=Lib.join (scL x A++[[]]) [10]:=by
  have:∀ L:List (List UInt8),L≠[]→Lib.join (L++[[]]) [10]=Lib.join L [10]++[10]:=by
   intro L;induction L with
   |nil=>intro h;exact absurd rfl h
   |cons a L ih=>
    intro _;cases L with
    |nil=>simp[Lib.join]
    |cons b L=>rw[List.cons_append,List.cons_append,Eu,Eu,←List.cons_append,ih (by simp)];simp
  unfold scW;rw[dI (Ac6 x A),this _ (Ac6 x A)]
 rw[e];refine Ff (by simp) fun w hw=>?_
 rcases List.mem_append.1 hw with h|h
 ·exact As2 x A w h
 ·rw[List.mem_singleton.1 h];exact List.not_mem_nil
theorem Aid(t:List UInt8):Vs t (Aa 10 t) 1∧∀ s C,Fx t s C→(Aa 10 t).getD ((Aa 10 t).length - 1) []=[]:=by
 constructor
 ·rintro⟨l,k⟩ C h;unfold Fx at h;obtain⟨_,_,_,rfl⟩:=h;rw[Aic];have hl:=Amh (l:=l) (k:=k) (A:=C);obtain⟨g0,g1,g2⟩:=Amg (l:=l) (k:=k) (A:=C);refine⟨by rw[List.length_append,hl];rfl,?_,fun i hi=>?_,fun i hi=>?_⟩
  ·rw[←g0,List.getD_eq_getElem?_getD,List.getD_eq_getElem?_getD,List.getElem?_append_left (by omega)]
  ·rw[←g1 i hi,List.getD_eq_getElem?_getD,List.getD_eq_getElem?_getD,List.getElem?_append_left (by rw[hl];show i+1<l.length+1+C.length;change i<l.length at hi;omega)]
  ·rw[←g2 i hi,List.getD_eq_getElem?_getD,List.getD_eq_getElem?_getD,List.getElem?_append_left (by rw[hl];show l.length+1+i<l.length+1+C.length;omega)]
 ·intro s C h;unfold Fx at h;obtain⟨_,_,_,rfl⟩:=h;rw[Aic];simp
theorem qY{t:List UInt8}{s:Setup}{C:List Act}(h:Fx t s C):(1≤s.sites.length∧s.sites.length≤4)∧(1≤s.k∧s.k≤64)∧∀ i,i<s.sites.length→L2 (s.sites.getD i default)=true:=by
 unfold Fx at h;obtain⟨l,k⟩:=s;obtain⟨h1,h2,h3,_⟩:=S5 h.1;exact⟨h1,h2,fun i hi=>h3 _ (by rw[List.getD_eq_getElem?_getD,List.getElem?_eq_getElem hi];exact List.getElem_mem _)⟩
theorem As5{t:List UInt8}{s:Setup}{C:List Act}(h:Fx t s C){i:Nat}(hi:i<C.length):Ag (C.getD i default)=true∧fitA (C.getD i default):=by
 unfold Fx at h;exact h.2.2.1 i hi
@[irreducible] def O8(w:List (List UInt8)):Site × Bool:=if w.length=6∧(Aj (w.getD 0 [])).2=true∧(Aj (w.getD 1 [])).2=true∧(Aj (w.getD 2 [])).2=true∧(Aj (w.getD 3 [])).2=true∧(Aj (w.getD 4 [])).2=true∧(Aj (w.getD 5 [])).2=true then(⟨(Aj (w.getD 0 [])).1,(Aj (w.getD 1 [])).1,(Aj (w.getD 2 [])).1,(Aj (w.getD 3 [])).1,(Aj (w.getD 4 [])).1,(Aj (w.getD 5 [])).1⟩,true) else(⟨0,0,0,0,0,0⟩,false)
@[irreducible] def qZ(w:List (List UInt8)):Site:=⟨Ay (w.getD 1 []),Ay (w.getD 2 []),Ay (w.getD 3 []),Ay (w.getD 4 []),Ay (w.getD 5 []),Ay (w.getD 6 [])⟩
theorem gE{s:Site}(h:L2 s=true):O8 ((Ei s).drop 1)=(s,true):=by
 obtain⟨h1,h2,h3,h4,h5,h6⟩:=jF h;have w1:=By (n:=s.carrier) h1.1 (by omega)
 have w2:=By (n:=s.first) h2.1 (by omega)
 have w3:=By (n:=s.count) h3.1 (by omega)
 have w4:=By (n:=s.sectors) h4.1 (by omega)
 have w5:=By (n:=s.pages) h5.1 (by omega)
 have w6:=By (n:=s.frames) h6.1 (by omega)
 unfold O8;rw[if_pos ⟨rfl,congrArg Prod.snd w1,congrArg Prod.snd w2,congrArg Prod.snd w3,congrArg Prod.snd w4,congrArg Prod.snd w5,congrArg Prod.snd w6⟩];show((⟨(Aj (Lib.itoa s.carrier)).1,(Aj (Lib.itoa s.first)).1,(Aj (Lib.itoa s.count)).1,(Aj (Lib.itoa s.sectors)).1,(Aj (Lib.itoa s.pages)).1,(Aj (Lib.itoa s.frames)).1⟩:Site),true)=(s,true)
 rw[w1,w2,w3,w4,w5,w6]
theorem Aie{s:Site}(h:L2 s=true):qZ (Ei s)=s:=by
 obtain⟨h1,h2,h3,h4,h5,h6⟩:=jF h;unfold qZ Ei;show(⟨Ay (Lib.itoa s.carrier),Ay (Lib.itoa s.first),Ay (Lib.itoa s.count),Ay (Lib.itoa s.sectors),Ay (Lib.itoa s.pages),Ay (Lib.itoa s.frames)⟩:Site)=s
 rw[Bz h1.1 (by omega),Bz h2.1 (by omega),Bz h3.1 (by omega),Bz h4.1 (by omega),Bz h5.1 (by omega),Bz h6.1 (by omega)]
section
variable {t : List UInt8} {W : List (List UInt8)} {d i : Nat} {S : List Site} {B : List Act} {K : Int}
theorem Aot:Nk t 0 [] [] 0:=by unfold Nk;intro s C h;exact⟨by simp,by simp,rfl⟩
theorem Ac7(hW:Vs t W d){s:Setup}{C:List Act}(h:Fx t s C):Aa 32 (W.getD 0 [])=[[110,101,116],Lib.itoa s.k]:=by
 rw[(hW s C h).2.1,Awa];rfl
theorem A6s(hW:Vs t W d){K:Int}(hK:K=(Aj ((Aa 32 (W.getD 0 [])).getD 1 [])).1∨K=Ay ((Aa 32 (W.getD 0 [])).getD 1 [])):Nk t 1 [] [] K:=by
 unfold Nk;intro s C h;refine⟨by simp,by simp,?_⟩
 rw[Ac7 hW h] at hK;have hk:=(qY h).2.1;rw[if_neg (by decide)]
 rcases hK with rfl|rfl
 ·exact congrArg Prod.fst (By (n:=s.k) (by omega) (by omega))
 ·exact Bz (n:=s.k) (by omega) (by omega)
theorem A1b(hW:Vs t W d)(hi:i+d<W.length)(h0:1≤i∨¬(Aa 32 (W.getD i [])).length=2)(hw:(Aa 32 (W.getD i [])).getD 0 []=[115,105,116,101]){s:Setup}{C:List Act}(h:Fx t s C):1≤i∧i - 1<s.sites.length∧Aa 32 (W.getD i [])=Ei (s.sites.getD (i - 1) default):=by
 obtain⟨l1,g0,g1,g2⟩:=hW s C h;have hi1:1≤i:=by
  rcases Nat.eq_zero_or_pos i with rfl|hp
  ·rcases h0 with h0|h0
   ·omega
   ·rw[Ac7 hW h] at h0;exact absurd rfl h0
  ·exact hp
 have hlt:i - 1<s.sites.length:=by
  rcases Nat.lt_or_ge (i - 1) s.sites.length with hl|hl
  ·exact hl
  ·have hj:i - 1 - s.sites.length<C.length:=(by omega);have e:=g2 _ hj;rw[show s.sites.length+1+(i - 1 - s.sites.length)=i by omega] at e
   rw[e] at hw;exact absurd hw (As4 (As5 h hj).1)
 have e:=g1 _ hlt;rw[show i - 1+1=i by omega] at e
 exact⟨hi1,hlt,by rw[e,qW]⟩
theorem As6(hs:Nk t i S [] K){x:Site}(hx:∀ s C,Fx t s C→1≤i∧i - 1<s.sites.length∧x=s.sites.getD (i - 1) default):Nk t (i+1) (S++[x]) [] K:=by
 unfold Nk at hs ⊢;intro s C h;obtain⟨h1,h2,h3⟩:=hs s C h;obtain⟨g1,g2,g3⟩:=hx s C h;refine⟨?_,?_,?_⟩
 ·rw[h1,g3,←qX g2,show i - 1+1=i+1 - 1 by omega]
 ·rw[show i+1 - 1 - s.sites.length=0 by omega];rfl
 ·rw[h3,if_neg (by omega),if_neg (by omega)]
theorem A6t(hW:Vs t W d)(hi:i+d<W.length)(h0:1≤i∨¬(Aa 32 (W.getD i [])).length=2)(hw:(Aa 32 (W.getD i [])).getD 0 []=[115,105,116,101])(hs:Nk t i S [] K):Nk t (i+1) (S++[(O8 ((Aa 32 (W.getD i [])).drop 1)).1]) [] K:=
 As6 hs fun s C h=>by
  obtain⟨h1,h2,h3⟩:=A1b hW hi h0 hw h;refine⟨h1,h2,?_⟩;rw[h3,gE ((qY h).2.2 _ h2)]
theorem A6u(hW:Vs t W d)(hi:i+d<W.length)(h0:1≤i∨¬(Aa 32 (W.getD i [])).length=2)(hw:(Aa 32 (W.getD i [])).getD 0 []=[115,105,116,101])(hn:(O8 ((Aa 32 (W.getD i [])).drop 1)).2=false):∀ s C,¬Fx t s C:=fun s C h=>by
 obtain⟨h1,h2,h3⟩:=A1b hW hi h0 hw h;rw[h3,gE ((qY h).2.2 _ h2)] at hn;cases hn
theorem A6v(hW:Vs t W d)(hi:i+d<W.length)(h0:1≤i)(hw:(Aa 32 (W.getD i [])).getD 0 []=[115,105,116,101])(hs:Nk t i S [] K):Nk t (i+1) (S++[qZ (Aa 32 (W.getD i []))]) [] K:=
 As6 hs fun s C h=>by
  obtain⟨h1,h2,h3⟩:=A1b hW hi (.inl h0) hw h;refine⟨h1,h2,?_⟩;rw[h3,Aie ((qY h).2.2 _ h2)]
theorem A6w(hW:Vs t W d)(hw:W.length≤i+d∨¬((Aa 32 (W.getD i [])).length=7∧(Aa 32 (W.getD i [])).getD 0 []=[115,105,116,101]))(h0:1≤i):∀ s C,Fx t s C→s.sites.length<i:=fun s C h=>by
 obtain⟨l1,g0,g1,g2⟩:=hW s C h;rcases Nat.lt_or_ge s.sites.length i with hl|hl
 ·exact hl
 ·rcases hw with hw|hw
  ·omega
  ·have e:=g1 (i - 1) (by omega)
   rw[show i - 1+1=i by omega] at e
   rw[e,qW] at hw;exact absurd ⟨rfl,rfl⟩ hw
theorem A6x(hW:Vs t W d)(hi:i+d<W.length){s:Setup}{C:List Act}(h:Fx t s C)(hn:s.sites.length<i):i - 1 - s.sites.length<C.length∧dG (W.getD i [])=(C.getD (i - 1 - s.sites.length) default,0):=by
 obtain⟨l1,g0,g1,g2⟩:=hW s C h;have hj:i - 1 - s.sites.length<C.length:=by omega
 have e:=g2 _ hj;rw[show s.sites.length+1+(i - 1 - s.sites.length)=i by omega] at e
 obtain⟨m1,m2⟩:=As5 h hj;exact⟨hj,by rw[e];exact Aa5 m1 m2⟩
theorem A6y(hW:Vs t W d)(hs:Nk t i S B K)(h0:1≤i∨¬(Aa 32 (W.getD i [])).length=2)(hw: ¬(Aa 32 (W.getD i [])).getD 0 []=[115,105,116,101]∨0<B.length):∀ s C,Fx t s C→s.sites.length<i:=fun s C h=>by
 obtain⟨l1,g0,g1,g2⟩:=hW s C h;rcases Nat.lt_or_ge s.sites.length i with hl|hl
 ·exact hl
 ·exfalso;rcases Nat.eq_zero_or_pos i with rfl|hp
  ·rcases h0 with h0|h0
   ·omega
   ·rw[Ac7 hW h] at h0;exact absurd rfl h0
  ·have e:=g1 (i - 1) (by omega)
   rw[show i - 1+1=i by omega] at e
   rcases hw with hw|hw
   ·rw[e,qW] at hw;exact absurd rfl hw
   ·unfold Nk at hs;have h2:=(hs s C h).2.1;rw[show i - 1 - s.sites.length=0 by omega] at h2
    rw[h2] at hw;exact absurd hw (Nat.lt_irrefl 0)
theorem Az3(hW:Vs t W d)(hi:i+d<W.length)(hs:Nk t i S B K)(hn:∀ s C,Fx t s C→s.sites.length<i){a:Act}(ha:dG (W.getD i [])=(a,0)):Nk t (i+1) S (B++[a]) K:=by
 unfold Nk at hs ⊢;intro s C h;obtain⟨h1,h2,h3⟩:=hs s C h;have hl:=hn s C h;obtain⟨g1,g2⟩:=A6x hW hi h hl;cases ha.symm.trans g2;refine⟨?_,?_,?_⟩
 ·rw[h1,List.take_of_length_le (by omega),List.take_of_length_le (by omega)]
 ·rw[h2,←qX g1,show i - 1 - s.sites.length+1=i+1 - 1 - s.sites.length by omega]
 ·rw[h3,if_neg (by omega),if_neg (by omega)]
theorem Az4(hW:Vs t W d)(hi:i+d<W.length)(hn:∀ s C,Fx t s C→s.sites.length<i){x:Act × Int}(ha:dG (W.getD i [])=x)(he: ¬x.2=0):∀ s C,¬Fx t s C:=fun s C h=>by
 rw[←ha,(A6x hW hi h (hn s C h)).2] at he;exact he rfl
theorem As7(hW:Vs t W d)(hi:W.length≤i+d)(hs:Nk t i S B K):∀ s C,Fx t s C→s=⟨S,K⟩∧C=B:=fun s C h=>by
 obtain⟨l1,_⟩:=hW s C h;unfold Nk at hs;obtain⟨h1,h2,h3⟩:=hs s C h;rw[List.take_of_length_le (by omega)] at h1 h2
 rw[if_neg (by omega)] at h3
 obtain⟨l,k⟩:=s;exact⟨by rw[h1,h3],h2.symm⟩
end
theorem Aj6{s:Setup}{A:List Act}{u:List UInt8}(h:R3 s A=(u,0)):Tx s=true∧A.length≤10000∧u=scW s A:=by
 unfold R3 at h;split at h
 ·cases h
 ·split at h
  ·rename_i h1 h2;cases h;exact⟨h2.1,by omega,rfl⟩
  ·cases h
@[irreducible] def dM(t:List UInt8)(s:Setup)(A:List Act)(e:Int):Prop:=(e=0∧Fx t s A)∨(e=4∧s=⟨[],0⟩∧A=[]∧∀ s C,¬Fx t s C)
theorem Lr{t:List UInt8}{s:Setup}{A:List Act}{e:Int}(h:dM t s A e)(hn:∀ s C,¬Fx t s C):e=4∧s=⟨[],0⟩∧A=[]:=by
 unfold dM at h;rcases h with ⟨_,h⟩|⟨h1,h2,h3,_⟩
 ·exact absurd h (hn _ _)
 ·exact⟨h1,h2,h3⟩
theorem Aif{t:List UInt8}{s:Setup}{A:List Act}{e:Int}(h:dM t s A e){x:Setup}{B:List Act}(hx:Fx t x B)(hu:∀ s C,Fx t s C→s=x∧C=B):e=0∧s=x∧A=B:=by
 unfold dM at h;rcases h with ⟨h0,h⟩|⟨_,_,_,h⟩
 ·exact⟨h0,hu _ _ h⟩
 ·exact absurd hx (h _ _)
theorem Awb(t:List UInt8):∃ s A e,dM t s A e∧(e=0∨e=4):=by
 by_cases h:∃ s A,Fx t s A
 ·obtain⟨s,A,h⟩:=h;exact⟨s,A,0,by unfold dM;exact .inl ⟨rfl,h⟩,.inl rfl⟩
 ·exact⟨⟨[],0⟩,[],4,by unfold dM;exact .inr ⟨rfl,rfl,rfl,fun s C hs=>h ⟨s,C,hs⟩⟩,.inr rfl⟩
end
end Go.Vc.Z
namespace Go.Vc.Z
open Go Go.Vc Go.Proofs Go.RowKit Go.Pl Go.Lib
theorem Abb{w:List (List UInt8)}(h: ¬(w.length=6∧(Aj (w.getD 0 [])).2=true∧(Aj (w.getD 1 [])).2=true∧(Aj (w.getD 2 [])).2=true∧(Aj (w.getD 3 [])).2=true∧(Aj (w.getD 4 [])).2=true∧(Aj (w.getD 5 [])).2=true)):O8 w=(⟨0,0,0,0,0,0⟩,false):=by unfold O8;rw[if_neg h]
theorem Aj7{w:List (List UInt8)}(h:w.length=6∧(Aj (w.getD 0 [])).2=true∧(Aj (w.getD 1 [])).2=true∧(Aj (w.getD 2 [])).2=true∧(Aj (w.getD 3 [])).2=true∧(Aj (w.getD 4 [])).2=true∧(Aj (w.getD 5 [])).2=true):O8 w=(⟨(Aj (w.getD 0 [])).1,(Aj (w.getD 1 [])).1,(Aj (w.getD 2 [])).1,(Aj (w.getD 3 [])).1,(Aj (w.getD 4 [])).1,(Aj (w.getD 5 [])).1⟩,true):=by unfold O8;rw[if_pos h]
theorem Aou{s:List UInt8}{c:UInt8}(h:1≤s.length):s.drop (s.length - 1)=[c]↔s.getLast? =some c:=by
 obtain⟨t,d,rfl⟩:∃ t d,s=t++[d]:=⟨s.dropLast,s.getLast (by intro e;rw[e] at h;simp at h),(List.dropLast_concat_getLast _).symm⟩
 simp
noncomputable section
set_option maxRecDepth 100000
attribute [local irreducible] inK Utf8.decode Utf8.encode Lib.itoa Pl.worth Pl.allDig
attribute [local irreducible] Lib.join Bp Aa
def Ami:PC:=PC.fun fun|[.str s,.str p]=>some (p=[10],.str (sS (Ko s)))|_=>none
def Cz:PT:=Cg []
theorem E2{W:World}(hW:Tabs W):Cb (Fw W) Tryz.prog Cz:=Aq
def Me:FuncId→Option Ctr:=Av Cz []
theorem Mf{W:World}(hW:Tabs W):Ad (Fw W) Tryz.prog Me:=(Ar (E2 hW))
def Kp:List (FuncId × Ctr):=(251,inl TY Me Cz (fun _=>false) (fun _ _ _=>none) Tryz.f251)::[]
def Kq:FuncId→Option Ctr:=Av Cz Kp
theorem Kr{W:World}(hW:Tabs W):Ad (Fw W) Tryz.prog Kq:=Ae Tryz.call251 (Ah rfl Ao (E2 hW) (Mf hW) Tryz.func251 (fun _ _ _=>none)) (Mf hW)
def T5:List (FuncId × Ctr):=(184,inl TY Kq Cz (fun _=>false) (fun _ _ _=>none) Tryz.f184)::Kp
def Gt:FuncId→Option Ctr:=Av Cz T5
theorem T6{W:World}(hW:Tabs W):Ad (Fw W) Tryz.prog Gt:=Ae Tryz.call184 (Ah rfl Ao (E2 hW) (Kr hW) Tryz.func184 (fun _ _ _=>none)) (Kr hW)
theorem Vt{W:World}(hW:Tabs W):GoodP (Fw W) Tryz.prog 104 Ami:=by
 have hD:=E2 hW;have hC0:Ad (Fw W) Tryz.prog Gt:=(T6 hW);refine Au (D:=Cz) (C:=Gt) (wr:=(fun _=>false)) rfl Ao hD hC0 Tryz.func104 (fun _ _=>none) ?_;clear hC0 hD hW;intro cs p r h hf hp;split at h
 case h_2=>cases h
 rename_i s p;cases h;try simp only[Az,Bd,Aw,Go.Vc.lo,Go.Vc.hi,and_true] at hf
 subst hp;have h4:(([10]:List UInt8).length:Int)=1:=rfl;have t0: ¬s.getLast? =some 10→s=Ko s:=fun h=>by unfold Ko;rw[if_neg h]
 have t1:s.getLast? =some 10→s.dropLast=Ko s:=fun h=>by unfold Ko;rw[if_pos h]
 have e1:1≤s.length→((s.length:Int) - (([10]:List UInt8).length:Int)).toNat=s.length - 1:=fun h=>by rw[h4];omega
 have e2:1≤s.length→(List.take (s.length - ((s.length:Int) - (([10]:List UInt8).length:Int)).toNat) (List.drop ((s.length:Int) - (([10]:List UInt8).length:Int)).toNat s)=[10]↔s.getLast? =some 10):=fun h=>by
  rw[e1 h,List.take_of_length_le (by rw[List.length_drop];exact Nat.le_refl _)];exact Aou h
 have hpos:(([10]:List UInt8).length:Int)≤(s.length:Int)→1≤s.length:=fun h=>by rw[h4] at h;omega
 (conv=>whnf)
 (repeat' (first|(with_reducible refine Ap ?_)|refine⟨tU,?_⟩|split<;>rename_i hh<;>try simp only[wS] at hh|with_reducible refine lnI fun hln=>?_)<;>conv=>whnf)
 all_goals try(show _=_;simp only[wQ])
 ·have hl:=hpos (by assumption)
  rw[e1 hl,List.drop_zero,Nat.sub_zero,←List.dropLast_eq_take];exact t1 ((e2 hl).1 (by assumption))
 ·exact t0 (fun h=>absurd ((e2 (hpos (by assumption))).2 h) (by assumption))
 ·refine t0 fun h=>?_;have:s=[]:=List.length_eq_zero_iff.1 (by rw[h4] at*;omega)
  rw[this] at h;cases h
def Aig:PC:=PC.of (fun x:List (List UInt8) × Site × Bool=>[slS x.1]) (fun x=>O8 x.1=x.2) (fun x=>.tup [.agg x.2.1.enc,.bool x.2.2])
def Qp:PT:=Cg [(93,Wa)]
theorem Xu{W:World}(hW:Tabs W):Cb (Fw W) Tryz.prog Qp:=(Ab Tryz.call93 (G5 hW) Aq)
def Qq:FuncId→Option Ctr:=Av Qp []
theorem sA{W:World}(hW:Tabs W):Ad (Fw W) Tryz.prog Qq:=(Ar (Xu hW))
def sC:List (List UInt8) × Site × Bool→Nat→Option LR:=fun x i=>cond (Nat.beq i 5) (some (.unroll 7)) (none)
theorem sD{W:World}(hW:Tabs W):GoodP (Fw W) Tryz.prog 105 Aig:=by
 have hD:=Xu hW;have hC0:∀ x:List (List UInt8) × Site × Bool,Ad (Fw W) Tryz.prog Qq:=fun x=>(sA hW);refine As (D:=Qp) (C:=fun x=>Qq) (wr:=(fun _=>false)) rfl Ao hD hC0 Tryz.func105 (sC) (fun _=>rfl) ?_;rintro⟨L,y,b⟩ hf hp;clear hf;change O8 L=(y,b) at hp;by_cases h6:L.length=6
 ·rcases L with _|⟨a0,_|⟨a1,_|⟨a2,_|⟨a3,_|⟨a4,_|⟨a5,_|⟨a6,L⟩⟩⟩⟩⟩⟩⟩;all_goals try (simp only[List.length_cons,List.length_nil] at h6;omega)
  by_cases hall:(Aj a0).2=true∧(Aj a1).2=true∧(Aj a2).2=true∧(Aj a3).2=true∧(Aj a4).2=true∧(Aj a5).2=true
  ·cases hp.symm.trans (Aj7 ⟨rfl,hall⟩);obtain⟨c0,c1,c2,c3,c4,c5⟩:=hall
   (conv=>whnf)
   (repeat' (first|with_reducible exact⟨⟩|(exact Bool.noConfusion (c0.symm.trans hh))|(exact Bool.noConfusion (c1.symm.trans hh))|(exact Bool.noConfusion (c2.symm.trans hh))|(exact Bool.noConfusion (c3.symm.trans hh))|(exact Bool.noConfusion (c4.symm.trans hh))|(exact Bool.noConfusion (c5.symm.trans hh))|refine⟨tU,?_⟩|split<;>rename_i hh<;>try simp only[wS] at hh|with_reducible refine lnI fun hln=>?_|with_reducible refine iA ?_ ?_)<;>conv=>whnf)
   all_goals try(show _=_;simp only[wQ])
   all_goals first|rfl|skip
  ·cases hp.symm.trans (Abb fun h=>hall h.2)
   (conv=>whnf)
   (repeat' (first|with_reducible exact⟨⟩|refine⟨tU,?_⟩|split<;>rename_i hh<;>try simp only[wS] at hh|with_reducible refine lnI fun hln=>?_|with_reducible refine iA ?_ ?_)<;>conv=>whnf)
   all_goals try(show _=_;simp only[wQ])
   all_goals first|rfl|exact absurd ⟨by assumption,by assumption,by assumption,by assumption,by assumption,by assumption⟩ hall
 ·cases hp.symm.trans (Abb fun h=>h6 h.1)
  (conv=>whnf)
  (repeat' (first|with_reducible exact⟨⟩|refine⟨tU,?_⟩|split<;>rename_i hh<;>try simp only[wS] at hh|with_reducible refine lnI fun hln=>?_|with_reducible refine iA ?_ ?_)<;>conv=>whnf)
  all_goals first|rfl|(exfalso;omega)|skip
end
end Go.Vc.Z
