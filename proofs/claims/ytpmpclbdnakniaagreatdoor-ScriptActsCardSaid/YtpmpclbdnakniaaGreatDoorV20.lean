/- The request of a line: the plain law. -/
import Derived.Test.YtpmpclbdnakniaaGreatDoorV18
import Derived.Test.YtpmpclbdnakniaaGreatDoorV19
import Derived.Test.YtpmpclbdnakniaaGreatDoorV15
set_option linter.all false
set_option linter.unusedVariables false
set_option linter.unusedSimpArgs false
namespace Go.Vc.Z
open Go Go.Vc Go.Proofs Go.RowKit Go.Pl Go.Lib
noncomputable section
abbrev An:Request:=⟨[],0,0,0,0,0,[],[],[],0,0,0⟩
open Classical in
@[irreducible] def R6(s:List UInt8):Request × Int:=if h:∃ r,Af r=true∧Bf r=s then(h.choose,0) else(An,4)
theorem X5{s:List UInt8}(h:∀ r,Af r=true→Bf r=s→False):R6 s=(An,4):=by
 unfold R6
 rw[dif_neg]
 rintro⟨r,h1,h2⟩
 exact h r h1 h2
theorem Df{s:List UInt8}{R:Request}(h1:Af R=true)(h2:Bf R=s)(h:∀ r,Af r=true→Bf r=s→R=r):R6 s=(R,0):=by
 have hx:∃ r,Af r=true∧Bf r=s:=⟨R,h1,h2⟩
 unfold R6
 rw[dif_pos hx,←h _ hx.choose_spec.1 hx.choose_spec.2]
theorem Abg{r:Request}(h:Af r=true):(Bz r).getD 0 []=Dv.getD (r.kind - 1).toNat []:=by
 rcases Gh h with k|k|k|k|k|k|k|k|k|k
 ·rw[Nm k,k];rfl
 ·rw[Nn k,k];rfl
 ·rw[No k,k];rfl
 ·rw[Np k,k];rfl
 ·rw[Nq k,k];rfl
 ·rw[Nr k,k];rfl
 ·rw[Ns k,k];rfl
 ·rw[Nt k,k];rfl
 ·rw[Nu k,k];rfl
 ·rw[Lg k,k];rfl
theorem J1{r:Request}(h:Af r=true):r=C1 r:=by
 rcases Gh h with k|k|k|k|k|k|k|k|k|k
 ·rw[Tf k] at h;simp only[Bool.and_eq_true,Ba] at h;exact h.2.2.2.2.2
 ·rw[Xu k] at h;simp only[Bool.and_eq_true,Ba] at h;exact h.2.2.2.2.2
 ·rw[Xv k] at h;simp only[Bool.and_eq_true,Ba] at h;exact h.2.2.2
 ·rw[Xw k] at h;simp only[Bool.and_eq_true,Ba] at h;exact h.2.2.2.2
 ·rw[Xx k] at h;simp only[Bool.and_eq_true,Ba] at h;exact h.2.2.2.2.2.2
 ·rw[Xy k] at h;simp only[Bool.and_eq_true,Ba] at h;exact h.2.2.2.2
 ·rw[Xz k] at h;simp only[Bool.and_eq_true,Ba] at h;exact h.2.2.2.2
 ·rw[X0 k] at h;simp only[Bool.and_eq_true,Ba] at h;exact h.2
 ·rw[X1 k] at h;simp only[Bool.and_eq_true,Ba] at h;exact h.2
 ·rw[Um k] at h;simp only[Bool.and_eq_true,Ba] at h;exact h.2
theorem J2(s:List UInt8):kindOf s=0∨kindOf s=1∨kindOf s=2∨kindOf s=3∨kindOf s=4∨kindOf s=5∨kindOf s=6∨kindOf s=7∨kindOf s=8∨kindOf s=9∨kindOf s=10:=by
 unfold kindOf
 repeat' split
 all_goals omega
theorem Dy{s:List UInt8}{r:Request}{k:Int}(hm:Af r=true)(hw:Bf r=s)(hk:kindOf ((Aa 32 s).getD 0 [])=k):r.kind=k:=by
 have hc:=Jy hm
 rw[hw] at hc
 have h1:1≤r.kind∧r.kind≤10:=by rcases Gh hm with k|k|k|k|k|k|k|k|k|k<;>omega
 rw[hc,Abg hm,←Ce h1,Zq h1] at hk
 exact hk
theorem X6{m:Int}{l:List Coupon}(h:Fh m l=true):Aa 44 (Cb l)=l.map Bs∧∀ c ∈ l,Eu (Bs c)=(c,true):=by
 obtain⟨h1,h2,h3⟩:=Em h
 exact⟨aT (by intro e;rw[e] at h1;simp at h1),fun c hc=>Aiw (h3 c hc)⟩
theorem fQ{l:List Tax}(h:Dg l=true):(l=[]∧By l=[45])∨(By l≠[45]∧Aa 44 (By l)=l.map Fp∧∀ c ∈ l,Dq (Fp c)=(c,true)):=by
 by_cases h0:l=[]
 ·subst h0;exact .inl ⟨rfl,by unfold By;rfl⟩
 ·exact .inr ⟨aQ h0,pA h0,fun c hc=>Aix (Re h c hc).1 (Re h c hc).2⟩
theorem cE{s:List UInt8}{r:Request}(hm:Af r=true)(hw:Bf r=s)(hk:kindOf ((Aa 32 s).getD 0 [])=1):Aa 32 s=[[105,115,115,117,101],r.key,Lib.itoa r.day,r.locator,Cb r.coupons,By r.taxes]∧r=⟨r.key,1,r.day,0,0,0,r.locator,r.coupons,r.taxes,0,0,0⟩∧(Aq (Lib.itoa r.day)=(r.day,true))∧(Aa 44 (Cb r.coupons)=r.coupons.map Bs∧∀ c ∈ r.coupons,Eu (Bs c)=(c,true))∧((r.taxes=[]∧By r.taxes=[45])∨(By r.taxes≠[45]∧Aa 44 (By r.taxes)=r.taxes.map Fp∧∀ c ∈ r.taxes,Dq (Fp c)=(c,true)))∧True:=by
 have k:=Dy hm hw hk
 have hc:=Jy hm
 have ho:=J1 hm
 rw[hw,Nm k] at hc
 obtain⟨hK,hD,hL,hC,hX⟩:=Iw k hm
 refine⟨hc,?_,C3 (Cj hD).1 (by have:=Cj hD;omega),X6 hC,fQ hX,True.intro⟩
 refine ho.trans ?_
 unfold C1;rw[k];rfl
theorem Al4{s:List UInt8}{r:Request}(hm:Af r=true)(hw:Bf r=s)(hk:kindOf ((Aa 32 s).getD 0 [])=2):Aa 32 s=[[109,111,118,101],r.key,Lib.itoa r.day,A6 r.ticket,Lib.itoa r.coupon,C2 r.status]∧r=⟨r.key,2,r.day,r.ticket,r.coupon,r.status,[],[],[],0,0,0⟩∧(Aq (Lib.itoa r.day)=(r.day,true))∧(numOf (A6 r.ticket)=(r.ticket,0))∧(Aq (Lib.itoa r.coupon)=(r.coupon,true))∧(statOf (C2 r.status)=r.status∧r.status≠0)∧True:=by
 have k:=Dy hm hw hk
 have hc:=Jy hm
 have ho:=J1 hm
 rw[hw,Nn k] at hc
 obtain⟨hK,hD,hT,hN,hS⟩:=Kq k hm
 refine⟨hc,?_,C3 (Cj hD).1 (by have:=Cj hD;omega),It (by unfold Es at hT;simpa using hT),C3 (by omega) (by omega),⟨Vo hS,by have:=M2.1 hS;omega⟩,True.intro⟩
 refine ho.trans ?_
 unfold C1;rw[k];rfl
theorem Al5{s:List UInt8}{r:Request}(hm:Af r=true)(hw:Bf r=s)(hk:kindOf ((Aa 32 s).getD 0 [])=3):Aa 32 s=[[118,111,105,100],r.key,Lib.itoa r.day,A6 r.ticket]∧r=⟨r.key,3,r.day,r.ticket,0,0,[],[],[],0,0,0⟩∧(Aq (Lib.itoa r.day)=(r.day,true))∧(numOf (A6 r.ticket)=(r.ticket,0))∧True:=by
 have k:=Dy hm hw hk
 have hc:=Jy hm
 have ho:=J1 hm
 rw[hw,No k] at hc
 obtain⟨hK,hD,hT⟩:=Kr k hm
 refine⟨hc,?_,C3 (Cj hD).1 (by have:=Cj hD;omega),It (by unfold Es at hT;simpa using hT),True.intro⟩
 refine ho.trans ?_
 unfold C1;rw[k];rfl
theorem Al6{s:List UInt8}{r:Request}(hm:Af r=true)(hw:Bf r=s)(hk:kindOf ((Aa 32 s).getD 0 [])=4):Aa 32 s=[[114,101,102,117,110,100],r.key,Lib.itoa r.day,A6 r.ticket,C0 r.amount]∧r=⟨r.key,4,r.day,r.ticket,0,0,[],[],[],r.amount,0,0⟩∧(Aq (Lib.itoa r.day)=(r.day,true))∧(numOf (A6 r.ticket)=(r.ticket,0))∧(Ds (C0 r.amount)=(r.amount,0))∧True:=by
 have k:=Dy hm hw hk
 have hc:=Jy hm
 have ho:=J1 hm
 rw[hw,Np k] at hc
 obtain⟨hK,hD,hT,hA⟩:=Ks k hm
 refine⟨hc,?_,C3 (Cj hD).1 (by have:=Cj hD;omega),It (by unfold Es at hT;simpa using hT),Ou (Dt hA),True.intro⟩
 refine ho.trans ?_
 unfold C1;rw[k];rfl
theorem cF{s:List UInt8}{r:Request}(hm:Af r=true)(hw:Bf r=s)(hk:kindOf ((Aa 32 s).getD 0 [])=5):Aa 32 s=[[101,120,99,104,97,110,103,101],r.key,Lib.itoa r.day,A6 r.ticket,C0 r.amount,Cb r.coupons,By r.taxes]∧r=⟨r.key,5,r.day,r.ticket,0,0,[],r.coupons,r.taxes,r.amount,0,0⟩∧(Aq (Lib.itoa r.day)=(r.day,true))∧(numOf (A6 r.ticket)=(r.ticket,0))∧(Ds (C0 r.amount)=(r.amount,0))∧(Aa 44 (Cb r.coupons)=r.coupons.map Bs∧∀ c ∈ r.coupons,Eu (Bs c)=(c,true))∧((r.taxes=[]∧By r.taxes=[45])∨(By r.taxes≠[45]∧Aa 44 (By r.taxes)=r.taxes.map Fp∧∀ c ∈ r.taxes,Dq (Fp c)=(c,true)))∧True:=by
 have k:=Dy hm hw hk
 have hc:=Jy hm
 have ho:=J1 hm
 rw[hw,Nq k] at hc
 obtain⟨hK,hD,hT,hA,hC,hX⟩:=Ix k hm
 refine⟨hc,?_,C3 (Cj hD).1 (by have:=Cj hD;omega),It (by unfold Es at hT;simpa using hT),Ou (Dt hA),X6 hC,fQ hX,True.intro⟩
 refine ho.trans ?_
 unfold C1;rw[k];rfl
theorem Al7{s:List UInt8}{r:Request}(hm:Af r=true)(hw:Bf r=s)(hk:kindOf ((Aa 32 s).getD 0 [])=6):Aa 32 s=[[97,115,107],r.key,Lib.itoa r.day,A6 r.ticket,Lib.itoa r.coupon]∧r=⟨r.key,6,r.day,r.ticket,r.coupon,0,[],[],[],0,0,0⟩∧(Aq (Lib.itoa r.day)=(r.day,true))∧(numOf (A6 r.ticket)=(r.ticket,0))∧(Aq (Lib.itoa r.coupon)=(r.coupon,true))∧True:=by
 have k:=Dy hm hw hk
 have hc:=Jy hm
 have ho:=J1 hm
 rw[hw,Nr k] at hc
 obtain⟨hK,hD,hT,hN⟩:=Kt k hm
 refine⟨hc,?_,C3 (Cj hD).1 (by have:=Cj hD;omega),It (by unfold Es at hT;simpa using hT),C3 (by omega) (by omega),True.intro⟩
 refine ho.trans ?_
 unfold C1;rw[k];rfl
theorem Al8{s:List UInt8}{r:Request}(hm:Af r=true)(hw:Bf r=s)(hk:kindOf ((Aa 32 s).getD 0 [])=7):Aa 32 s=[[114,101,116,117,114,110],r.key,Lib.itoa r.day,A6 r.ticket,Lib.itoa r.coupon]∧r=⟨r.key,7,r.day,r.ticket,r.coupon,0,[],[],[],0,0,0⟩∧(Aq (Lib.itoa r.day)=(r.day,true))∧(numOf (A6 r.ticket)=(r.ticket,0))∧(Aq (Lib.itoa r.coupon)=(r.coupon,true))∧True:=by
 have k:=Dy hm hw hk
 have hc:=Jy hm
 have ho:=J1 hm
 rw[hw,Ns k] at hc
 obtain⟨hK,hD,hT,hN⟩:=Ku k hm
 refine⟨hc,?_,C3 (Cj hD).1 (by have:=Cj hD;omega),It (by unfold Es at hT;simpa using hT),C3 (by omega) (by omega),True.intro⟩
 refine ho.trans ?_
 unfold C1;rw[k];rfl
theorem Al9{s:List UInt8}{r:Request}(hm:Af r=true)(hw:Bf r=s)(hk:kindOf ((Aa 32 s).getD 0 [])=8):Aa 32 s=[[115,104,111,119],A6 r.ticket]∧r=⟨[],8,0,r.ticket,0,0,[],[],[],0,0,0⟩∧(numOf (A6 r.ticket)=(r.ticket,0))∧True:=by
 have k:=Dy hm hw hk
 have hc:=Jy hm
 have ho:=J1 hm
 rw[hw,Nt k] at hc
 have hT:=Rh k hm
 refine⟨hc,?_,It (by unfold Es at hT;simpa using hT),True.intro⟩
 refine ho.trans ?_
 unfold C1;rw[k];rfl
theorem Ama{s:List UInt8}{r:Request}(hm:Af r=true)(hw:Bf r=s)(hk:kindOf ((Aa 32 s).getD 0 [])=9):Aa 32 s=[[102,105,110,100],r.locator]∧r=⟨[],9,0,0,0,0,r.locator,[],[],0,0,0⟩∧True:=by
 have k:=Dy hm hw hk
 have hc:=Jy hm
 have ho:=J1 hm
 rw[hw,Nu k] at hc
 have hL:=Kv k hm
 refine⟨hc,?_,True.intro⟩
 refine ho.trans ?_
 unfold C1;rw[k];rfl
theorem Abh{s:List UInt8}{r:Request}(hm:Af r=true)(hw:Bf r=s)(hk:kindOf ((Aa 32 s).getD 0 [])=10):Aa 32 s=[[114,101,112,111,114,116],Lib.itoa r.frm,Lib.itoa r.til]∧r=⟨[],10,0,0,0,0,[],[],[],0,r.frm,r.til⟩∧(Aq (Lib.itoa r.frm)=(r.frm,true))∧(Aq (Lib.itoa r.til)=(r.til,true))∧True:=by
 have k:=Dy hm hw hk
 have hc:=Jy hm
 have ho:=J1 hm
 rw[hw,Lg k] at hc
 obtain⟨hF,hU⟩:=Oy k hm
 refine⟨hc,?_,C3 (Cj hF).1 (by have:=Cj hF;omega),C3 (Cj hU).1 (by have:=Cj hU;omega),True.intro⟩
 refine ho.trans ?_
 unfold C1;rw[k];rfl
end
end Go.Vc.Z
namespace Go.Vc.Z
open Go Go.Vc Go.Proofs Go.RowKit Go.Pl Go.Lib
theorem Mm{α:Type}{f:List UInt8→α × Bool}{g:α→List UInt8}{W:List (List UInt8)}{L l:List α}(h:L=(W.take L.length).map (fun w=>(f w).1))(hle:L.length≤W.length)(hn: ¬L.length<W.length)(hW:W=l.map g)(hf:∀ c ∈ l,f (g c)=(c,true)):L=l:=by
 have e:L.length=W.length:=by omega
 rw[e,List.take_length,hW,List.map_map] at h
 rw[h]
 clear h hle hn hW e
 induction l with
 |nil=>rfl
 |cons c l ih=>
  rw[List.map_cons,ih (fun d hd=>hf d (List.mem_cons_of_mem _ hd))]
  show(f (g c)).1::l=c::l
  rw[hf c (List.mem_cons_self ..)]
theorem Il{α:Type}{f:List UInt8→α × Bool}{g:α→List UInt8}{W:List (List UInt8)}{l:List α}{i:Nat}(hi:i<W.length)(hW:W=l.map g)(hf:∀ c ∈ l,f (g c)=(c,true)):(f (W.getD i [])).2=true:=by
 subst hW
 rw[List.getD_eq_getElem?_getD,List.getElem?_eq_getElem hi,Option.getD_some,List.getElem_map,hf _ (List.getElem_mem _)]
theorem Cp{α:Type}{f:List UInt8→α × Bool}{W:List (List UInt8)}{L:List α}(h:L=(W.take L.length).map (fun w=>(f w).1))(hi:L.length<W.length):L++[(f (W.getD L.length [])).1]=(W.take (L++[(f (W.getD L.length [])).1]).length).map (fun w=>(f w).1):=by
 rw[List.length_append,List.length_singleton,List.take_add_one,List.map_append,←h,List.getElem?_eq_getElem hi,List.getD_eq_getElem?_getD,List.getElem?_eq_getElem hi]
 rfl
theorem Lh{W:List (List UInt8)}{p:List UInt8→Bool}{n:Nat}(h:∀ w ∈ W.take n,p w=true)(hi:n<W.length)(hp:p (W.getD n [])=true):∀ w ∈ W.take (n+1),p w=true:=by
 intro w hw
 rw[List.take_add_one,List.getElem?_eq_getElem hi,List.mem_append] at hw
 rcases hw with hw|hw
 ·exact h w hw
 ·rw[List.getD_eq_getElem?_getD,List.getElem?_eq_getElem hi] at hp
  simp at hw;rw[hw];exact hp
theorem Ii{α:Type}[Inhabited α]{enc:α→List AV}{l:List α}{n:Nat}{d:α}{g b:Nat→List AV}(hn:n=l.length)(hg:∀ e,e<l.length→g e=enc (l.getD e default))(hb:b 0=enc d){e:Nat}(he:e<n+1):B9 n g b e=enc ((l++[d]).getD e default):=by
 subst hn
 unfold B9
 by_cases h:e<l.length
 ·rw[if_pos h,hg e h,List.getD_eq_getElem?_getD,List.getD_eq_getElem?_getD,List.getElem?_append_left h]
 ·rw[if_neg h]
  obtain rfl:e=l.length:=by omega
  rw[Nat.sub_self,hb,List.getD_eq_getElem?_getD,List.getElem?_append_right (Nat.le_refl _),Nat.sub_self];rfl
theorem Gi{c:UInt8}{s:List UInt8}{m:Nat}(h:s.length≤m)(i:Nat):((sL (Aa c s)).getD i []).length≤m:=by
 rw[Do,List.getD_eq_getElem?_getD]
 cases e:(Aa c s)[i]? with
 |none=>simp
 |some w=>have:=(Qb s w (List.mem_of_getElem? e)).1;simp;omega
theorem Abi{α:Type}{f:List UInt8→α × Bool}{g:α→List UInt8}:∀ {l k:List α},l.map g=k.map g→(∀ c ∈ l,f (g c)=(c,true))→(∀ c ∈ k,f (g c)=(c,true))→l=k
 |[],[],_,_,_=>rfl
 |[],_::_,h,_,_=>by cases h
 |_::_,[],h,_,_=>by cases h
 |a::l,b::k,h,h1,h2=>by
  rw[List.map_cons,List.map_cons] at h
  injection h with e1 e2
  have e3:=(h1 a (List.mem_cons_self ..)).symm.trans ((congrArg f e1).trans (h2 b (List.mem_cons_self ..)))
  rw[show a=b from congrArg Prod.fst e3,Abi e2 (fun c hc=>h1 c (List.mem_cons_of_mem _ hc)) (fun c hc=>h2 c (List.mem_cons_of_mem _ hc))]
theorem yD{α:Type}{f:List UInt8→α × Bool}{g:α→List UInt8}{l k:List α}{a b:List UInt8}(h:a=b)(h1:Aa 44 a=l.map g∧∀ c ∈ l,f (g c)=(c,true))(h2:Aa 44 b=k.map g∧∀ c ∈ k,f (g c)=(c,true)):l=k:=
 Abi (h1.1.symm.trans ((congrArg (Aa 44) h).trans h2.1)) h1.2 h2.2
theorem Agl{l k:List Tax}(h:By l=By k)(h1:(l=[]∧By l=[45])∨(By l≠[45]∧Aa 44 (By l)=l.map Fp∧∀ c ∈ l,Dq (Fp c)=(c,true)))(h2:(k=[]∧By k=[45])∨(By k≠[45]∧Aa 44 (By k)=k.map Fp∧∀ c ∈ k,Dq (Fp c)=(c,true))):l=k:=by
 rcases h1 with ⟨a,b⟩|⟨a,b⟩<;>rcases h2 with ⟨c,d⟩|⟨c,d⟩
 ·rw[a,c]
 ·exact absurd (h.symm.trans b) c
 ·exact absurd (h.trans d) a
 ·exact yD h b d
theorem Azv{r q:Request}(hm:Af r=true)(hn:Af q=true)(hw:Bf r=Bf q)(hk:kindOf ((Aa 32 (Bf q)).getD 0 [])=1):r=q:=by
 obtain⟨c1,e1,fD,fC,fX, -⟩:=cE hm hw hk
 obtain⟨c2,e2,gD,gC,gX, -⟩:=cE hn rfl hk
 have h:=c1.symm.trans c2
 simp only[List.cons.injEq,and_true,true_and] at h
 obtain⟨hK,hD,hL,hC,hX⟩:=h
 have iK:r.key=q.key:=hK
 have iD:r.day=q.day:=congrArg Prod.fst (fD.symm.trans ((congrArg Aq hD).trans gD))
 have iL:r.locator=q.locator:=hL
 have iC:r.coupons=q.coupons:=yD hC fC gC
 have iX:r.taxes=q.taxes:=Agl hX fX gX
 rw[e1,e2,iK,iD,iL,iC,iX]
theorem Azw{r q:Request}(hm:Af r=true)(hn:Af q=true)(hw:Bf r=Bf q)(hk:kindOf ((Aa 32 (Bf q)).getD 0 [])=2):r=q:=by
 obtain⟨c1,e1,fD,fT,fN,fS, -⟩:=Al4 hm hw hk
 obtain⟨c2,e2,gD,gT,gN,gS, -⟩:=Al4 hn rfl hk
 have h:=c1.symm.trans c2
 simp only[List.cons.injEq,and_true,true_and] at h
 obtain⟨hK,hD,hT,hN,hS⟩:=h
 have iK:r.key=q.key:=hK
 have iD:r.day=q.day:=congrArg Prod.fst (fD.symm.trans ((congrArg Aq hD).trans gD))
 have iT:r.ticket=q.ticket:=congrArg Prod.fst (fT.symm.trans ((congrArg numOf hT).trans gT))
 have iN:r.coupon=q.coupon:=congrArg Prod.fst (fN.symm.trans ((congrArg Aq hN).trans gN))
 have iS:r.status=q.status:=fS.1.symm.trans ((congrArg statOf hS).trans gS.1)
 rw[e1,e2,iK,iD,iT,iN,iS]
theorem Azx{r q:Request}(hm:Af r=true)(hn:Af q=true)(hw:Bf r=Bf q)(hk:kindOf ((Aa 32 (Bf q)).getD 0 [])=3):r=q:=by
 obtain⟨c1,e1,fD,fT, -⟩:=Al5 hm hw hk
 obtain⟨c2,e2,gD,gT, -⟩:=Al5 hn rfl hk
 have h:=c1.symm.trans c2
 simp only[List.cons.injEq,and_true,true_and] at h
 obtain⟨hK,hD,hT⟩:=h
 have iK:r.key=q.key:=hK
 have iD:r.day=q.day:=congrArg Prod.fst (fD.symm.trans ((congrArg Aq hD).trans gD))
 have iT:r.ticket=q.ticket:=congrArg Prod.fst (fT.symm.trans ((congrArg numOf hT).trans gT))
 rw[e1,e2,iK,iD,iT]
theorem Azy{r q:Request}(hm:Af r=true)(hn:Af q=true)(hw:Bf r=Bf q)(hk:kindOf ((Aa 32 (Bf q)).getD 0 [])=4):r=q:=by
 obtain⟨c1,e1,fD,fT,fA, -⟩:=Al6 hm hw hk
 obtain⟨c2,e2,gD,gT,gA, -⟩:=Al6 hn rfl hk
 have h:=c1.symm.trans c2
 simp only[List.cons.injEq,and_true,true_and] at h
 obtain⟨hK,hD,hT,hA⟩:=h
 have iK:r.key=q.key:=hK
 have iD:r.day=q.day:=congrArg Prod.fst (fD.symm.trans ((congrArg Aq hD).trans gD))
 have iT:r.ticket=q.ticket:=congrArg Prod.fst (fT.symm.trans ((congrArg numOf hT).trans gT))
 have iA:r.amount=q.amount:=congrArg Prod.fst (fA.symm.trans ((congrArg Ds hA).trans gA))
 rw[e1,e2,iK,iD,iT,iA]
theorem Azz{r q:Request}(hm:Af r=true)(hn:Af q=true)(hw:Bf r=Bf q)(hk:kindOf ((Aa 32 (Bf q)).getD 0 [])=5):r=q:=by
 obtain⟨c1,e1,fD,fT,fA,fC,fX, -⟩:=cF hm hw hk
 obtain⟨c2,e2,gD,gT,gA,gC,gX, -⟩:=cF hn rfl hk
 have h:=c1.symm.trans c2
 simp only[List.cons.injEq,and_true,true_and] at h
 obtain⟨hK,hD,hT,hA,hC,hX⟩:=h
 have iK:r.key=q.key:=hK
 have iD:r.day=q.day:=congrArg Prod.fst (fD.symm.trans ((congrArg Aq hD).trans gD))
 have iT:r.ticket=q.ticket:=congrArg Prod.fst (fT.symm.trans ((congrArg numOf hT).trans gT))
 have iA:r.amount=q.amount:=congrArg Prod.fst (fA.symm.trans ((congrArg Ds hA).trans gA))
 have iC:r.coupons=q.coupons:=yD hC fC gC
 have iX:r.taxes=q.taxes:=Agl hX fX gX
 rw[e1,e2,iK,iD,iT,iA,iC,iX]
theorem Az0{r q:Request}(hm:Af r=true)(hn:Af q=true)(hw:Bf r=Bf q)(hk:kindOf ((Aa 32 (Bf q)).getD 0 [])=6):r=q:=by
 obtain⟨c1,e1,fD,fT,fN, -⟩:=Al7 hm hw hk
 obtain⟨c2,e2,gD,gT,gN, -⟩:=Al7 hn rfl hk
 have h:=c1.symm.trans c2
 simp only[List.cons.injEq,and_true,true_and] at h
 obtain⟨hK,hD,hT,hN⟩:=h
 have iK:r.key=q.key:=hK
 have iD:r.day=q.day:=congrArg Prod.fst (fD.symm.trans ((congrArg Aq hD).trans gD))
 have iT:r.ticket=q.ticket:=congrArg Prod.fst (fT.symm.trans ((congrArg numOf hT).trans gT))
 have iN:r.coupon=q.coupon:=congrArg Prod.fst (fN.symm.trans ((congrArg Aq hN).trans gN))
 rw[e1,e2,iK,iD,iT,iN]
theorem Az1{r q:Request}(hm:Af r=true)(hn:Af q=true)(hw:Bf r=Bf q)(hk:kindOf ((Aa 32 (Bf q)).getD 0 [])=7):r=q:=by
 obtain⟨c1,e1,fD,fT,fN, -⟩:=Al8 hm hw hk
 obtain⟨c2,e2,gD,gT,gN, -⟩:=Al8 hn rfl hk
 have h:=c1.symm.trans c2
 simp only[List.cons.injEq,and_true,true_and] at h
 obtain⟨hK,hD,hT,hN⟩:=h
 have iK:r.key=q.key:=hK
 have iD:r.day=q.day:=congrArg Prod.fst (fD.symm.trans ((congrArg Aq hD).trans gD))
 have iT:r.ticket=q.ticket:=congrArg Prod.fst (fT.symm.trans ((congrArg numOf hT).trans gT))
 have iN:r.coupon=q.coupon:=congrArg Prod.fst (fN.symm.trans ((congrArg Aq hN).trans gN))
 rw[e1,e2,iK,iD,iT,iN]
theorem Az2{r q:Request}(hm:Af r=true)(hn:Af q=true)(hw:Bf r=Bf q)(hk:kindOf ((Aa 32 (Bf q)).getD 0 [])=8):r=q:=by
 obtain⟨c1,e1,fT, -⟩:=Al9 hm hw hk
 obtain⟨c2,e2,gT, -⟩:=Al9 hn rfl hk
 have h:=c1.symm.trans c2
 simp only[List.cons.injEq,and_true,true_and] at h
 have hT:=h
 have iT:r.ticket=q.ticket:=congrArg Prod.fst (fT.symm.trans ((congrArg numOf hT).trans gT))
 rw[e1,e2,iT]
theorem Az3{r q:Request}(hm:Af r=true)(hn:Af q=true)(hw:Bf r=Bf q)(hk:kindOf ((Aa 32 (Bf q)).getD 0 [])=9):r=q:=by
 obtain⟨c1,e1, -⟩:=Ama hm hw hk
 obtain⟨c2,e2, -⟩:=Ama hn rfl hk
 have h:=c1.symm.trans c2
 simp only[List.cons.injEq,and_true,true_and] at h
 have hL:=h
 have iL:r.locator=q.locator:=hL
 rw[e1,e2,iL]
theorem Au7{r q:Request}(hm:Af r=true)(hn:Af q=true)(hw:Bf r=Bf q)(hk:kindOf ((Aa 32 (Bf q)).getD 0 [])=10):r=q:=by
 obtain⟨c1,e1,fF,fU, -⟩:=Abh hm hw hk
 obtain⟨c2,e2,gF,gU, -⟩:=Abh hn rfl hk
 have h:=c1.symm.trans c2
 simp only[List.cons.injEq,and_true,true_and] at h
 obtain⟨hF,hU⟩:=h
 have iF:r.frm=q.frm:=congrArg Prod.fst (fF.symm.trans ((congrArg Aq hF).trans gF))
 have iU:r.til=q.til:=congrArg Prod.fst (fU.symm.trans ((congrArg Aq hU).trans gU))
 rw[e1,e2,iF,iU]
theorem Amb{r q:Request}(hm:Af r=true)(hn:Af q=true)(hw:Bf r=Bf q):r=q:=by
 rcases J2 ((Aa 32 (Bf q)).getD 0 []) with hk|hk|hk|hk|hk|hk|hk|hk|hk|hk|hk
 ·have h1:=Dy hn rfl hk
  rcases Gh hn with h|h|h|h|h|h|h|h|h|h<;>omega
 ·exact Azv hm hn hw hk
 ·exact Azw hm hn hw hk
 ·exact Azx hm hn hw hk
 ·exact Azy hm hn hw hk
 ·exact Azz hm hn hw hk
 ·exact Az0 hm hn hw hk
 ·exact Az1 hm hn hw hk
 ·exact Az2 hm hn hw hk
 ·exact Az3 hm hn hw hk
 ·exact Au7 hm hn hw hk
theorem pI{r:Request}(h:Af r=true):R6 (Bf r)=(r,0):=
 Df h rfl fun _ hm hw=>(Amb hm h hw).symm
end Go.Vc.Z
namespace Go.Vc.Z
open Go Go.Vc Go.Proofs Go.RowKit Go.Pl Go.Lib
theorem Abj{s:List UInt8}{c:UInt8}{i:Nat}(hi:i<s.length):Aa c (s.take (i+1))=E5 c (Aa c (s.take i)) (s.getD i 0):=by
 rw[List.take_add_one,List.getElem?_eq_getElem hi,List.getD_eq_getElem?_getD,List.getElem?_eq_getElem hi]
 exact oW c _ _
theorem Aon{s:List UInt8}{c:UInt8}{i n:Nat}{f:Nat→List UInt8}(hi:i<s.length)(h:((s.getD i 0).toNat:Int)=(c.toNat:Int))(hn:n=(Aa c (s.take i)).length)(hf:∀ e,e<n→f e=(Aa c (s.take i)).getD e []):
  n+1=(Aa c (s.take (i+1))).length∧∀ e,e<n+1→(if e<n then f e else [])=(Aa c (s.take (i+1))).getD e []:=by
 have hc:s.getD i 0=c:=UInt8.toNat_inj.1 (by omega)
 rw[Abj hi,hc]
 unfold E5
 rw[if_pos rfl]
 refine⟨by rw[List.length_append,←hn];rfl,fun e he=>?_⟩
 by_cases hl:e<n
 ·rw[if_pos hl,hf e hl,List.getD_eq_getElem?_getD,List.getD_eq_getElem?_getD,List.getElem?_append_left (by omega)]
 ·rw[if_neg hl,List.getD_eq_getElem?_getD,List.getElem?_append_right (by omega)]
  obtain rfl:e=n:=by omega
  rw[←hn,Nat.sub_self];rfl
theorem Amc{s:List UInt8}{c:UInt8}{i n:Nat}{f:Nat→List UInt8}(hi:i<s.length)(h: ¬((s.getD i 0).toNat:Int)=(c.toNat:Int))(hn:n=(Aa c (s.take i)).length)(hf:∀ e,e<n→f e=(Aa c (s.take i)).getD e []):
  n=(Aa c (s.take (i+1))).length∧∀ e,e<n→(if e=n - 1 then f e++[s.getD i 0] else f e)=(Aa c (s.take (i+1))).getD e []:=by
 have hc: ¬s.getD i 0=c:=fun e=>h (by rw[e])
 have h1:=Ei c (s.take i)
 rw[Abj hi]
 unfold E5
 rw[if_neg hc]
 refine⟨by rw[List.length_append,List.length_dropLast,←hn,List.length_singleton];omega,fun e he=>?_⟩
 by_cases hl:e=n - 1
 ·rw[if_pos hl,hf e he,List.getD_eq_getElem?_getD (l:=_++_),List.getElem?_append_right (by rw[List.length_dropLast];omega),List.length_dropLast,←hn,hl,Nat.sub_self]
  show _=(Aa c (s.take i)).getLastD []++[s.getD i 0]
  rw[List.getLastD_eq_getLast?,List.getLast?_eq_getElem?,←hn,List.getD_eq_getElem?_getD]
 ·rw[if_neg hl,hf e he,List.getD_eq_getElem?_getD,List.getD_eq_getElem?_getD,List.getElem?_append_left (by rw[List.length_dropLast];omega),List.getElem?_dropLast,if_pos (by omega)]
theorem Amd{s:List UInt8}{i:Nat}(hi:i<s.length):(s.drop i).take 1=[s.getD i 0]:=by
 rw[List.drop_eq_getElem_cons hi,List.getD_eq_getElem?_getD,List.getElem?_eq_getElem hi];rfl
noncomputable section
set_option maxRecDepth 100000
attribute [local irreducible] inK Utf8.decode Utf8.encode Lib.itoa Pl.worth Pl.allDig
attribute [local irreducible] Lib.join Ca Aa
def A16(x:List UInt8 × UInt8):LoopSpec:={
 α:=Nat × Nat × (Nat→List UInt8)
 keep:=[0,1,5,6]
 vals y:=match y with|(i,n,_)=>[.str x.1,.int .u8 (x.2.toNat:Int),.osl 1 1 0 n none,.int .i64 i]
 heap y:=match y with|(_,n,f)=>[.dead,.row 1 n (fun e=>[.str (f e)])]
 ok y:=y.1≤x.1.length∧y.2.1=(Aa x.2 (x.1.take y.1)).length∧∀ e,e<y.2.1→y.2.2 e=(Aa x.2 (x.1.take y.1)).getD e []
 μ y:=x.1.length - y.1 }
def Afh:PC:=PC.of (fun x:List UInt8 × UInt8=>[.str x.1,.int .u8 (x.2.toNat:Int)]) (fun x=>x.1.length≤100000000) (fun x=>slS (sL (Aa x.2 x.1)))
def Dz:PT:=C8 []
theorem E9{W:World}(hW:Tabs W):Ct (Fw W) Tryz.prog Dz:=Av
def Fa:FuncId→Option Ctr:=Az Dz []
theorem Oz{W:World}(hW:Tabs W):Ad (Fw W) Tryz.prog Fa:=(Aw (E9 hW))
def X7:List UInt8 × UInt8→Nat→Option LR:=fun x i=>cond (Nat.beq i 3) (some (.inv (A16 x))) (none)
set_option maxHeartbeats 2000000 in
theorem J3{W:World}(hW:Tabs W):GoodP (Fw W) Tryz.prog 86 Afh:=by
 have hD:=E9 hW
 have hC0:∀ x:List UInt8 × UInt8,Ad (Fw W) Tryz.prog Fa:=fun x=>(Oz hW)
 refine As (D:=Dz) (C:=fun x=>Fa) (wr:=(fun _=>false)) rfl Ao hD hC0 Tryz.func86 (X7) (fun _=>rfl) ?_
 intro x hf hp
 clear hf
 (conv=>whnf)
 refine⟨?_,fun(y:Nat × Nat × (Nat→List UInt8)) hy=>?_⟩
 ·(conv=>whnf)
  refine⟨((0,1,fun _=>[]):Nat × Nat × (Nat→List UInt8)),[0],?_,⟨⟨rfl,(nB rfl),rfl⟩,?_,?_⟩⟩
  ·exact⟨Nat.zero_le _,by show 1=(Aa x.2 []).length;rw[Aa1];rfl,(fun e he=>by
     obtain rfl:e=0:=by(change e<1 at he;omega)
     show []=(Aa x.2 []).getD 0 [];rw[Aa1];rfl)⟩
  ·exact tL
  ·(conv=>whnf)
   (repeat' ((first|with_reducible exact⟨⟩|((with_reducible refine aI ?_ ?_);focus (exact tA))|with_reducible refine iB ?_ ?_|fail)<;>(conv=>whnf)))
   all_goals (try simp only[wQ])
   exact fun e he=>by obtain rfl:e=0:=(by omega);exact⟨rfl,rfl⟩
 ·obtain⟨i,n,f⟩:=y
  obtain⟨h1,h2,h3⟩:=hy
  change i≤x.1.length at h1
  change n=(Aa x.2 (x.1.take i)).length at h2
  change ∀ e,e<n→f e=(Aa x.2 (x.1.take i)).getD e [] at h3
  have h4:=Ik x.2 (x.1.take i)
  have h5:=Ei x.2 (x.1.take i)
  rw[←h2,List.length_take] at h4
  rw[←h2] at h5
  have hw:∀ e,e<n→(f e).length≤100000000:=fun e he=>by
   rw[h3 e he]
   have:=Gi (c:=x.2) (s:=x.1.take i) (m:=100000000) (by rw[List.length_take];omega) e
   rw[Do] at this;exact this
  (conv=>whnf)
  (repeat' ((first
   |((with_reducible refine aI ?_ ?_);focus (first|((with_reducible refine⟨?_,?_,?_⟩)<;>first|(intro e he;rcases(by omega:e=0∨e=1∨e=2∨e=3∨e=4∨e=5) with rfl|rfl|rfl|rfl|rfl|rfl<;>first|rfl|(exfalso;omega))|(with_reducible assumption)|omega|((with_reducible show Ap _ _);simp only[Ap,ty2,ty3,ty4,ty5,ty9,Cu,Ck,Cv,Cl,Cq,Cw,Cx,Cy,Bm,Bl,Bn,Bo,Bp,Bq,Br,List.length_cons,List.length_nil];first|omega|(refine⟨?_,?_⟩<;>omega)))|omega|exact tK))
   |(split<;>rename_i hh<;>(try simp only[wS] at hh))
   |with_reducible refine lnI fun hln=>?_
   |fail)<;>(conv=>whnf)))
  ·(conv=>whnf)
   refine⟨((i+1,n+1,fun e=>if e<n then f e else []):Nat × Nat × (Nat→List UInt8)),[3],?_,⟨⟨rfl,(nB rfl),rfl⟩,?_,?_⟩⟩
   ·refine⟨⟨show i+1≤x.1.length by omega,?_⟩,show x.1.length - (i+1)<x.1.length - i by omega⟩
    exact Aon (by omega) (by assumption) h2 h3
   ·exact tL
   ·(conv=>whnf)
    (repeat' ((first|with_reducible exact⟨⟩|((with_reducible refine aI ?_ ?_);focus (exact tA))|with_reducible refine iB ?_ ?_|fail)<;>(conv=>whnf)))
    all_goals (try simp only[wQ])
    intro e he
    refine⟨?_,rfl⟩
    unfold B9
    by_cases hl:e<n
    ·rw[if_pos hl,if_pos hl]
    ·rw[if_neg hl,if_neg hl]
     obtain rfl:e=n:=by omega
     rw[Nat.sub_self];rfl
  ·refine⟨?_,?_⟩
   ·rw[List.length_append,List.length_take]
    have:=hw (0+((n:Int) - 1).toNat) (by omega)
    exact Nat.le_trans (Nat.add_le_add this (Nat.min_le_left _ _)) (by omega)
   ·(conv=>whnf)
    (repeat' ((first
     |((with_reducible refine aI ?_ ?_);focus (first|exact tO|omega|exact tK))
     |fail)<;>(conv=>whnf)))
    (conv=>whnf)
    refine⟨((i+1,n,fun e=>if e=n - 1 then f e++[x.1.getD i 0] else f e):Nat × Nat × (Nat→List UInt8)),[1],?_,⟨⟨rfl,(nB rfl),rfl⟩,?_,?_⟩⟩
    ·exact⟨⟨show i+1≤x.1.length by omega,Amc (by omega) (by assumption) h2 h3⟩,show x.1.length - (i+1)<x.1.length - i by omega⟩
    ·exact tL
    ·(conv=>whnf)
     (repeat' ((first|with_reducible exact⟨⟩|((with_reducible refine aI ?_ ?_);focus (exact tA))|with_reducible refine iB ?_ ?_|fail)<;>(conv=>whnf)))
     all_goals (try simp only[wQ])
     intro e he
     refine⟨?_,rfl⟩
     simp only[D2,decide_true,if_true,decide_eq_true_eq]
     rw[show 0+((n:Int) - 1).toNat=n - 1 by omega]
     by_cases hl:e=n - 1
     ·rw[if_pos hl,if_pos hl,←Amd (show i<x.1.length by omega),hl]
      have e1:((i:Int)+1).toNat - (i:Int).toNat=1:=by omega
      show [AV.str (f (n - 1)++List.take (((i:Int)+1).toNat - (i:Int).toNat) (List.drop (i:Int).toNat x.1))]=_
      rw[e1];rfl
     ·rw[if_neg hl,if_neg hl]
  ·refine⟨⟨by omega,fun e he=>rfl⟩,?_⟩
   obtain rfl:i=x.1.length:=by omega
   rw[List.take_length] at h2 h3
   rw[Do]
   refine⟨rfl,h2,fun h=>h,fun e he=>?_⟩
   show [AV.str (f (0+e))]=[AV.str ((Aa x.2 x.1).getD e [])]
   rw[Nat.zero_add,h3 e he]
end
end Go.Vc.Z
namespace Go.Vc.Z
open Go Go.Vc Go.Proofs Go.RowKit Go.Pl Go.Lib
def Ec(t:List UInt8):Nat→Int
 |0=>0
 |i+1=>if t.getD i 0≠46∧Ec t i≤1000000000000 then 10*Ec t i+(((t.getD i 0).toNat - 48:Nat):Int) else Ec t i
theorem Ky(t:List UInt8)(i:Nat):Ec t (i+1)=if t.getD i 0≠46∧Ec t i≤1000000000000 then 10*Ec t i+(((t.getD i 0).toNat - 48:Nat):Int) else Ec t i:=rfl
theorem Tk(t:List UInt8):∀ i,0≤Ec t i∧Ec t i≤10000000000255
 |0=>⟨Int.le_refl _,by show(0:Int)≤_;decide⟩
 |i+1=>by
  have h:=Tk t i
  have:=UInt8.toNat_lt (t.getD i 0)
  unfold Ec
  split<;>omega
def Vb(t:List UInt8)(n:Nat):Bool:=decide (∀ i,i<n→i≠t.length - 3→48≤(t.getD i 0).toNat∧(t.getD i 0).toNat≤57)
@[irreducible] def Fb(s:List UInt8):Bool:=decide (4≤(Ay 45 s).length)&&((Ay 45 s).getD ((Ay 45 s).length - 3) 0 == 46)&& !(decide (4<(Ay 45 s).length)&&((Ay 45 s).getD 0 0 == 48))&& !(s == [45,48,46,48,48])&&Vb (Ay 45 s) (Ay 45 s).length
@[irreducible] def rOf(s:List UInt8):Int × Int:=if Fb s=true then(if 1000000000000<Ec (Ay 45 s) (Ay 45 s).length then(0,14) else(if s=Ay 45 s then Ec (Ay 45 s) (Ay 45 s).length else -Ec (Ay 45 s) (Ay 45 s).length,0)) else(0,4)
theorem Nx{D e:List UInt8}{i:Nat}:(D++e).getD i 0=if i<D.length then D.getD i 0 else e.getD (i - D.length) 0:=by
 rw[List.getD_eq_getElem?_getD]
 split
 ·rename_i h;rw[List.getElem?_append_left h,List.getD_eq_getElem?_getD]
 ·rename_i h;rw[List.getElem?_append_right (by omega),List.getD_eq_getElem?_getD]
theorem pJ{D e:List UInt8}(hd:allDig D=true)(hw:worth D≤1000000000000):∀ i,i≤D.length→Ec (D++e) i=worth (D.take i)
 |0,_=>by rw[List.take_zero];rfl
 |i+1,h=>by
  have h1:=pJ (e:=e) hd hw i (by omega)
  have h2:=Lo (s:=D) (i:=i) (by omega)
  have h3:=Q4 (show i<D.length by omega) hd
  rw[D3 (show i<D.length by omega)]
  unfold Ec
  rw[h1,Nx,if_pos (show i<D.length by omega),if_pos ⟨fun e=>by rw[e] at h3;exact absurd h3.1 (by decide),by omega⟩]
  omega
theorem aU{n:Int}(h0:0≤n)(h1:n≤1000000000000):Ec (Bu n) (Bu n).length=n:=by
 have hD:=D6 (n / 10 / 10).toNat
 have hw:=Eo (n / 10 / 10).toNat
 unfold Bu
 generalize decDigits (n / 10 / 10).toNat=D at hD hw
 have ha:=Ng (n / 10)
 have hb:=Ng n
 have va:=fB (n / 10)
 have vb:=fB n
 have e0:=pJ (e:=[46,Eg (n / 10),Eg n]) hD (by omega) D.length (Nat.le_refl _)
 rw[List.take_length,hw] at e0
 have e1:Ec (D++[46,Eg (n / 10),Eg n]) (D.length+1)=((n / 10 / 10).toNat:Int):=by
  unfold Ec
  rw[Nx,if_neg (Nat.lt_irrefl _),Nat.sub_self,if_neg (fun h=>h.1 rfl),e0]
 have e2:Ec (D++[46,Eg (n / 10),Eg n]) (D.length+1+1)=10*((n / 10 / 10).toNat:Int)+(n / 10) % 10:=by
  have g:(D++[46,Eg (n / 10),Eg n]).getD (D.length+1) 0=Eg (n / 10):=by
   rw[Nx,if_neg (by omega),show D.length+1 - D.length=1 by omega];rfl
  rw[Ky _ (D.length+1),g,e1,if_pos ⟨fun e=>by rw[e] at ha;exact absurd ha.1 (by decide),by omega⟩,va];omega
 have e3:Ec (D++[46,Eg (n / 10),Eg n]) (D.length+1+1+1)=n:=by
  have g:(D++[46,Eg (n / 10),Eg n]).getD (D.length+1+1) 0=Eg n:=by
   rw[Nx,if_neg (by omega),show D.length+1+1 - D.length=2 by omega];rfl
  rw[Ky _ (D.length+1+1),g,e2,if_pos ⟨fun e=>by rw[e] at hb;exact absurd hb.1 (by decide),by omega⟩,vb];omega
 rw[List.length_append]
 exact e3
theorem aV{n:Int}(s:List UInt8)(hs:Ay 45 s=Bu n)(hz:s≠[45,48,46,48,48]):Fb s=true:=by
 have hI:=Kl (Qc (n / 10 / 10).toNat)
 unfold Fb
 rw[hs]
 unfold Bu Vb
 generalize decDigits (n / 10 / 10).toNat=D at hI
 obtain⟨hD,hN,h48⟩:=hI
 have ha:=Ng (n / 10)
 have hb:=Ng n
 have hl:(D++[46,Eg (n / 10),Eg n]).length=D.length+3:=by simp
 have hp:0<D.length:=List.length_pos_iff.2 hN
 rw[hl,show D.length+3 - 3=D.length by omega,Nx,if_neg (Nat.lt_irrefl _),Nat.sub_self,Nx,if_pos hp]
 have h1:decide (4≤D.length+3)=true:=by simp;omega
 have h2:(!(decide (4<D.length+3)&&(D.getD 0 0 == 48)))=true:=by
  cases D with
  |nil=>simp at hp
  |cons c t=>
   by_cases hc:c=48
   ·rw[h48 t (by rw[hc])];rfl
   ·simp[hc]
 have h3:(!(s == [45,48,46,48,48]))=true:=by simp[hz]
 rw[h1,h2,h3]
 simp only[Bool.true_and,Bool.and_true]
 rw[Bool.and_eq_true]
 refine⟨rfl,decide_eq_true fun i hi hn=>?_⟩
 rw[Nx]
 split
 ·exact Q4 (by assumption) hD
 ·rcases(by omega:i - D.length=1∨i - D.length=2) with e|e<;>rw[e]
  ·exact ha
  ·exact hb
theorem Ame{n:Int}(h:Dl n=true):rOf (C0 n)=(n,0):=by
 have hb: -1000000000000≤n∧n≤1000000000000:=by unfold Dl at h;simpa using h
 unfold C0 rOf Gn
 rw[if_pos h]
 split
 ·rename_i hn
  have hp:Ay 45 (45::Bu (-n))=Bu (-n):=by unfold Ay;rw[if_pos (by simp[Lib.hasPrefix,List.isPrefixOf])];rfl
  have hz:45::Bu (-n)≠[45,48,46,48,48]:=fun e=>by
   have h1:=S9 (n:= -n) (by omega)
   rw[List.cons.inj e |>.2] at h1
   have h2:I9 [48,46,48,48]=0:=by
    unfold I9
    rw[show Ca 46 [48,46,48,48]=([48],[48,48],true) from Uj (a:=[48]) (by decide) [48,48]];rfl
   omega
  rw[if_pos (aV _ hp hz),hp,aU (by omega) (by omega),if_neg (by omega),if_neg (fun e=>by have:=congrArg List.length e;simp at this),Int.neg_neg]
 ·have hp:Ay 45 (Bu n)=Bu n:=by unfold Ay;rw[if_neg (by rw[Wg];simp)]
  have hz:Bu n≠[45,48,46,48,48]:=fun e=>by
   have:=Wg (n:=n);rw[e] at this;exact absurd this (by decide)
  rw[if_pos (aV _ hp hz),hp,aU (by omega) (by omega),if_neg (by omega),if_pos rfl]
@[irreducible] def Gu(s:List UInt8):Int:=if (rOf s).2=0 then(rOf s).1 else -1
theorem O0{n:Int}(h:Dl n=true):Gu (C0 n)=n:=by unfold Gu;rw[Ame h];rfl
end Go.Vc.Z
namespace Go.Vc.Z
open Go Go.Vc Go.Proofs Go.RowKit Go.Pl Go.Lib
theorem yE{s:List UInt8}(h0:s≠[])(h:s.getD 0 0=45):Ay 45 s=s.drop 1:=by
 cases s with
 |nil=>exact absurd rfl h0
 |cons c t=>
  have h:c=45:=h
  unfold Ay;rw[if_pos (by simp[Lib.hasPrefix,List.isPrefixOf,h])]
theorem Qf{s:List UInt8}(h:s≠[]→¬s.getD 0 0=45):Ay 45 s=s:=by
 cases s with
 |nil=>unfold Ay;simp
 |cons c t=>
  have h: ¬c=45:=h (by simp)
  unfold Ay;rw[if_neg (by simp[Lib.hasPrefix,List.isPrefixOf,Ne.symm h])]
theorem Amf{s:List UInt8}(h1:4≤(Ay 45 s).length)(h2:(Ay 45 s).getD ((Ay 45 s).length - 3) 0=46)(h3:4<(Ay 45 s).length→(Ay 45 s).getD 0 0≠48)(h4:s≠[45,48,46,48,48]):Fb s=Vb (Ay 45 s) (Ay 45 s).length:=by
 have e3:(!(decide (4<(Ay 45 s).length)&&((Ay 45 s).getD 0 0 == 48)))=true:=by
  by_cases h:4<(Ay 45 s).length
  ·rw[beq_eq_false_iff_ne.2 (h3 h)];simp
  ·simp[h]
 have e4:(!(s == [45,48,46,48,48]))=true:=by simp[h4]
 unfold Fb
 rw[h2,e3,e4,decide_eq_true h1];rfl
theorem Ai2{s:List UInt8}(h:(Ay 45 s).length<4):Fb s=false:=by
 unfold Fb;rw[decide_eq_false (by omega: ¬4≤(Ay 45 s).length)];rfl
theorem Ai3{s:List UInt8}(h:(Ay 45 s).getD ((Ay 45 s).length - 3) 0≠46):Fb s=false:=by
 unfold Fb;rw[show((Ay 45 s).getD ((Ay 45 s).length - 3) 0 == 46)=false from beq_eq_false_iff_ne.2 h];simp
theorem Ai4{s:List UInt8}(h:4<(Ay 45 s).length)(h':(Ay 45 s).getD 0 0=48):Fb s=false:=by
 unfold Fb;rw[decide_eq_true h,h'];simp
theorem pK{s:List UInt8}(h:s=[45,48,46,48,48]):Fb s=false:=by
 unfold Fb;rw[h];simp
theorem Ai5{s:List UInt8}{i:Nat}(hi:i<(Ay 45 s).length)(hn:i≠(Ay 45 s).length - 3)(h: ¬(48≤((Ay 45 s).getD i 0).toNat∧((Ay 45 s).getD i 0).toNat≤57)):Fb s=false:=by
 have e:Vb (Ay 45 s) (Ay 45 s).length=false:=by unfold Vb;exact decide_eq_false fun hh=>h (hh i hi hn)
 unfold Fb
 rw[e];simp
theorem Afi{s t:List UInt8}(hp:Ay 45 s=t)(h:(t.length:Int)<4):false=Fb s:=(Ai2 (by rw[hp];omega)).symm
theorem Amg{s t:List UInt8}(hp:Ay 45 s=t)(h4:4≤(t.length:Int))(h: ¬((t.getD ((t.length:Int) - 3).toNat 0).toNat:Int)=46):false=Fb s:=
 (Ai3 (by rw[hp];intro e;rw[show((t.length:Int) - 3).toNat=t.length - 3 by omega,e] at h;exact h rfl)).symm
theorem Amh{s t:List UInt8}(hp:Ay 45 s=t)(h:4<(t.length:Int))(h':((t.getD (Int.toNat 0) 0).toNat:Int)=48):false=Fb s:=
 (Ai4 (by rw[hp];omega) (by rw[hp];exact UInt8.toNat_inj.1 (Int.ofNat.inj h'))).symm
theorem yF{s t:List UInt8}(hp:Ay 45 s=t)(h4:4≤(t.length:Int)){i:Nat}(hi:(i:Int)<t.length)(hn: ¬(i:Int)=t.length - 3)(h:((t.getD (i:Int).toNat 0).toNat:Int)<48∨57<((t.getD (i:Int).toNat 0).toNat:Int)):false=Fb s:=by
 have e:(i:Int).toNat=i:=rfl
 rw[e] at h
 exact(Ai5 (i:=i) (by rw[hp];omega) (by rw[hp];omega) (by rw[hp];omega)).symm
theorem Ami{s t:List UInt8}(hp:Ay 45 s=t)(h4:4≤(t.length:Int))(h:((t.getD ((t.length:Int) - 3).toNat 0).toNat:Int)=46)(h3:(t.length:Int)≤4∨¬((t.getD (Int.toNat 0) 0).toNat:Int)=48)(h5: ¬s=[45,48,46,48,48]){i:Nat}(hi:(t.length:Int)≤i)(hi':i≤t.length)(hd:Vb t i=true):true=Fb s:=by
 obtain rfl:i=t.length:=by omega
 rw[Amf (by rw[hp];omega) (by rw[hp];rw[show((t.length:Int) - 3).toNat=t.length - 3 by omega] at h;exact UInt8.toNat_inj.1 (Int.ofNat.inj h)) (by rw[hp];intro hl e;rcases h3 with h3|h3;exact absurd h3 (by omega);exact h3 (by rw[show Int.toNat 0=0 from rfl,e];rfl)) h5,hp,hd]
theorem pL{t:List UInt8}{i:Nat}(h:Vb t i=true)(h':i≠t.length - 3→48≤(t.getD i 0).toNat∧(t.getD i 0).toNat≤57):Vb t (i+1)=true:=by
 unfold Vb at h ⊢
 have h:=of_decide_eq_true h
 refine decide_eq_true fun j hj hn=>?_
 by_cases e:j=i
 ·subst e;exact h' hn
 ·exact h j (by omega) hn
noncomputable section
set_option maxRecDepth 100000
attribute [local irreducible] inK Utf8.decode Utf8.encode Lib.itoa Pl.worth Pl.allDig
attribute [local irreducible] Lib.join Ca Aa Vb
def Amj:PC:=PC.fun fun|[.str s]=>some (True,.bool (sB (Fb s)))|_=>none
def Az4(s:List UInt8):LoopSpec:={
 α:=Nat
 keep:=[3,4,5]
 vals i:=[.str (Ay 45 s),.int .i64 (Ay 45 s).length,.int .i64 i]
 heap _:=[]
 ok i:=i≤(Ay 45 s).length∧Vb (Ay 45 s) i=true
 μ i:=(Ay 45 s).length - i }
def Wn:List AV→Nat→Option LR:=fun cs i=>match cs with|[.str s]=>cond (Nat.beq i 8) (some (.inv (Az4 s))) (none)|_=>none
theorem Wo{W:World}(hW:Tabs W):GoodP (Fw W) Tryz.prog 241 Amj:=by
 have hD:=E9 hW
 have hC0:Ad (Fw W) Tryz.prog Fa:=(Oz hW)
 refine Ax (D:=Dz) (C:=Fa) (wr:=(fun _=>false)) rfl Ao hD hC0 Tryz.func241 (Wn) ?_
 clear hC0 hD hW
 intro cs p r h hf hp
 split at h
 case h_2=>cases h
 rename_i s
 cases h
 try simp only[A0,Bg,Ak,Go.Vc.lo,Go.Vc.hi,and_true] at hf
 have hall:∀ t:List UInt8,Ay 45 s=t→True:=fun _ _=>trivial
 by_cases h0:s=[]
 ·have hp:=Qf (s:=s) (fun h=>absurd h0 h)
  have hz:(s.length:Int)=0:=by rw[h0];rfl
  (conv=>whnf)
  (repeat' ((first
   |(exact absurd h0 (by with_reducible assumption))
   |((with_reducible refine aI ?_ ?_);focus (omega))
   |(split<;>rename_i hh<;>(try simp only[wS] at hh))
   |with_reducible refine lnI fun hln=>?_
   |fail)<;>(conv=>whnf)))
  all_goals (try (show _=_;simp only[wQ]))
  all_goals first|exact Afi hp (by assumption)|(exfalso;omega)|exact absurd h0 (by assumption)
 ·have hpos:0<s.length:=List.length_pos_iff.2 h0
  by_cases h1:s.getD 0 0=45
  ·have hp:Ay 45 s=List.take (s.length - Int.toNat 1) (List.drop (Int.toNat 1) s):=by rw[yE h0 h1,List.take_of_length_le (by rw[List.length_drop];exact Nat.le_refl _)];rfl
   have h45:((s.getD (Int.toNat 0) 0).toNat:Int)=45:=by rw[show Int.toNat 0=0 from rfl,h1];rfl
   (conv=>whnf)
   (repeat' ((first
    |(exact absurd (by with_reducible assumption) h0)
    |(exact absurd h45 (by with_reducible assumption))
    |((with_reducible refine aI ?_ ?_);focus (first|omega|exact tK))
    |(split<;>rename_i hh<;>(try simp only[wS] at hh))
    |with_reducible refine lnI fun hln=>?_
    |fail)<;>(conv=>whnf)))
   all_goals (try (show _=_;simp only[wQ]))
   all_goals first|exact Afi hp (by assumption)|exact Amg hp (by assumption) (by assumption)|exact Amh hp (by assumption) (by assumption)|exact(pK (by assumption)).symm|(exfalso;exact absurd h45 (by assumption))|(exfalso;omega)|skip
   all_goals (refine⟨?_,fun(i:Nat) hi=>?_⟩)
   all_goals try (
    (conv=>whnf)
    refine⟨(0:Nat),[],?_,⟨⟨rfl,(nB rfl),rfl⟩,?_,?_⟩⟩
    ·exact⟨Nat.zero_le _,by unfold Vb;exact decide_eq_true fun i hi=>absurd hi (Nat.not_lt_zero i)⟩
    ·(conv=>whnf)
     (repeat' ((first|with_reducible exact⟨⟩|((with_reducible refine aI ?_ ?_);focus (exact tA))|with_reducible refine iA ?_ ?_|fail)<;>(conv=>whnf)))
     all_goals (try first|omega)
     all_goals (first|exact hp.symm|(rw[hp];done)|(simp only[hp];done)|skip)
    ·exact tL
    done)
   all_goals (
    obtain⟨hi1,hi2⟩:=hi
    change i≤(Ay 45 s).length at hi1
    change Vb (Ay 45 s) i=true at hi2
    have h4:4≤((Ay 45 s).length:Int):=by rw[hp];assumption
    have hb:((Ay 45 s).length:Int)≤9223372036854775807:=by rw[hp];assumption
    have h6:(((Ay 45 s).getD (((Ay 45 s).length:Int) - 3).toNat 0).toNat:Int)=46:=by rw[hp];assumption
    have h7:((Ay 45 s).length:Int)≤4∨¬(((Ay 45 s).getD (Int.toNat 0) 0).toNat:Int)=48:=by rw[hp];first|exact .inl (by assumption)|exact .inr (by assumption)
    have h8: ¬s=[45,48,46,48,48]:=by assumption
    clear hp
    (conv=>whnf)
    (repeat' ((first
     |((with_reducible refine aI ?_ ?_);focus (first|omega|exact tK))
     |(split<;>rename_i hh<;>(try simp only[wS] at hh))
     |fail)<;>(conv=>whnf)))
    all_goals (try (show _=_;simp only[wQ]))
    all_goals first
     |exact Ami rfl h4 h6 h7 h8 (by assumption) hi1 hi2
     |exact yF rfl h4 (by assumption) (by assumption) (.inl (by assumption))
     |exact yF rfl h4 (by assumption) (by assumption) (.inr (by assumption))
     |skip
    all_goals try (
     (conv=>whnf)
     refine⟨(i+1:Nat),[],?_,⟨⟨rfl,(nB rfl),rfl⟩,?_,?_⟩⟩
     ·exact⟨⟨show i+1≤(Ay 45 s).length by omega,pL hi2 (fun hn=>by first|(exfalso;omega)|exact⟨by omega,by omega⟩|exact⟨Int.ofNat_le.1 (by assumption),Int.ofNat_le.1 (by assumption)⟩)⟩,show(Ay 45 s).length - (i+1)<(Ay 45 s).length - i by omega⟩
     ·exact Ac _
     ·exact tL
     done)
    skip)
  ·have hp:=Qf (s:=s) (fun _=>h1)
   have h45: ¬((s.getD (Int.toNat 0) 0).toNat:Int)=45:=fun e=>h1 (UInt8.toNat_inj.1 (Int.ofNat.inj e))
   (conv=>whnf)
   (repeat' ((first
    |(exact absurd (by with_reducible assumption) h0)
    |(exact absurd (by with_reducible assumption) h45)
    |((with_reducible refine aI ?_ ?_);focus (first|omega|exact tK))
    |(split<;>rename_i hh<;>(try simp only[wS] at hh))
    |with_reducible refine lnI fun hln=>?_
    |fail)<;>(conv=>whnf)))
   all_goals (try (show _=_;simp only[wQ]))
   all_goals first|exact Afi hp (by assumption)|exact Amg hp (by assumption) (by assumption)|exact Amh hp (by assumption) (by assumption)|exact(pK (by assumption)).symm|(exfalso;exact absurd h45 (by assumption))|(exfalso;omega)|skip
   all_goals (refine⟨?_,fun(i:Nat) hi=>?_⟩)
   all_goals try (
    (conv=>whnf)
    refine⟨(0:Nat),[],?_,⟨⟨rfl,(nB rfl),rfl⟩,?_,?_⟩⟩
    ·exact⟨Nat.zero_le _,by unfold Vb;exact decide_eq_true fun i hi=>absurd hi (Nat.not_lt_zero i)⟩
    ·(conv=>whnf)
     (repeat' ((first|with_reducible exact⟨⟩|((with_reducible refine aI ?_ ?_);focus (exact tA))|with_reducible refine iA ?_ ?_|fail)<;>(conv=>whnf)))
     all_goals (try first|omega)
     all_goals (first|exact hp.symm|(rw[hp];done)|(simp only[hp];done)|skip)
    ·exact tL
    done)
   all_goals (
    obtain⟨hi1,hi2⟩:=hi
    change i≤(Ay 45 s).length at hi1
    change Vb (Ay 45 s) i=true at hi2
    have h4:4≤((Ay 45 s).length:Int):=by rw[hp];assumption
    have hb:((Ay 45 s).length:Int)≤9223372036854775807:=by rw[hp];assumption
    have h6:(((Ay 45 s).getD (((Ay 45 s).length:Int) - 3).toNat 0).toNat:Int)=46:=by rw[hp];assumption
    have h7:((Ay 45 s).length:Int)≤4∨¬(((Ay 45 s).getD (Int.toNat 0) 0).toNat:Int)=48:=by rw[hp];first|exact .inl (by assumption)|exact .inr (by assumption)
    have h8: ¬s=[45,48,46,48,48]:=by assumption
    clear hp
    (conv=>whnf)
    (repeat' ((first
     |((with_reducible refine aI ?_ ?_);focus (first|omega|exact tK))
     |(split<;>rename_i hh<;>(try simp only[wS] at hh))
     |fail)<;>(conv=>whnf)))
    all_goals (try (show _=_;simp only[wQ]))
    all_goals first
     |exact Ami rfl h4 h6 h7 h8 (by assumption) hi1 hi2
     |exact yF rfl h4 (by assumption) (by assumption) (.inl (by assumption))
     |exact yF rfl h4 (by assumption) (by assumption) (.inr (by assumption))
     |skip
    all_goals try (
     (conv=>whnf)
     refine⟨(i+1:Nat),[],?_,⟨⟨rfl,(nB rfl),rfl⟩,?_,?_⟩⟩
     ·exact⟨⟨show i+1≤(Ay 45 s).length by omega,pL hi2 (fun hn=>by first|(exfalso;omega)|exact⟨by omega,by omega⟩|exact⟨Int.ofNat_le.1 (by assumption),Int.ofNat_le.1 (by assumption)⟩)⟩,show(Ay 45 s).length - (i+1)<(Ay 45 s).length - i by omega⟩
     ·exact Ac _
     ·exact tL
     done)
    skip)
end
end Go.Vc.Z
namespace Go.Vc.Z
open Go Go.Vc Go.Proofs Go.RowKit Go.Pl Go.Lib
theorem Amk{s:List UInt8}(h:Fb s=true):4≤(Ay 45 s).length∧∀ i,i<(Ay 45 s).length→(Ay 45 s).getD i 0≠46→48≤((Ay 45 s).getD i 0).toNat∧((Ay 45 s).getD i 0).toNat≤57:=by
 unfold Fb at h
 simp only[Bool.and_eq_true,decide_eq_true_eq,beq_iff_eq] at h
 obtain⟨⟨⟨⟨h1,h2⟩,h3⟩,h4⟩,h5⟩:=h
 unfold Vb at h5
 exact⟨h1,fun i hi hn=>of_decide_eq_true h5 i hi (fun e=>hn (by rw[e];exact h2))⟩
theorem Ati{s:List UInt8}(h:Fb s=true){i:Nat}(h1:i≤(Ay 45 s).length)(h2:((Ay 45 s).length:Int)≤i)(h3:1000000000000<Ec (Ay 45 s) i):rOf s=(0,14):=by
 obtain rfl:i=(Ay 45 s).length:=by omega
 unfold rOf;rw[if_pos h,if_pos h3]
theorem Atj{s:List UInt8}(h:Fb s=true){i:Nat}(h1:i≤(Ay 45 s).length)(h2:((Ay 45 s).length:Int)≤i)(h3:Ec (Ay 45 s) i≤1000000000000)(h4:s=Ay 45 s):rOf s=(Ec (Ay 45 s) i,0):=by
 obtain rfl:i=(Ay 45 s).length:=by omega
 unfold rOf;rw[if_pos h,if_neg (by omega),if_pos h4]
theorem Atk{s:List UInt8}(h:Fb s=true){i:Nat}(h1:i≤(Ay 45 s).length)(h2:((Ay 45 s).length:Int)≤i)(h3:Ec (Ay 45 s) i≤1000000000000)(h4: ¬s=Ay 45 s):rOf s=(-Ec (Ay 45 s) i,0):=by
 obtain rfl:i=(Ay 45 s).length:=by omega
 unfold rOf;rw[if_pos h,if_neg (by omega),if_neg h4]
noncomputable section
set_option maxRecDepth 100000
attribute [local irreducible] inK Utf8.decode Utf8.encode Lib.itoa Pl.worth Pl.allDig
attribute [local irreducible] Lib.join Ca Aa Ec
def Atl:PC:=PC.fun fun|[.str s]=>some (True,.tup [.int .i64 (sI (rOf s).1),.int .i64 (sI (rOf s).2)])|_=>none
def A17(s:List UInt8):LoopSpec:={
 α:=Nat
 keep:=[0,4,5,6]
 vals i:=[.str s,.str (Ay 45 s),.int .i64 (Ec (Ay 45 s) i),.int .i64 i]
 heap _:=[]
 ok i:=i≤(Ay 45 s).length
 μ i:=(Ay 45 s).length - i }
def Kz:PT:=C8 [(241,Amj)]
theorem Qg{W:World}(hW:Tabs W):Ct (Fw W) Tryz.prog Kz:=(Ab Tryz.call241 (Wo hW) Av)
def K0:FuncId→Option Ctr:=Az Kz []
theorem Zr{W:World}(hW:Tabs W):Ad (Fw W) Tryz.prog K0:=(Aw (Qg hW))
def Zs:List AV→Nat→Option LR:=fun cs i=>match cs with|[.str s]=>cond (Nat.beq i 8) (some (.inv (A17 s))) (none)|_=>none
theorem Zt{W:World}(hW:Tabs W):GoodP (Fw W) Tryz.prog 175 Atl:=by
 have hD:=Qg hW
 have hC0:Ad (Fw W) Tryz.prog K0:=(Zr hW)
 refine Ax (D:=Kz) (C:=K0) (wr:=(fun _=>false)) rfl Ao hD hC0 Tryz.func175 (Zs) ?_
 clear hC0 hD hW
 intro cs p r h hf hp
 split at h
 case h_2=>cases h
 rename_i s
 cases h
 try simp only[A0,Bg,Ak,Go.Vc.lo,Go.Vc.hi,and_true] at hf
 by_cases hF0:Fb s=true
 ·have hF: ¬Fb s=false:=by rw[hF0];simp
  obtain⟨hl4,hdig⟩:=Amk hF0
  have hpos:0<s.length:=Nat.lt_of_lt_of_le (by omega) (Agj 45 s)
  have h0:s≠[]:=List.length_pos_iff.1 hpos
  have hz:Ec (Ay 45 s) 0=0:=by unfold Ec;rfl
  by_cases h1:s.getD 0 0=45
  ·have hp:Ay 45 s=List.take (s.length - Int.toNat 1) (List.drop (Int.toNat 1) s):=by rw[yE h0 h1,List.take_of_length_le (by rw[List.length_drop];exact Nat.le_refl _)];rfl
   have h45:((s.getD (Int.toNat 0) 0).toNat:Int)=45:=by rw[show Int.toNat 0=0 from rfl,h1];rfl
   (conv=>whnf)
   (repeat' ((first
    |(exact absurd h45 (by with_reducible assumption))
    |(exact absurd (by with_reducible assumption) hF)
    |((with_reducible refine aI ?_ ?_);focus (first|with_reducible exact⟨⟩|omega))
    |(split<;>rename_i hh<;>(try simp only[wS] at hh))
    |fail)<;>(conv=>whnf)))
   refine⟨?_,fun(i:Nat) hi=>?_⟩
   ·(conv=>whnf)
    refine⟨(0:Nat),[],?_,⟨⟨rfl,(nB rfl),rfl⟩,?_,?_⟩⟩
    ·exact Nat.zero_le _
    ·(conv=>whnf)
     (repeat' ((first|with_reducible exact⟨⟩|((with_reducible refine aI ?_ ?_);focus (exact tA))|with_reducible refine iA ?_ ?_|fail)<;>(conv=>whnf)))
     all_goals (try first|omega)
     all_goals (first|exact hp.symm|(rw[hz];done)|exact hz.symm|skip)
    ·exact tL
   ·change i≤(Ay 45 s).length at hi
    have hbd:=Tk (Ay 45 s) i
    have hc:=hdig i
    have hge: ¬((((Ay 45 s).getD (i:Int).toNat 0).toNat:Int)=46)→i<(Ay 45 s).length→48≤(((Ay 45 s).getD (i:Int).toNat 0).toNat:Int)∧(((Ay 45 s).getD (i:Int).toNat 0).toNat:Int)≤57:=fun h1 h2=>by
     have:=hc h2 (fun e=>h1 (by rw[show(i:Int).toNat=i from rfl,e];rfl))
     rw[show(i:Int).toNat=i from rfl];omega
    have e0:(i:Int).toNat=i:=rfl
    have h46:∀ c:UInt8,((c.toNat:Int)=46)→c=46:=fun c h=>UInt8.toNat_inj.1 (Int.ofNat.inj h)
    (conv=>whnf)
    (repeat' ((first
     |with_reducible exact⟨⟩
     |((with_reducible refine aI ?_ ?_);focus (first|with_reducible rfl|omega|exact tK))
     |(split<;>rename_i hh<;>(try simp only[wS] at hh))
     |with_reducible refine lnI fun hln=>?_
     |with_reducible refine iA ?_ ?_
     |fail)<;>(conv=>whnf)))
    all_goals (try (show _=_;simp only[wQ]))
    all_goals first
     |(rw[Ati hF0 hi (by assumption) (by assumption)];done)
     |(rw[Atj hF0 hi (by assumption) (by assumption) (by assumption)];done)
     |(rw[Atk hF0 hi (by assumption) (by assumption) (by assumption)];done)
     |skip
    all_goals try (
     (conv=>whnf)
     refine⟨(i+1:Nat),[],?_,⟨⟨rfl,(nB rfl),rfl⟩,?_,?_⟩⟩
     ·exact⟨show i+1≤(Ay 45 s).length by omega,show(Ay 45 s).length - (i+1)<(Ay 45 s).length - i by omega⟩
     ·(conv=>whnf)
      (repeat' ((first|with_reducible exact⟨⟩|((with_reducible refine aI ?_ ?_);focus (exact tA))|with_reducible refine iA ?_ ?_|fail)<;>(conv=>whnf)))
      all_goals (try first|omega)
      all_goals (rw[Ky];first
       |(rw[if_pos ⟨fun e=>by rename_i q1 q2;rw[e0,e] at q1;exact q1 rfl,by assumption⟩];rw[e0] at*;omega)
       |(rw[if_neg (fun e=>by omega)];done)
       |(rw[if_neg (fun e=>e.1 (h46 _ (by assumption)))];done))
     ·exact tL
     done)
    all_goals try (
     have q1: ¬((((Ay 45 s).getD (i:Int).toNat 0).toNat:Int)=46):=by assumption
     have q2:Ec (Ay 45 s) i≤1000000000000:=by assumption
     have hg:=hge q1 (by omega)
     have hv:Ec (Ay 45 s) (i+1)=10*Ec (Ay 45 s) i+((((Ay 45 s).getD (i:Int).toNat 0).toNat:Int) - 48):=by
      rw[Ky,if_pos ⟨fun e=>q1 (by rw[e0,e];rfl),q2⟩];rw[e0] at hg ⊢;omega
     (conv=>whnf)
     refine⟨(i+1:Nat),[],?_,⟨⟨rfl,(nB rfl),rfl⟩,?_,?_⟩⟩
     ·exact⟨show i+1≤(Ay 45 s).length by omega,show(Ay 45 s).length - (i+1)<(Ay 45 s).length - i by omega⟩
     ·(conv=>whnf)
      (repeat' ((first|with_reducible exact⟨⟩|((with_reducible refine aI ?_ ?_);focus (exact tA))|with_reducible refine iA ?_ ?_|fail)<;>(conv=>whnf)))
      all_goals (try first|omega)
      all_goals first|exact hv.symm|(rw[hv];done)|skip
     ·exact tL
     done)
    all_goals skip
  ·have hp:=Qf (s:=s) (fun _=>h1)
   have h45: ¬((s.getD (Int.toNat 0) 0).toNat:Int)=45:=fun e=>h1 (UInt8.toNat_inj.1 (Int.ofNat.inj e))
   (conv=>whnf)
   (repeat' ((first
    |(exact absurd (by with_reducible assumption) h45)
    |(exact absurd (by with_reducible assumption) hF)
    |((with_reducible refine aI ?_ ?_);focus (first|with_reducible exact⟨⟩|omega))
    |(split<;>rename_i hh<;>(try simp only[wS] at hh))
    |fail)<;>(conv=>whnf)))
   refine⟨?_,fun(i:Nat) hi=>?_⟩
   ·(conv=>whnf)
    refine⟨(0:Nat),[],?_,⟨⟨rfl,(nB rfl),rfl⟩,?_,?_⟩⟩
    ·exact Nat.zero_le _
    ·(conv=>whnf)
     (repeat' ((first|with_reducible exact⟨⟩|((with_reducible refine aI ?_ ?_);focus (exact tA))|with_reducible refine iA ?_ ?_|fail)<;>(conv=>whnf)))
     all_goals (try first|omega)
     all_goals (first|exact hp.symm|(rw[hz];done)|exact hz.symm|skip)
    ·exact tL
   ·change i≤(Ay 45 s).length at hi
    have hbd:=Tk (Ay 45 s) i
    have hc:=hdig i
    have hge: ¬((((Ay 45 s).getD (i:Int).toNat 0).toNat:Int)=46)→i<(Ay 45 s).length→48≤(((Ay 45 s).getD (i:Int).toNat 0).toNat:Int)∧(((Ay 45 s).getD (i:Int).toNat 0).toNat:Int)≤57:=fun h1 h2=>by
     have:=hc h2 (fun e=>h1 (by rw[show(i:Int).toNat=i from rfl,e];rfl))
     rw[show(i:Int).toNat=i from rfl];omega
    have e0:(i:Int).toNat=i:=rfl
    have h46:∀ c:UInt8,((c.toNat:Int)=46)→c=46:=fun c h=>UInt8.toNat_inj.1 (Int.ofNat.inj h)
    (conv=>whnf)
    (repeat' ((first
     |with_reducible exact⟨⟩
     |((with_reducible refine aI ?_ ?_);focus (first|with_reducible rfl|omega|exact tK))
     |(split<;>rename_i hh<;>(try simp only[wS] at hh))
     |with_reducible refine lnI fun hln=>?_
     |with_reducible refine iA ?_ ?_
     |fail)<;>(conv=>whnf)))
    all_goals (try (show _=_;simp only[wQ]))
    all_goals first
     |(rw[Ati hF0 hi (by assumption) (by assumption)];done)
     |(rw[Atj hF0 hi (by assumption) (by assumption) (by assumption)];done)
     |(rw[Atk hF0 hi (by assumption) (by assumption) (by assumption)];done)
     |skip
    all_goals try (
     (conv=>whnf)
     refine⟨(i+1:Nat),[],?_,⟨⟨rfl,(nB rfl),rfl⟩,?_,?_⟩⟩
     ·exact⟨show i+1≤(Ay 45 s).length by omega,show(Ay 45 s).length - (i+1)<(Ay 45 s).length - i by omega⟩
     ·(conv=>whnf)
      (repeat' ((first|with_reducible exact⟨⟩|((with_reducible refine aI ?_ ?_);focus (exact tA))|with_reducible refine iA ?_ ?_|fail)<;>(conv=>whnf)))
      all_goals (try first|omega)
      all_goals (rw[Ky];first
       |(rw[if_pos ⟨fun e=>by rename_i q1 q2;rw[e0,e] at q1;exact q1 rfl,by assumption⟩];rw[e0] at*;omega)
       |(rw[if_neg (fun e=>by omega)];done)
       |(rw[if_neg (fun e=>e.1 (h46 _ (by assumption)))];done))
     ·exact tL
     done)
    all_goals try (
     have q1: ¬((((Ay 45 s).getD (i:Int).toNat 0).toNat:Int)=46):=by assumption
     have q2:Ec (Ay 45 s) i≤1000000000000:=by assumption
     have hg:=hge q1 (by omega)
     have hv:Ec (Ay 45 s) (i+1)=10*Ec (Ay 45 s) i+((((Ay 45 s).getD (i:Int).toNat 0).toNat:Int) - 48):=by
      rw[Ky,if_pos ⟨fun e=>q1 (by rw[e0,e];rfl),q2⟩];rw[e0] at hg ⊢;omega
     (conv=>whnf)
     refine⟨(i+1:Nat),[],?_,⟨⟨rfl,(nB rfl),rfl⟩,?_,?_⟩⟩
     ·exact⟨show i+1≤(Ay 45 s).length by omega,show(Ay 45 s).length - (i+1)<(Ay 45 s).length - i by omega⟩
     ·(conv=>whnf)
      (repeat' ((first|with_reducible exact⟨⟩|((with_reducible refine aI ?_ ?_);focus (exact tA))|with_reducible refine iA ?_ ?_|fail)<;>(conv=>whnf)))
      all_goals (try first|omega)
      all_goals first|exact hv.symm|(rw[hv];done)|skip
     ·exact tL
     done)
    all_goals skip
 ·have hF1:Fb s=false:=Bool.eq_false_iff.2 hF0
  have hR:rOf s=(0,4):=by unfold rOf;rw[if_neg hF0]
  (conv=>whnf)
  (repeat' ((first
   |with_reducible exact⟨⟩
   |((with_reducible refine aI ?_ ?_);focus (first|with_reducible exact⟨⟩|with_reducible rfl))
   |(split<;>rename_i hh<;>(try simp only[wS] at hh))
   |with_reducible refine iA ?_ ?_
   |fail)<;>(conv=>whnf)))
  all_goals (try (show _=_;simp only[wQ]))
  all_goals first|(rw[hR];done)|(exact absurd (by assumption) hF0)|skip
end
end Go.Vc.Z
