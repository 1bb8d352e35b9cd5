/- The request of a line: the plain law. -/
import Derived.Test.YtpmpclbdnakniaaGreatDoorV17
import Derived.Test.YtpmpclbdnakniaaGreatDoorV18
import Derived.Test.YtpmpclbdnakniaaGreatDoorV14
set_option linter.all false
set_option linter.unusedVariables false
set_option linter.unusedSimpArgs false
namespace Go.Vc.Z
open Go Go.Vc Go.Proofs Go.RowKit Go.Pl Go.Lib
noncomputable section
abbrev Ay:Request:=⟨[],0,0,0,0,0,[],[],[],0,0,0⟩
open Classical in
@[irreducible] def Va(s:List UInt8):Request × Int:=if h:∃ r,Ah r=true∧Bu r=s then(h.choose,0) else(Ay,4)
theorem dR{s:List UInt8}(h:∀ r,Ah r=true→Bu r=s→False):Va s=(Ay,4):=by
 unfold Va
 rw[dif_neg]
 rintro⟨r,h1,h2⟩
 exact h r h1 h2
theorem Fa{s:List UInt8}{R:Request}(h1:Ah R=true)(h2:Bu R=s)(h:∀ r,Ah r=true→Bu r=s→R=r):Va s=(R,0):=by
 have hx:∃ r,Ah r=true∧Bu r=s:=⟨R,h1,h2⟩
 unfold Va
 rw[dif_pos hx,←h _ hx.choose_spec.1 hx.choose_spec.2]
theorem Aci{r:Request}(h:Ah r=true):(Br r).getD 0 []=D2.getD (r.kind - 1).toNat []:=by
 rcases F5 h with k|k|k|k|k|k|k|k|k|k
 ·rw[Ke k,k];rfl
 ·rw[Kg k,k];rfl
 ·rw[Ki k,k];rfl
 ·rw[Kk k,k];rfl
 ·rw[Kl k,k];rfl
 ·rw[Kn k,k];rfl
 ·rw[Kp k,k];rfl
 ·rw[Kq k,k];rfl
 ·rw[Ks k,k];rfl
 ·rw[Io k,k];rfl
theorem Jb{r:Request}(h:Ah r=true):r=Ct r:=by
 rcases F5 h with k|k|k|k|k|k|k|k|k|k
 ·rw[Tb k] at h;simp only[Bool.and_eq_true,Bb] at h;exact h.2.2.2.2.2
 ·rw[Xw k] at h;simp only[Bool.and_eq_true,Bb] at h;exact h.2.2.2.2.2
 ·rw[Xx k] at h;simp only[Bool.and_eq_true,Bb] at h;exact h.2.2.2
 ·rw[Xy k] at h;simp only[Bool.and_eq_true,Bb] at h;exact h.2.2.2.2
 ·rw[Xz k] at h;simp only[Bool.and_eq_true,Bb] at h;exact h.2.2.2.2.2.2
 ·rw[X0 k] at h;simp only[Bool.and_eq_true,Bb] at h;exact h.2.2.2.2
 ·rw[X1 k] at h;simp only[Bool.and_eq_true,Bb] at h;exact h.2.2.2.2
 ·rw[X2 k] at h;simp only[Bool.and_eq_true,Bb] at h;exact h.2
 ·rw[X3 k] at h;simp only[Bool.and_eq_true,Bb] at h;exact h.2
 ·rw[Ug k] at h;simp only[Bool.and_eq_true,Bb] at h;exact h.2
theorem X8(s:List UInt8):kindOf s=0∨kindOf s=1∨kindOf s=2∨kindOf s=3∨kindOf s=4∨kindOf s=5∨kindOf s=6∨kindOf s=7∨kindOf s=8∨kindOf s=9∨kindOf s=10:=by
 unfold kindOf
 repeat' split
 all_goals omega
theorem Hs{s:List UInt8}{r:Request}{k:Int}(hm:Ah r=true)(hw:Bu r=s)(hk:kindOf ((Aa 32 s).getD 0 [])=k):r.kind=k:=by
 have hc:=I8 hm
 rw[hw] at hc
 have h1:1≤r.kind∧r.kind≤10:=by rcases F5 hm with k|k|k|k|k|k|k|k|k|k<;>omega
 rw[hc,Aci hm,←Ci h1,qM h1] at hk
 exact hk
theorem X9{m:Int}{l:List Coupon}(h:E8 m l=true):Aa 44 (Cf l)=l.map Bv∧∀ c ∈ l,Ef (Bv c)=(c,true):=by
 obtain⟨h1,h2,h3⟩:=Ev h
 exact⟨Ace (by intro e;rw[e] at h1;simp at h1),fun c hc=>Akj (h3 c hc)⟩
theorem hI{l:List Tax}(h:De l=true):(l=[]∧B7 l=[45])∨(B7 l≠[45]∧Aa 44 (B7 l)=l.map Fo∧∀ c ∈ l,Dk (Fo c)=(c,true)):=by
 by_cases h0:l=[]
 ·subst h0;exact .inl ⟨rfl,by unfold B7;rfl⟩
 ·exact .inr ⟨Ab5 h0,Akl h0,fun c hc=>Akk (gL h c hc).1 (gL h c hc).2⟩
theorem hJ{s:List UInt8}{r:Request}(hm:Ah r=true)(hw:Bu r=s)(hk:kindOf ((Aa 32 s).getD 0 [])=1):Aa 32 s=[[105,115,115,117,101],r.key,Lib.itoa r.day,r.locator,Cf r.coupons,B7 r.taxes]∧r=⟨r.key,1,r.day,0,0,0,r.locator,r.coupons,r.taxes,0,0,0⟩∧(Aj (Lib.itoa r.day)=(r.day,true))∧(Aa 44 (Cf r.coupons)=r.coupons.map Bv∧∀ c ∈ r.coupons,Ef (Bv c)=(c,true))∧((r.taxes=[]∧B7 r.taxes=[45])∨(B7 r.taxes≠[45]∧Aa 44 (B7 r.taxes)=r.taxes.map Fo∧∀ c ∈ r.taxes,Dk (Fo c)=(c,true)))∧True:=by
 have k:=Hs hm hw hk
 have hc:=I8 hm
 have ho:=Jb hm
 rw[hw,Ke k] at hc
 obtain⟨hK,hD,hL,hC,hX⟩:=H9 k hm
 refine⟨hc,?_,B9 (Eh hD).1 (by have:=Eh hD;omega),X9 hC,hI hX,True.intro⟩
 refine ho.trans ?_
 unfold Ct;rw[k];rfl
theorem Aqu{s:List UInt8}{r:Request}(hm:Ah r=true)(hw:Bu r=s)(hk:kindOf ((Aa 32 s).getD 0 [])=2):Aa 32 s=[[109,111,118,101],r.key,Lib.itoa r.day,A7 r.ticket,Lib.itoa r.coupon,Dg r.status]∧r=⟨r.key,2,r.day,r.ticket,r.coupon,r.status,[],[],[],0,0,0⟩∧(Aj (Lib.itoa r.day)=(r.day,true))∧(numOf (A7 r.ticket)=(r.ticket,0))∧(Aj (Lib.itoa r.coupon)=(r.coupon,true))∧(statOf (Dg r.status)=r.status∧r.status≠0)∧True:=by
 have k:=Hs hm hw hk
 have hc:=I8 hm
 have ho:=Jb hm
 rw[hw,Kg k] at hc
 obtain⟨hK,hD,hT,hN,hS⟩:=Kf k hm
 refine⟨hc,?_,B9 (Eh hD).1 (by have:=Eh hD;omega),H5 (by unfold Ee at hT;simpa using hT),B9 (by omega) (by omega),⟨oH hS,by have:=Sp.1 hS;omega⟩,True.intro⟩
 refine ho.trans ?_
 unfold Ct;rw[k];rfl
theorem Aqv{s:List UInt8}{r:Request}(hm:Ah r=true)(hw:Bu r=s)(hk:kindOf ((Aa 32 s).getD 0 [])=3):Aa 32 s=[[118,111,105,100],r.key,Lib.itoa r.day,A7 r.ticket]∧r=⟨r.key,3,r.day,r.ticket,0,0,[],[],[],0,0,0⟩∧(Aj (Lib.itoa r.day)=(r.day,true))∧(numOf (A7 r.ticket)=(r.ticket,0))∧True:=by
 have k:=Hs hm hw hk
 have hc:=I8 hm
 have ho:=Jb hm
 rw[hw,Ki k] at hc
 obtain⟨hK,hD,hT⟩:=Kh k hm
 refine⟨hc,?_,B9 (Eh hD).1 (by have:=Eh hD;omega),H5 (by unfold Ee at hT;simpa using hT),True.intro⟩
 refine ho.trans ?_
 unfold Ct;rw[k];rfl
theorem Aqw{s:List UInt8}{r:Request}(hm:Ah r=true)(hw:Bu r=s)(hk:kindOf ((Aa 32 s).getD 0 [])=4):Aa 32 s=[[114,101,102,117,110,100],r.key,Lib.itoa r.day,A7 r.ticket,Du r.amount]∧r=⟨r.key,4,r.day,r.ticket,0,0,[],[],[],r.amount,0,0⟩∧(Aj (Lib.itoa r.day)=(r.day,true))∧(numOf (A7 r.ticket)=(r.ticket,0))∧(Dm (Du r.amount)=(r.amount,0))∧True:=by
 have k:=Hs hm hw hk
 have hc:=I8 hm
 have ho:=Jb hm
 rw[hw,Kk k] at hc
 obtain⟨hK,hD,hT,hA⟩:=Kj k hm
 refine⟨hc,?_,B9 (Eh hD).1 (by have:=Eh hD;omega),H5 (by unfold Ee at hT;simpa using hT),Og (Es hA),True.intro⟩
 refine ho.trans ?_
 unfold Ct;rw[k];rfl
theorem hO{s:List UInt8}{r:Request}(hm:Ah r=true)(hw:Bu r=s)(hk:kindOf ((Aa 32 s).getD 0 [])=5):Aa 32 s=[[101,120,99,104,97,110,103,101],r.key,Lib.itoa r.day,A7 r.ticket,Du r.amount,Cf r.coupons,B7 r.taxes]∧r=⟨r.key,5,r.day,r.ticket,0,0,[],r.coupons,r.taxes,r.amount,0,0⟩∧(Aj (Lib.itoa r.day)=(r.day,true))∧(numOf (A7 r.ticket)=(r.ticket,0))∧(Dm (Du r.amount)=(r.amount,0))∧(Aa 44 (Cf r.coupons)=r.coupons.map Bv∧∀ c ∈ r.coupons,Ef (Bv c)=(c,true))∧((r.taxes=[]∧B7 r.taxes=[45])∨(B7 r.taxes≠[45]∧Aa 44 (B7 r.taxes)=r.taxes.map Fo∧∀ c ∈ r.taxes,Dk (Fo c)=(c,true)))∧True:=by
 have k:=Hs hm hw hk
 have hc:=I8 hm
 have ho:=Jb hm
 rw[hw,Kl k] at hc
 obtain⟨hK,hD,hT,hA,hC,hX⟩:=Ia k hm
 refine⟨hc,?_,B9 (Eh hD).1 (by have:=Eh hD;omega),H5 (by unfold Ee at hT;simpa using hT),Og (Es hA),X9 hC,hI hX,True.intro⟩
 refine ho.trans ?_
 unfold Ct;rw[k];rfl
theorem Aqx{s:List UInt8}{r:Request}(hm:Ah r=true)(hw:Bu r=s)(hk:kindOf ((Aa 32 s).getD 0 [])=6):Aa 32 s=[[97,115,107],r.key,Lib.itoa r.day,A7 r.ticket,Lib.itoa r.coupon]∧r=⟨r.key,6,r.day,r.ticket,r.coupon,0,[],[],[],0,0,0⟩∧(Aj (Lib.itoa r.day)=(r.day,true))∧(numOf (A7 r.ticket)=(r.ticket,0))∧(Aj (Lib.itoa r.coupon)=(r.coupon,true))∧True:=by
 have k:=Hs hm hw hk
 have hc:=I8 hm
 have ho:=Jb hm
 rw[hw,Kn k] at hc
 obtain⟨hK,hD,hT,hN⟩:=Km k hm
 refine⟨hc,?_,B9 (Eh hD).1 (by have:=Eh hD;omega),H5 (by unfold Ee at hT;simpa using hT),B9 (by omega) (by omega),True.intro⟩
 refine ho.trans ?_
 unfold Ct;rw[k];rfl
theorem Aqy{s:List UInt8}{r:Request}(hm:Ah r=true)(hw:Bu r=s)(hk:kindOf ((Aa 32 s).getD 0 [])=7):Aa 32 s=[[114,101,116,117,114,110],r.key,Lib.itoa r.day,A7 r.ticket,Lib.itoa r.coupon]∧r=⟨r.key,7,r.day,r.ticket,r.coupon,0,[],[],[],0,0,0⟩∧(Aj (Lib.itoa r.day)=(r.day,true))∧(numOf (A7 r.ticket)=(r.ticket,0))∧(Aj (Lib.itoa r.coupon)=(r.coupon,true))∧True:=by
 have k:=Hs hm hw hk
 have hc:=I8 hm
 have ho:=Jb hm
 rw[hw,Kp k] at hc
 obtain⟨hK,hD,hT,hN⟩:=Ko k hm
 refine⟨hc,?_,B9 (Eh hD).1 (by have:=Eh hD;omega),H5 (by unfold Ee at hT;simpa using hT),B9 (by omega) (by omega),True.intro⟩
 refine ho.trans ?_
 unfold Ct;rw[k];rfl
theorem Aqz{s:List UInt8}{r:Request}(hm:Ah r=true)(hw:Bu r=s)(hk:kindOf ((Aa 32 s).getD 0 [])=8):Aa 32 s=[[115,104,111,119],A7 r.ticket]∧r=⟨[],8,0,r.ticket,0,0,[],[],[],0,0,0⟩∧(numOf (A7 r.ticket)=(r.ticket,0))∧True:=by
 have k:=Hs hm hw hk
 have hc:=I8 hm
 have ho:=Jb hm
 rw[hw,Kq k] at hc
 have hT:=Wk k hm
 refine⟨hc,?_,H5 (by unfold Ee at hT;simpa using hT),True.intro⟩
 refine ho.trans ?_
 unfold Ct;rw[k];rfl
theorem Aq0{s:List UInt8}{r:Request}(hm:Ah r=true)(hw:Bu r=s)(hk:kindOf ((Aa 32 s).getD 0 [])=9):Aa 32 s=[[102,105,110,100],r.locator]∧r=⟨[],9,0,0,0,0,r.locator,[],[],0,0,0⟩∧True:=by
 have k:=Hs hm hw hk
 have hc:=I8 hm
 have ho:=Jb hm
 rw[hw,Ks k] at hc
 have hL:=Kr k hm
 refine⟨hc,?_,True.intro⟩
 refine ho.trans ?_
 unfold Ct;rw[k];rfl
theorem Ah0{s:List UInt8}{r:Request}(hm:Ah r=true)(hw:Bu r=s)(hk:kindOf ((Aa 32 s).getD 0 [])=10):Aa 32 s=[[114,101,112,111,114,116],Lib.itoa r.frm,Lib.itoa r.til]∧r=⟨[],10,0,0,0,0,[],[],[],0,r.frm,r.til⟩∧(Aj (Lib.itoa r.frm)=(r.frm,true))∧(Aj (Lib.itoa r.til)=(r.til,true))∧True:=by
 have k:=Hs hm hw hk
 have hc:=I8 hm
 have ho:=Jb hm
 rw[hw,Io k] at hc
 obtain⟨hF,hU⟩:=Td k hm
 refine⟨hc,?_,B9 (Eh hF).1 (by have:=Eh hF;omega),B9 (Eh hU).1 (by have:=Eh hU;omega),True.intro⟩
 refine ho.trans ?_
 unfold Ct;rw[k];rfl
end
end Go.Vc.Z
namespace Go.Vc.Z
open Go Go.Vc Go.Proofs Go.RowKit Go.Pl Go.Lib
theorem Mh{α:Type}{f:List UInt8→α × Bool}{g:α→List UInt8}{W:List (List UInt8)}{L l:List α}(h:L=(W.take L.length).map (fun w=>(f w).1))(hle:L.length≤W.length)(hn: ¬L.length<W.length)(hW:W=l.map g)(hf:∀ c ∈ l,f (g c)=(c,true)):L=l:=by
 have e:L.length=W.length:=by omega
 rw[e,List.take_length,hW,List.map_map] at h
 rw[h]
 clear h hle hn hW e
 induction l with
 |nil=>rfl
 |cons c l ih=>
  rw[List.map_cons,ih (fun d hd=>hf d (List.mem_cons_of_mem _ hd))]
  show(f (g c)).1::l=c::l
  rw[hf c (List.mem_cons_self ..)]
theorem Ht{α:Type}{f:List UInt8→α × Bool}{g:α→List UInt8}{W:List (List UInt8)}{l:List α}{i:Nat}(hi:i<W.length)(hW:W=l.map g)(hf:∀ c ∈ l,f (g c)=(c,true)):(f (W.getD i [])).2=true:=by
 subst hW
 rw[List.getD_eq_getElem?_getD,List.getElem?_eq_getElem hi,Option.getD_some,List.getElem_map,hf _ (List.getElem_mem _)]
theorem F6{α:Type}{f:List UInt8→α × Bool}{W:List (List UInt8)}{L:List α}(h:L=(W.take L.length).map (fun w=>(f w).1))(hi:L.length<W.length):L++[(f (W.getD L.length [])).1]=(W.take (L++[(f (W.getD L.length [])).1]).length).map (fun w=>(f w).1):=by
 rw[List.length_append,List.length_singleton,List.take_add_one,List.map_append,←h,List.getElem?_eq_getElem hi,List.getD_eq_getElem?_getD,List.getElem?_eq_getElem hi]
 rfl
theorem Lb{W:List (List UInt8)}{p:List UInt8→Bool}{n:Nat}(h:∀ w ∈ W.take n,p w=true)(hi:n<W.length)(hp:p (W.getD n [])=true):∀ w ∈ W.take (n+1),p w=true:=by
 intro w hw
 rw[List.take_add_one,List.getElem?_eq_getElem hi,List.mem_append] at hw
 rcases hw with hw|hw
 ·exact h w hw
 ·rw[List.getD_eq_getElem?_getD,List.getElem?_eq_getElem hi] at hp
  simp at hw;rw[hw];exact hp
theorem Lc{α:Type}[Inhabited α]{enc:α→List AV}{l:List α}{n:Nat}{d:α}{g b:Nat→List AV}(hn:n=l.length)(hg:∀ e,e<l.length→g e=enc (l.getD e default))(hb:b 0=enc d){e:Nat}(he:e<n+1):B0 n g b e=enc ((l++[d]).getD e default):=by
 subst hn
 unfold B0
 by_cases h:e<l.length
 ·rw[if_pos h,hg e h,List.getD_eq_getElem?_getD,List.getD_eq_getElem?_getD,List.getElem?_append_left h]
 ·rw[if_neg h]
  obtain rfl:e=l.length:=by omega
  rw[Nat.sub_self,hb,List.getD_eq_getElem?_getD,List.getElem?_append_right (Nat.le_refl _),Nat.sub_self];rfl
theorem Z8{c:UInt8}{s:List UInt8}{m:Nat}(h:s.length≤m)(i:Nat):((sL (Aa c s)).getD i []).length≤m:=by
 rw[Dd,List.getD_eq_getElem?_getD]
 cases e:(Aa c s)[i]? with
 |none=>simp
 |some w=>have:=(P6 s w (List.mem_of_getElem? e)).1;simp;omega
theorem Acj{α:Type}{f:List UInt8→α × Bool}{g:α→List UInt8}:∀ {l k:List α},l.map g=k.map g→(∀ c ∈ l,f (g c)=(c,true))→(∀ c ∈ k,f (g c)=(c,true))→l=k
 |[],[],_,_,_=>rfl
 |[],_::_,h,_,_=>by cases h
 |_::_,[],h,_,_=>by cases h
 |a::l,b::k,h,h1,h2=>by
  rw[List.map_cons,List.map_cons] at h
  injection h with e1 e2
  have e3:=(h1 a (List.mem_cons_self ..)).symm.trans ((congrArg f e1).trans (h2 b (List.mem_cons_self ..)))
  rw[show a=b from congrArg Prod.fst e3,Acj e2 (fun c hc=>h1 c (List.mem_cons_of_mem _ hc)) (fun c hc=>h2 c (List.mem_cons_of_mem _ hc))]
theorem zO{α:Type}{f:List UInt8→α × Bool}{g:α→List UInt8}{l k:List α}{a b:List UInt8}(h:a=b)(h1:Aa 44 a=l.map g∧∀ c ∈ l,f (g c)=(c,true))(h2:Aa 44 b=k.map g∧∀ c ∈ k,f (g c)=(c,true)):l=k:=
 Acj (h1.1.symm.trans ((congrArg (Aa 44) h).trans h2.1)) h1.2 h2.2
theorem Ah1{l k:List Tax}(h:B7 l=B7 k)(h1:(l=[]∧B7 l=[45])∨(B7 l≠[45]∧Aa 44 (B7 l)=l.map Fo∧∀ c ∈ l,Dk (Fo c)=(c,true)))(h2:(k=[]∧B7 k=[45])∨(B7 k≠[45]∧Aa 44 (B7 k)=k.map Fo∧∀ c ∈ k,Dk (Fo c)=(c,true))):l=k:=by
 rcases h1 with ⟨a,b⟩|⟨a,b⟩<;>rcases h2 with ⟨c,d⟩|⟨c,d⟩
 ·rw[a,c]
 ·exact absurd (h.symm.trans b) c
 ·exact absurd (h.trans d) a
 ·exact zO h b d
theorem A14{r q:Request}(hm:Ah r=true)(hn:Ah q=true)(hw:Bu r=Bu q)(hk:kindOf ((Aa 32 (Bu q)).getD 0 [])=1):r=q:=by
 obtain⟨c1,e1,fD,fC,fX, -⟩:=hJ hm hw hk
 obtain⟨c2,e2,gD,gC,gX, -⟩:=hJ hn rfl hk
 have h:=c1.symm.trans c2
 simp only[List.cons.injEq,and_true,true_and] at h
 obtain⟨hK,hD,hL,hC,hX⟩:=h
 have iK:r.key=q.key:=hK
 have iD:r.day=q.day:=congrArg Prod.fst (fD.symm.trans ((congrArg Aj hD).trans gD))
 have iL:r.locator=q.locator:=hL
 have iC:r.coupons=q.coupons:=zO hC fC gC
 have iX:r.taxes=q.taxes:=Ah1 hX fX gX
 rw[e1,e2,iK,iD,iL,iC,iX]
theorem A15{r q:Request}(hm:Ah r=true)(hn:Ah q=true)(hw:Bu r=Bu q)(hk:kindOf ((Aa 32 (Bu q)).getD 0 [])=2):r=q:=by
 obtain⟨c1,e1,fD,fT,fN,fS, -⟩:=Aqu hm hw hk
 obtain⟨c2,e2,gD,gT,gN,gS, -⟩:=Aqu hn rfl hk
 have h:=c1.symm.trans c2
 simp only[List.cons.injEq,and_true,true_and] at h
 obtain⟨hK,hD,hT,hN,hS⟩:=h
 have iK:r.key=q.key:=hK
 have iD:r.day=q.day:=congrArg Prod.fst (fD.symm.trans ((congrArg Aj hD).trans gD))
 have iT:r.ticket=q.ticket:=congrArg Prod.fst (fT.symm.trans ((congrArg numOf hT).trans gT))
 have iN:r.coupon=q.coupon:=congrArg Prod.fst (fN.symm.trans ((congrArg Aj hN).trans gN))
 have iS:r.status=q.status:=fS.1.symm.trans ((congrArg statOf hS).trans gS.1)
 rw[e1,e2,iK,iD,iT,iN,iS]
theorem A16{r q:Request}(hm:Ah r=true)(hn:Ah q=true)(hw:Bu r=Bu q)(hk:kindOf ((Aa 32 (Bu q)).getD 0 [])=3):r=q:=by
 obtain⟨c1,e1,fD,fT, -⟩:=Aqv hm hw hk
 obtain⟨c2,e2,gD,gT, -⟩:=Aqv hn rfl hk
 have h:=c1.symm.trans c2
 simp only[List.cons.injEq,and_true,true_and] at h
 obtain⟨hK,hD,hT⟩:=h
 have iK:r.key=q.key:=hK
 have iD:r.day=q.day:=congrArg Prod.fst (fD.symm.trans ((congrArg Aj hD).trans gD))
 have iT:r.ticket=q.ticket:=congrArg Prod.fst (fT.symm.trans ((congrArg numOf hT).trans gT))
 rw[e1,e2,iK,iD,iT]
theorem A17{r q:Request}(hm:Ah r=true)(hn:Ah q=true)(hw:Bu r=Bu q)(hk:kindOf ((Aa 32 (Bu q)).getD 0 [])=4):r=q:=by
 obtain⟨c1,e1,fD,fT,fA, -⟩:=Aqw hm hw hk
 obtain⟨c2,e2,gD,gT,gA, -⟩:=Aqw hn rfl hk
 have h:=c1.symm.trans c2
 simp only[List.cons.injEq,and_true,true_and] at h
 obtain⟨hK,hD,hT,hA⟩:=h
 have iK:r.key=q.key:=hK
 have iD:r.day=q.day:=congrArg Prod.fst (fD.symm.trans ((congrArg Aj hD).trans gD))
 have iT:r.ticket=q.ticket:=congrArg Prod.fst (fT.symm.trans ((congrArg numOf hT).trans gT))
 have iA:r.amount=q.amount:=congrArg Prod.fst (fA.symm.trans ((congrArg Dm hA).trans gA))
 rw[e1,e2,iK,iD,iT,iA]
theorem A18{r q:Request}(hm:Ah r=true)(hn:Ah q=true)(hw:Bu r=Bu q)(hk:kindOf ((Aa 32 (Bu q)).getD 0 [])=5):r=q:=by
 obtain⟨c1,e1,fD,fT,fA,fC,fX, -⟩:=hO hm hw hk
 obtain⟨c2,e2,gD,gT,gA,gC,gX, -⟩:=hO hn rfl hk
 have h:=c1.symm.trans c2
 simp only[List.cons.injEq,and_true,true_and] at h
 obtain⟨hK,hD,hT,hA,hC,hX⟩:=h
 have iK:r.key=q.key:=hK
 have iD:r.day=q.day:=congrArg Prod.fst (fD.symm.trans ((congrArg Aj hD).trans gD))
 have iT:r.ticket=q.ticket:=congrArg Prod.fst (fT.symm.trans ((congrArg numOf hT).trans gT))
 have iA:r.amount=q.amount:=congrArg Prod.fst (fA.symm.trans ((congrArg Dm hA).trans gA))
 have iC:r.coupons=q.coupons:=zO hC fC gC
 have iX:r.taxes=q.taxes:=Ah1 hX fX gX
 rw[e1,e2,iK,iD,iT,iA,iC,iX]
theorem A19{r q:Request}(hm:Ah r=true)(hn:Ah q=true)(hw:Bu r=Bu q)(hk:kindOf ((Aa 32 (Bu q)).getD 0 [])=6):r=q:=by
 obtain⟨c1,e1,fD,fT,fN, -⟩:=Aqx hm hw hk
 obtain⟨c2,e2,gD,gT,gN, -⟩:=Aqx hn rfl hk
 have h:=c1.symm.trans c2
 simp only[List.cons.injEq,and_true,true_and] at h
 obtain⟨hK,hD,hT,hN⟩:=h
 have iK:r.key=q.key:=hK
 have iD:r.day=q.day:=congrArg Prod.fst (fD.symm.trans ((congrArg Aj hD).trans gD))
 have iT:r.ticket=q.ticket:=congrArg Prod.fst (fT.symm.trans ((congrArg numOf hT).trans gT))
 have iN:r.coupon=q.coupon:=congrArg Prod.fst (fN.symm.trans ((congrArg Aj hN).trans gN))
 rw[e1,e2,iK,iD,iT,iN]
theorem A2a{r q:Request}(hm:Ah r=true)(hn:Ah q=true)(hw:Bu r=Bu q)(hk:kindOf ((Aa 32 (Bu q)).getD 0 [])=7):r=q:=by
 obtain⟨c1,e1,fD,fT,fN, -⟩:=Aqy hm hw hk
 obtain⟨c2,e2,gD,gT,gN, -⟩:=Aqy hn rfl hk
 have h:=c1.symm.trans c2
 simp only[List.cons.injEq,and_true,true_and] at h
 obtain⟨hK,hD,hT,hN⟩:=h
 have iK:r.key=q.key:=hK
 have iD:r.day=q.day:=congrArg Prod.fst (fD.symm.trans ((congrArg Aj hD).trans gD))
 have iT:r.ticket=q.ticket:=congrArg Prod.fst (fT.symm.trans ((congrArg numOf hT).trans gT))
 have iN:r.coupon=q.coupon:=congrArg Prod.fst (fN.symm.trans ((congrArg Aj hN).trans gN))
 rw[e1,e2,iK,iD,iT,iN]
theorem A2b{r q:Request}(hm:Ah r=true)(hn:Ah q=true)(hw:Bu r=Bu q)(hk:kindOf ((Aa 32 (Bu q)).getD 0 [])=8):r=q:=by
 obtain⟨c1,e1,fT, -⟩:=Aqz hm hw hk
 obtain⟨c2,e2,gT, -⟩:=Aqz hn rfl hk
 have h:=c1.symm.trans c2
 simp only[List.cons.injEq,and_true,true_and] at h
 have hT:=h
 have iT:r.ticket=q.ticket:=congrArg Prod.fst (fT.symm.trans ((congrArg numOf hT).trans gT))
 rw[e1,e2,iT]
theorem A2c{r q:Request}(hm:Ah r=true)(hn:Ah q=true)(hw:Bu r=Bu q)(hk:kindOf ((Aa 32 (Bu q)).getD 0 [])=9):r=q:=by
 obtain⟨c1,e1, -⟩:=Aq0 hm hw hk
 obtain⟨c2,e2, -⟩:=Aq0 hn rfl hk
 have h:=c1.symm.trans c2
 simp only[List.cons.injEq,and_true,true_and] at h
 have hL:=h
 have iL:r.locator=q.locator:=hL
 rw[e1,e2,iL]
theorem Axg{r q:Request}(hm:Ah r=true)(hn:Ah q=true)(hw:Bu r=Bu q)(hk:kindOf ((Aa 32 (Bu q)).getD 0 [])=10):r=q:=by
 obtain⟨c1,e1,fF,fU, -⟩:=Ah0 hm hw hk
 obtain⟨c2,e2,gF,gU, -⟩:=Ah0 hn rfl hk
 have h:=c1.symm.trans c2
 simp only[List.cons.injEq,and_true,true_and] at h
 obtain⟨hF,hU⟩:=h
 have iF:r.frm=q.frm:=congrArg Prod.fst (fF.symm.trans ((congrArg Aj hF).trans gF))
 have iU:r.til=q.til:=congrArg Prod.fst (fU.symm.trans ((congrArg Aj hU).trans gU))
 rw[e1,e2,iF,iU]
theorem An1{r q:Request}(hm:Ah r=true)(hn:Ah q=true)(hw:Bu r=Bu q):r=q:=by
 rcases X8 ((Aa 32 (Bu q)).getD 0 []) with hk|hk|hk|hk|hk|hk|hk|hk|hk|hk|hk
 ·have h1:=Hs hn rfl hk
  rcases F5 hn with h|h|h|h|h|h|h|h|h|h<;>omega
 ·exact A14 hm hn hw hk
 ·exact A15 hm hn hw hk
 ·exact A16 hm hn hw hk
 ·exact A17 hm hn hw hk
 ·exact A18 hm hn hw hk
 ·exact A19 hm hn hw hk
 ·exact A2a hm hn hw hk
 ·exact A2b hm hn hw hk
 ·exact A2c hm hn hw hk
 ·exact Axg hm hn hw hk
theorem qN{r:Request}(h:Ah r=true):Va (Bu r)=(r,0):=
 Fa h rfl fun _ hm hw=>(An1 hm h hw).symm
end Go.Vc.Z
namespace Go.Vc.Z
open Go Go.Vc Go.Proofs Go.RowKit Go.Pl Go.Lib
noncomputable section
set_option maxRecDepth 100000
attribute [local irreducible] inK Utf8.decode Utf8.encode Lib.itoa Pl.worth Pl.allDig
attribute [local irreducible] Lib.join Bw Aa
end
end Go.Vc.Z
namespace Go.Vc.Z
open Go Go.Vc Go.Proofs Go.RowKit Go.Pl Go.Lib
def Ah2(t:List UInt8):Nat→Int
 |0=>0
 |i+1=>if t.getD i 0≠46∧Ah2 t i≤1000000000000 then 10*Ah2 t i+(((t.getD i 0).toNat - 48:Nat):Int) else Ah2 t i
def A4r(t:List UInt8)(n:Nat):Bool:=decide (∀ i,i<n→i≠t.length - 3→48≤(t.getD i 0).toNat∧(t.getD i 0).toNat≤57)
end Go.Vc.Z
namespace Go.Vc.Z
open Go Go.Vc Go.Proofs Go.RowKit Go.Pl Go.Lib
theorem An2{s:List UInt8}(h:s≠[]→¬s.getD 0 0=45):Di 45 s=s:=by
 cases s with
 |nil=>unfold Di;simp
 |cons c t=>
  have h: ¬c=45:=h (by simp)
  unfold Di;rw[if_neg (by simp[Lib.hasPrefix,List.isPrefixOf,Ne.symm h])]
noncomputable section
set_option maxRecDepth 100000
attribute [local irreducible] inK Utf8.decode Utf8.encode Lib.itoa Pl.worth Pl.allDig
attribute [local irreducible] Lib.join Bw Aa A4r
end
end Go.Vc.Z
namespace Go.Vc.Z
open Go Go.Vc Go.Proofs Go.RowKit Go.Pl Go.Lib
noncomputable section
set_option maxRecDepth 100000
attribute [local irreducible] inK Utf8.decode Utf8.encode Lib.itoa Pl.worth Pl.allDig
attribute [local irreducible] Lib.join Bw Aa Ah2
end
end Go.Vc.Z
namespace Go.Vc.Z
open Go Go.Vc Go.Proofs Go.RowKit Go.Pl Go.Lib
end Go.Vc.Z
namespace Go.Vc.Z
open Go Go.Vc Go.Proofs Go.RowKit Go.Pl Go.Lib
noncomputable section
set_option maxRecDepth 100000
attribute [local irreducible] inK Utf8.decode Utf8.encode Lib.itoa Pl.worth Pl.allDig
attribute [local irreducible] Lib.join Bw Aa
end
end Go.Vc.Z
namespace Go.Vc.Z
open Go Go.Vc Go.Proofs Go.RowKit Go.Pl Go.Lib
noncomputable section
set_option maxRecDepth 100000
attribute [local irreducible] inK Utf8.decode Utf8.encode Lib.itoa Pl.worth Pl.allDig
attribute [local irreducible] Lib.join Bw Aa
end
end Go.Vc.Z
namespace Go.Vc.Z
open Go Go.Vc Go.Proofs Go.RowKit Go.Pl Go.Lib
end Go.Vc.Z
