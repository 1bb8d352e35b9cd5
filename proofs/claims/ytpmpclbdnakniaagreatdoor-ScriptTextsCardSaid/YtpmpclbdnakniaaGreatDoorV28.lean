/- Lists that are read back, word by word: the plain law. -/
import Derived.Test.YtpmpclbdnakniaaGreatDoorV27
set_option linter.all false
set_option maxHeartbeats 8000000
namespace Go.Vc.Z
open Go Go.Vc Go.Proofs Go.RowKit Go.Pl Go.Lib
theorem Nr{α:Type}{f:List UInt8→α × Bool}{g:α→List UInt8}{W:List (List UInt8)}{L l:List α}(h:L=(W.take L.length).map (fun w=>(f w).1))(hle:L.length≤W.length)(hn: ¬L.length<W.length)(hW:W=l.map g)(hf:∀ c ∈ l,f (g c)=(c,true)):L=l:=by
 have e:L.length=W.length:=by omega
 rw[e,List.take_length,hW,List.map_map] at h;rw[h];clear h hle hn hW e;induction l with
 |nil=>rfl
 |cons c l ih=>
  rw[List.map_cons,ih (fun d hd=>hf d (List.mem_cons_of_mem _ hd))];show(f (g c)).1::l=c::l;rw[hf c (List.mem_cons_self ..)]
theorem Ik{α:Type}{f:List UInt8→α × Bool}{g:α→List UInt8}{W:List (List UInt8)}{l:List α}{i:Nat}(hi:i<W.length)(hW:W=l.map g)(hf:∀ c ∈ l,f (g c)=(c,true)):(f (W.getD i [])).2=true:=by
 subst hW;rw[List.getD_eq_getElem?_getD,List.getElem?_eq_getElem hi,Option.getD_some,List.getElem_map,hf _ (List.getElem_mem _)]
theorem Cj{α:Type}{f:List UInt8→α × Bool}{W:List (List UInt8)}{L:List α}(h:L=(W.take L.length).map (fun w=>(f w).1))(hi:L.length<W.length):L++[(f (W.getD L.length [])).1]=(W.take (L++[(f (W.getD L.length [])).1]).length).map (fun w=>(f w).1):=by
 rw[List.length_append,List.length_singleton,List.take_add_one,List.map_append,←h,List.getElem?_eq_getElem hi,List.getD_eq_getElem?_getD,List.getElem?_eq_getElem hi];rfl
theorem L6{W:List (List UInt8)}{p:List UInt8→Bool}{n:Nat}(h:∀ w ∈ W.take n,p w=true)(hi:n<W.length)(hp:p (W.getD n [])=true):∀ w ∈ W.take (n+1),p w=true:=by
 intro w hw;rw[List.take_add_one,List.getElem?_eq_getElem hi,List.mem_append] at hw;rcases hw with hw|hw
 ·exact h w hw
 ·rw[List.getD_eq_getElem?_getD,List.getElem?_eq_getElem hi] at hp;simp at hw;rw[hw];exact hp
theorem Ey{α:Type}[Inhabited α]{enc:α→List AV}{l:List α}{n:Nat}{d:α}{g b:Nat→List AV}(hn:n=l.length)(hg:∀ e,e<l.length→g e=enc (l.getD e default))(hb:b 0=enc d){e:Nat}(he:e<n+1):Bq n g b e=enc ((l++[d]).getD e default):=by
 subst hn;unfold Bq;by_cases h:e<l.length
 ·rw[if_pos h,hg e h,List.getD_eq_getElem?_getD,List.getD_eq_getElem?_getD,List.getElem?_append_left h]
 ·rw[if_neg h];obtain rfl:e=l.length:=by omega
  rw[Nat.sub_self,hb,List.getD_eq_getElem?_getD,List.getElem?_append_right (Nat.le_refl _),Nat.sub_self];rfl
theorem Fo{c:UInt8}{s:List UInt8}{m:Nat}(h:s.length≤m)(i:Nat):((sL (Aa c s)).getD i []).length≤m:=by
 rw[Ck,List.getD_eq_getElem?_getD];cases e:(Aa c s)[i]? with
 |none=>simp
 |some w=>have:=(Ri s w (List.mem_of_getElem? e)).1;simp;omega
theorem Ahp{α:Type}{f:List UInt8→α × Bool}{g:α→List UInt8}:∀ {l k:List α},l.map g=k.map g→(∀ c ∈ l,f (g c)=(c,true))→(∀ c ∈ k,f (g c)=(c,true))→l=k
 |[],[],_,_,_=>rfl
 |[],_::_,h,_,_=>by cases h
 |_::_,[],h,_,_=>by cases h
 |a::l,b::k,h,h1,h2=>by
  rw[List.map_cons,List.map_cons] at h;injection h with e1 e2
  have e3:=(h1 a (List.mem_cons_self ..)).symm.trans ((congrArg f e1).trans (h2 b (List.mem_cons_self ..)));rw[show a=b from congrArg Prod.fst e3,Ahp e2 (fun c hc=>h1 c (List.mem_cons_of_mem _ hc)) (fun c hc=>h2 c (List.mem_cons_of_mem _ hc))]
theorem Ac0{α:Type}{f:List UInt8→α × Bool}{g:α→List UInt8}{l k:List α}{a b:List UInt8}(h:a=b)(h1:Aa 44 a=l.map g∧∀ c ∈ l,f (g c)=(c,true))(h2:Aa 44 b=k.map g∧∀ c ∈ k,f (g c)=(c,true)):l=k:=
 Ahp (h1.1.symm.trans ((congrArg (Aa 44) h).trans h2.1)) h1.2 h2.2
theorem Al6{l k:List Tax}(h:Bm l=Bm k)(h1:(l=[]∧Bm l=[45])∨(Bm l≠[45]∧Aa 44 (Bm l)=l.map E7∧∀ c ∈ l,C7 (E7 c)=(c,true)))(h2:(k=[]∧Bm k=[45])∨(Bm k≠[45]∧Aa 44 (Bm k)=k.map E7∧∀ c ∈ k,C7 (E7 c)=(c,true))):l=k:=by
 rcases h1 with ⟨a,b⟩|⟨a,b⟩<;>rcases h2 with ⟨c,d⟩|⟨c,d⟩
 ·rw[a,c]
 ·exact absurd (h.symm.trans b) c
 ·exact absurd (h.trans d) a
 ·exact Ac0 h b d
theorem A5t{r q:Request}(hm:Af r=true)(hn:Af q=true)(hw:Be r=Be q)(hk:kindOf ((Aa 32 (Be q)).getD 0 [])=1):r=q:=by
 obtain⟨c1,e1,fD,fC,fX, -⟩:=hJ hm hw hk;obtain⟨c2,e2,gD,gC,gX, -⟩:=hJ hn rfl hk;have h:=c1.symm.trans c2;simp only[List.cons.injEq,and_true,true_and] at h;obtain⟨hK,hD,hL,hC,hX⟩:=h;have iK:r.key=q.key:=hK;have iD:r.day=q.day:=congrArg Prod.fst (fD.symm.trans ((congrArg Aj hD).trans gD));have iL:r.locator=q.locator:=hL;have iC:r.coupons=q.coupons:=Ac0 hC fC gC;have iX:r.taxes=q.taxes:=Al6 hX fX gX;rw[e1,e2,iK,iD,iL,iC,iX]
theorem A5u{r q:Request}(hm:Af r=true)(hn:Af q=true)(hw:Be r=Be q)(hk:kindOf ((Aa 32 (Be q)).getD 0 [])=2):r=q:=by
 obtain⟨c1,e1,fD,fT,fN,fS, -⟩:=Arn hm hw hk;obtain⟨c2,e2,gD,gT,gN,gS, -⟩:=Arn hn rfl hk;have h:=c1.symm.trans c2;simp only[List.cons.injEq,and_true,true_and] at h;obtain⟨hK,hD,hT,hN,hS⟩:=h;have iK:r.key=q.key:=hK;have iD:r.day=q.day:=congrArg Prod.fst (fD.symm.trans ((congrArg Aj hD).trans gD));have iT:r.ticket=q.ticket:=congrArg Prod.fst (fT.symm.trans ((congrArg numOf hT).trans gT));have iN:r.coupon=q.coupon:=congrArg Prod.fst (fN.symm.trans ((congrArg Aj hN).trans gN));have iS:r.status=q.status:=fS.1.symm.trans ((congrArg statOf hS).trans gS.1);rw[e1,e2,iK,iD,iT,iN,iS]
theorem A5v{r q:Request}(hm:Af r=true)(hn:Af q=true)(hw:Be r=Be q)(hk:kindOf ((Aa 32 (Be q)).getD 0 [])=3):r=q:=by
 obtain⟨c1,e1,fD,fT, -⟩:=Aro hm hw hk;obtain⟨c2,e2,gD,gT, -⟩:=Aro hn rfl hk;have h:=c1.symm.trans c2;simp only[List.cons.injEq,and_true,true_and] at h;obtain⟨hK,hD,hT⟩:=h;have iK:r.key=q.key:=hK;have iD:r.day=q.day:=congrArg Prod.fst (fD.symm.trans ((congrArg Aj hD).trans gD));have iT:r.ticket=q.ticket:=congrArg Prod.fst (fT.symm.trans ((congrArg numOf hT).trans gT));rw[e1,e2,iK,iD,iT]
theorem A5w{r q:Request}(hm:Af r=true)(hn:Af q=true)(hw:Be r=Be q)(hk:kindOf ((Aa 32 (Be q)).getD 0 [])=4):r=q:=by
 obtain⟨c1,e1,fD,fT,fA, -⟩:=Arp hm hw hk;obtain⟨c2,e2,gD,gT,gA, -⟩:=Arp hn rfl hk;have h:=c1.symm.trans c2;simp only[List.cons.injEq,and_true,true_and] at h;obtain⟨hK,hD,hT,hA⟩:=h;have iK:r.key=q.key:=hK;have iD:r.day=q.day:=congrArg Prod.fst (fD.symm.trans ((congrArg Aj hD).trans gD));have iT:r.ticket=q.ticket:=congrArg Prod.fst (fT.symm.trans ((congrArg numOf hT).trans gT));have iA:r.amount=q.amount:=congrArg Prod.fst (fA.symm.trans ((congrArg Da hA).trans gA));rw[e1,e2,iK,iD,iT,iA]
theorem A5x{r q:Request}(hm:Af r=true)(hn:Af q=true)(hw:Be r=Be q)(hk:kindOf ((Aa 32 (Be q)).getD 0 [])=5):r=q:=by
 obtain⟨c1,e1,fD,fT,fA,fC,fX, -⟩:=hO hm hw hk;obtain⟨c2,e2,gD,gT,gA,gC,gX, -⟩:=hO hn rfl hk;have h:=c1.symm.trans c2;simp only[List.cons.injEq,and_true,true_and] at h;obtain⟨hK,hD,hT,hA,hC,hX⟩:=h;have iK:r.key=q.key:=hK;have iD:r.day=q.day:=congrArg Prod.fst (fD.symm.trans ((congrArg Aj hD).trans gD));have iT:r.ticket=q.ticket:=congrArg Prod.fst (fT.symm.trans ((congrArg numOf hT).trans gT));have iA:r.amount=q.amount:=congrArg Prod.fst (fA.symm.trans ((congrArg Da hA).trans gA));have iC:r.coupons=q.coupons:=Ac0 hC fC gC;have iX:r.taxes=q.taxes:=Al6 hX fX gX;rw[e1,e2,iK,iD,iT,iA,iC,iX]
theorem A5y{r q:Request}(hm:Af r=true)(hn:Af q=true)(hw:Be r=Be q)(hk:kindOf ((Aa 32 (Be q)).getD 0 [])=6):r=q:=by
 obtain⟨c1,e1,fD,fT,fN, -⟩:=Arq hm hw hk;obtain⟨c2,e2,gD,gT,gN, -⟩:=Arq hn rfl hk;have h:=c1.symm.trans c2;simp only[List.cons.injEq,and_true,true_and] at h;obtain⟨hK,hD,hT,hN⟩:=h;have iK:r.key=q.key:=hK;have iD:r.day=q.day:=congrArg Prod.fst (fD.symm.trans ((congrArg Aj hD).trans gD));have iT:r.ticket=q.ticket:=congrArg Prod.fst (fT.symm.trans ((congrArg numOf hT).trans gT));have iN:r.coupon=q.coupon:=congrArg Prod.fst (fN.symm.trans ((congrArg Aj hN).trans gN));rw[e1,e2,iK,iD,iT,iN]
theorem A5z{r q:Request}(hm:Af r=true)(hn:Af q=true)(hw:Be r=Be q)(hk:kindOf ((Aa 32 (Be q)).getD 0 [])=7):r=q:=by
 obtain⟨c1,e1,fD,fT,fN, -⟩:=Arr hm hw hk;obtain⟨c2,e2,gD,gT,gN, -⟩:=Arr hn rfl hk;have h:=c1.symm.trans c2;simp only[List.cons.injEq,and_true,true_and] at h;obtain⟨hK,hD,hT,hN⟩:=h;have iK:r.key=q.key:=hK;have iD:r.day=q.day:=congrArg Prod.fst (fD.symm.trans ((congrArg Aj hD).trans gD));have iT:r.ticket=q.ticket:=congrArg Prod.fst (fT.symm.trans ((congrArg numOf hT).trans gT));have iN:r.coupon=q.coupon:=congrArg Prod.fst (fN.symm.trans ((congrArg Aj hN).trans gN));rw[e1,e2,iK,iD,iT,iN]
theorem A50{r q:Request}(hm:Af r=true)(hn:Af q=true)(hw:Be r=Be q)(hk:kindOf ((Aa 32 (Be q)).getD 0 [])=8):r=q:=by
 obtain⟨c1,e1,fT, -⟩:=Ars hm hw hk;obtain⟨c2,e2,gT, -⟩:=Ars hn rfl hk;have h:=c1.symm.trans c2;simp only[List.cons.injEq,and_true,true_and] at h;have hT:=h;have iT:r.ticket=q.ticket:=congrArg Prod.fst (fT.symm.trans ((congrArg numOf hT).trans gT));rw[e1,e2,iT]
theorem A51{r q:Request}(hm:Af r=true)(hn:Af q=true)(hw:Be r=Be q)(hk:kindOf ((Aa 32 (Be q)).getD 0 [])=9):r=q:=by
 obtain⟨c1,e1, -⟩:=Art hm hw hk;obtain⟨c2,e2, -⟩:=Art hn rfl hk;have h:=c1.symm.trans c2;simp only[List.cons.injEq,and_true,true_and] at h;have hL:=h;have iL:r.locator=q.locator:=hL;rw[e1,e2,iL]
theorem A03{r q:Request}(hm:Af r=true)(hn:Af q=true)(hw:Be r=Be q)(hk:kindOf ((Aa 32 (Be q)).getD 0 [])=10):r=q:=by
 obtain⟨c1,e1,fF,fU, -⟩:=Aho hm hw hk;obtain⟨c2,e2,gF,gU, -⟩:=Aho hn rfl hk;have h:=c1.symm.trans c2;simp only[List.cons.injEq,and_true,true_and] at h;obtain⟨hF,hU⟩:=h;have iF:r.frm=q.frm:=congrArg Prod.fst (fF.symm.trans ((congrArg Aj hF).trans gF));have iU:r.til=q.til:=congrArg Prod.fst (fU.symm.trans ((congrArg Aj hU).trans gU));rw[e1,e2,iF,iU]
theorem Aru{r q:Request}(hm:Af r=true)(hn:Af q=true)(hw:Be r=Be q):r=q:=by
 rcases J8 ((Aa 32 (Be q)).getD 0 []) with hk|hk|hk|hk|hk|hk|hk|hk|hk|hk|hk
 ·have h1:=Dj hn rfl hk;rcases Fg hn with h|h|h|h|h|h|h|h|h|h<;>omega
 ·exact A5t hm hn hw hk
 ·exact A5u hm hn hw hk
 ·exact A5v hm hn hw hk
 ·exact A5w hm hn hw hk
 ·exact A5x hm hn hw hk
 ·exact A5y hm hn hw hk
 ·exact A5z hm hn hw hk
 ·exact A50 hm hn hw hk
 ·exact A51 hm hn hw hk
 ·exact A03 hm hn hw hk
theorem zY{r:Request}(h:Af r=true):Ve (Be r)=(r,0):=
 Cw h rfl fun _ hm hw=>(Aru hm h hw).symm
end Go.Vc.Z
namespace Go.Vc.Z
open Go Go.Vc Go.Proofs Go.RowKit Go.Pl Go.Lib
theorem Ahq{s:List UInt8}{c:UInt8}{i:Nat}(hi:i<s.length):Aa c (s.take (i+1))=Ew c (Aa c (s.take i)) (s.getD i 0):=by
 rw[List.take_add_one,List.getElem?_eq_getElem hi,List.getD_eq_getElem?_getD,List.getElem?_eq_getElem hi];exact uE c _ _
theorem Au2{s:List UInt8}{c:UInt8}{i n:Nat}{f:Nat→List UInt8}(hi:i<s.length)(h:((s.getD i 0).toNat:Int)=(c.toNat:Int))(hn:n=(Aa c (s.take i)).length)(hf:∀ e,e<n→f e=(Aa c (s.take i)).getD e []):
  n+1=(Aa c (s.take (i+1))).length∧∀ e,e<n+1→(if e<n then f e else [])=(Aa c (s.take (i+1))).getD e []:=by
 have hc:s.getD i 0=c:=UInt8.toNat_inj.1 (by omega)
 rw[Ahq hi,hc];unfold Ew;rw[if_pos rfl];refine⟨by rw[List.length_append,←hn];rfl,fun e he=>?_⟩
 by_cases hl:e<n
 ·rw[if_pos hl,hf e hl,List.getD_eq_getElem?_getD,List.getD_eq_getElem?_getD,List.getElem?_append_left (by omega)]
 ·rw[if_neg hl,List.getD_eq_getElem?_getD,List.getElem?_append_right (by omega)]
  obtain rfl:e=n:=by omega
  rw[←hn,Nat.sub_self];rfl
theorem Arv{s:List UInt8}{c:UInt8}{i n:Nat}{f:Nat→List UInt8}(hi:i<s.length)(h: ¬((s.getD i 0).toNat:Int)=(c.toNat:Int))(hn:n=(Aa c (s.take i)).length)(hf:∀ e,e<n→f e=(Aa c (s.take i)).getD e []):
  n=(Aa c (s.take (i+1))).length∧∀ e,e<n→(if e=n - 1 then f e++[s.getD i 0] else f e)=(Aa c (s.take (i+1))).getD e []:=by
 have hc: ¬s.getD i 0=c:=fun e=>h (by rw[e])
 have h1:=Di c (s.take i);rw[Ahq hi];unfold Ew;rw[if_neg hc];refine⟨by rw[List.length_append,List.length_dropLast,←hn,List.length_singleton];omega,fun e he=>?_⟩
 by_cases hl:e=n - 1
 ·rw[if_pos hl,hf e he,List.getD_eq_getElem?_getD (l:=_++_),List.getElem?_append_right (by rw[List.length_dropLast];omega),List.length_dropLast,←hn,hl,Nat.sub_self]
  show _=(Aa c (s.take i)).getLastD []++[s.getD i 0];rw[List.getLastD_eq_getLast?,List.getLast?_eq_getElem?,←hn,List.getD_eq_getElem?_getD]
 ·rw[if_neg hl,hf e he,List.getD_eq_getElem?_getD,List.getD_eq_getElem?_getD,List.getElem?_append_left (by rw[List.length_dropLast];omega),List.getElem?_dropLast,if_pos (by omega)]
theorem Arw{s:List UInt8}{i:Nat}(hi:i<s.length):(s.drop i).take 1=[s.getD i 0]:=by
 rw[List.drop_eq_getElem_cons hi,List.getD_eq_getElem?_getD,List.getElem?_eq_getElem hi];rfl
noncomputable section
set_option maxRecDepth 100000
attribute [local irreducible] inK Utf8.decode Utf8.encode Lib.itoa Pl.worth Pl.allDig
attribute [local irreducible] Lib.join Bp Aa
def A8r(x:List UInt8 × UInt8):LoopSpec:={
 α:=Nat × Nat × (Nat→List UInt8)
 keep:=[0,1,5,6]
 vals y:=match y with|(i,n,_)=>[.str x.1,.int .u8 (x.2.toNat:Int),.osl 1 1 0 n none,.int .i64 i]
 heap y:=match y with|(_,n,f)=>[.dead,.row 1 n (fun e=>[.str (f e)])]
 ok y:=y.1≤x.1.length∧y.2.1=(Aa x.2 (x.1.take y.1)).length∧∀ e,e<y.2.1→y.2.2 e=(Aa x.2 (x.1.take y.1)).getD e []
 μ y:=x.1.length - y.1 }
def Aj1:PC:=PC.of (fun x:List UInt8 × UInt8=>[.str x.1,.int .u8 (x.2.toNat:Int)]) (fun x=>x.1.length≤100000000) (fun x=>slS (sL (Aa x.2 x.1)))
def Gx:PT:=Cg []
theorem J9{W:World}(hW:Tabs W):Cb (Fw W) Tryz.prog Gx:=Aq
def Ez:FuncId→Option Ctr:=Av Gx []
theorem P6{W:World}(hW:Tabs W):Ad (Fw W) Tryz.prog Ez:=(Ar (J9 hW))
def aR:List UInt8 × UInt8→Nat→Option LR:=fun x i=>cond (Nat.beq i 3) (some (.inv (A8r x))) (none)
theorem Ka{W:World}(hW:Tabs W):GoodP (Fw W) Tryz.prog 86 Aj1:=by
 have hD:=J9 hW;have hC0:∀ x:List UInt8 × UInt8,Ad (Fw W) Tryz.prog Ez:=fun x=>(P6 hW);refine As (D:=Gx) (C:=fun x=>Ez) (wr:=(fun _=>false)) rfl Ao hD hC0 Tryz.func86 (aR) (fun _=>rfl) ?_;intro x hf hp;clear hf
 (conv=>whnf)
 refine⟨?_,fun(y:Nat × Nat × (Nat→List UInt8)) hy=>?_⟩
 ·(conv=>whnf)
  refine⟨((0,1,fun _=>[]):Nat × Nat × (Nat→List UInt8)),[0],?_,⟨⟨rfl,(nB rfl),rfl⟩,?_,?_⟩⟩
  ·exact⟨Nat.zero_le _,by show 1=(Aa x.2 []).length;rw[Ae5];rfl,(fun e he=>by
     obtain rfl:e=0:=by(change e<1 at he;omega)
     show []=(Aa x.2 []).getD 0 [];rw[Ae5];rfl)⟩
  ·exact tL
  ·(conv=>whnf)
   (repeat' (first|with_reducible exact⟨⟩|refine tuA ?_|with_reducible refine iB ?_ ?_)<;>conv=>whnf)
   all_goals try simp only[wQ]
   exact fun e he=>by obtain rfl:e=0:=(by omega);exact⟨rfl,rfl⟩
 ·obtain⟨i,n,f⟩:=y;obtain⟨h1,h2,h3⟩:=hy;change i≤x.1.length at h1;change n=(Aa x.2 (x.1.take i)).length at h2;change ∀ e,e<n→f e=(Aa x.2 (x.1.take i)).getD e [] at h3;have h4:=Gw x.2 (x.1.take i);have h5:=Di x.2 (x.1.take i);rw[←h2,List.length_take] at h4;rw[←h2] at h5;have hw:∀ e,e<n→(f e).length≤100000000:=fun e he=>by
   rw[h3 e he];have:=Fo (c:=x.2) (s:=x.1.take i) (m:=100000000) (by rw[List.length_take];omega) e
   rw[Ck] at this;exact this
  (conv=>whnf)
  (repeat' (first|refine tuU ?_|split<;>rename_i hh<;>try simp only[wS] at hh|with_reducible refine lnI fun hln=>?_)<;>conv=>whnf)
  ·(conv=>whnf)
   refine⟨((i+1,n+1,fun e=>if e<n then f e else []):Nat × Nat × (Nat→List UInt8)),[3],?_,⟨⟨rfl,(nB rfl),rfl⟩,?_,?_⟩⟩
   ·refine⟨⟨show i+1≤x.1.length by omega,?_⟩,show x.1.length - (i+1)<x.1.length - i by omega⟩
    exact Au2 (by omega) (by assumption) h2 h3
   ·exact tL
   ·(conv=>whnf)
    (repeat' (first|with_reducible exact⟨⟩|refine tuA ?_|with_reducible refine iB ?_ ?_)<;>conv=>whnf)
    all_goals try simp only[wQ]
    intro e he;refine⟨?_,rfl⟩;unfold Bq;by_cases hl:e<n
    ·rw[if_pos hl,if_pos hl]
    ·rw[if_neg hl,if_neg hl];obtain rfl:e=n:=by omega
     rw[Nat.sub_self];rfl
  ·refine⟨?_,?_⟩
   ·rw[List.length_append,List.length_take];have:=hw (0+((n:Int) - 1).toNat) (by omega)
    exact Nat.le_trans (Nat.add_le_add this (Nat.min_le_left _ _)) (by omega)
   ·(conv=>whnf)
    (repeat' (first|refine tuU ?_)<;>conv=>whnf)
    (conv=>whnf)
    refine⟨((i+1,n,fun e=>if e=n - 1 then f e++[x.1.getD i 0] else f e):Nat × Nat × (Nat→List UInt8)),[1],?_,⟨⟨rfl,(nB rfl),rfl⟩,?_,?_⟩⟩
    ·exact⟨⟨show i+1≤x.1.length by omega,Arv (by omega) (by assumption) h2 h3⟩,show x.1.length - (i+1)<x.1.length - i by omega⟩
    ·exact tL
    ·(conv=>whnf)
     (repeat' (first|with_reducible exact⟨⟩|refine tuA ?_|with_reducible refine iB ?_ ?_)<;>conv=>whnf)
     all_goals try simp only[wQ]
     intro e he;refine⟨?_,rfl⟩;simp only[Dk,decide_true,if_true,decide_eq_true_eq];rw[show 0+((n:Int) - 1).toNat=n - 1 by omega]
     by_cases hl:e=n - 1
     ·rw[if_pos hl,if_pos hl,←Arw (show i<x.1.length by omega),hl]
      have e1:((i:Int)+1).toNat - (i:Int).toNat=1:=(by omega);show [AV.str (f (n - 1)++List.take (((i:Int)+1).toNat - (i:Int).toNat) (List.drop (i:Int).toNat x.1))]=_;rw[e1];rfl
     ·rw[if_neg hl,if_neg hl]
  ·refine⟨⟨by omega,fun e he=>rfl⟩,?_⟩
   obtain rfl:i=x.1.length:=by omega
   rw[List.take_length] at h2 h3;rw[Ck];refine⟨rfl,h2,fun h=>h,fun e he=>?_⟩;show [AV.str (f (0+e))]=[AV.str ((Aa x.2 x.1).getD e [])];rw[Nat.zero_add,h3 e he]
end
end Go.Vc.Z
namespace Go.Vc.Z
open Go Go.Vc Go.Proofs Go.RowKit Go.Pl Go.Lib
def Dw(t:List UInt8):Nat→Int
 |0=>0
 |i+1=>if t.getD i 0≠46∧Dw t i≤1000000000000 then 10*Dw t i+(((t.getD i 0).toNat - 48:Nat):Int) else Dw t i
theorem Li(t:List UInt8)(i:Nat):Dw t (i+1)=if t.getD i 0≠46∧Dw t i≤1000000000000 then 10*Dw t i+(((t.getD i 0).toNat - 48:Nat):Int) else Dw t i:=rfl
theorem Vf(t:List UInt8):∀ i,0≤Dw t i∧Dw t i≤10000000000255
 |0=>⟨Int.le_refl _,by show(0:Int)≤_;decide⟩
 |i+1=>by
  have h:=Vf t i;have:=UInt8.toNat_lt (t.getD i 0);unfold Dw;split<;>omega
def Xa(t:List UInt8)(n:Nat):Bool:=decide (∀ i,i<n→i≠t.length - 3→48≤(t.getD i 0).toNat∧(t.getD i 0).toNat≤57)
@[irreducible] def E0(s:List UInt8):Bool:=decide (4≤(A0 45 s).length)&&((A0 45 s).getD ((A0 45 s).length - 3) 0 == 46)&& !(decide (4<(A0 45 s).length)&&((A0 45 s).getD 0 0 == 48))&& !(s == [45,48,46,48,48])&&Xa (A0 45 s) (A0 45 s).length
@[irreducible] def rOf(s:List UInt8):Int × Int:=if E0 s=true then(if 1000000000000<Dw (A0 45 s) (A0 45 s).length then(0,14) else(if s=A0 45 s then Dw (A0 45 s) (A0 45 s).length else -Dw (A0 45 s) (A0 45 s).length,0)) else(0,4)
theorem Ov{D e:List UInt8}{i:Nat}:(D++e).getD i 0=if i<D.length then D.getD i 0 else e.getD (i - D.length) 0:=by
 rw[List.getD_eq_getElem?_getD];split
 ·rename_i h;rw[List.getElem?_append_left h,List.getD_eq_getElem?_getD]
 ·rename_i h;rw[List.getElem?_append_right (by omega),List.getD_eq_getElem?_getD]
theorem zZ{D e:List UInt8}(hd:allDig D=true)(hw:worth D≤1000000000000):∀ i,i≤D.length→Dw (D++e) i=worth (D.take i)
 |0,_=>by rw[List.take_zero];rfl
 |i+1,h=>by
  have h1:=zZ (e:=e) hd hw i (by omega)
  have h2:=Ml (s:=D) (i:=i) (by omega)
  have h3:=Sg (show i<D.length by omega) hd
  rw[Dl (show i<D.length by omega)]
  unfold Dw;rw[h1,Ov,if_pos (show i<D.length by omega),if_pos ⟨fun e=>by rw[e] at h3;exact absurd h3.1 (by decide),by omega⟩]
  omega
theorem fV{n:Int}(h0:0≤n)(h1:n≤1000000000000):Dw (Bl n) (Bl n).length=n:=by
 have hD:=Dq (n / 10 / 10).toNat;have hw:=Ea (n / 10 / 10).toNat;unfold Bl;generalize decDigits (n / 10 / 10).toNat=D at hD hw
 have ha:=Oh (n / 10);have hb:=Oh n;have va:=lE (n / 10);have vb:=lE n;have e0:=zZ (e:=[46,Dz (n / 10),Dz n]) hD (by omega) D.length (Nat.le_refl _)
 rw[List.take_length,hw] at e0;have e1:Dw (D++[46,Dz (n / 10),Dz n]) (D.length+1)=((n / 10 / 10).toNat:Int):=by
  unfold Dw;rw[Ov,if_neg (Nat.lt_irrefl _),Nat.sub_self,if_neg (fun h=>h.1 rfl),e0]
 have e2:Dw (D++[46,Dz (n / 10),Dz n]) (D.length+1+1)=10*((n / 10 / 10).toNat:Int)+(n / 10) % 10:=by
  have g:(D++[46,Dz (n / 10),Dz n]).getD (D.length+1) 0=Dz (n / 10):=by
   rw[Ov,if_neg (by omega),show D.length+1 - D.length=1 by omega];rfl
  rw[Li _ (D.length+1),g,e1,if_pos ⟨fun e=>by rw[e] at ha;exact absurd ha.1 (by decide),by omega⟩,va];omega
 have e3:Dw (D++[46,Dz (n / 10),Dz n]) (D.length+1+1+1)=n:=by
  have g:(D++[46,Dz (n / 10),Dz n]).getD (D.length+1+1) 0=Dz n:=by
   rw[Ov,if_neg (by omega),show D.length+1+1 - D.length=2 by omega];rfl
  rw[Li _ (D.length+1+1),g,e2,if_pos ⟨fun e=>by rw[e] at hb;exact absurd hb.1 (by decide),by omega⟩,vb];omega
 rw[List.length_append];exact e3
theorem fW{n:Int}(s:List UInt8)(hs:A0 45 s=Bl n)(hz:s≠[45,48,46,48,48]):E0 s=true:=by
 have hI:=K2 (Rj (n / 10 / 10).toNat);unfold E0;rw[hs];unfold Bl Xa;generalize decDigits (n / 10 / 10).toNat=D at hI
 obtain⟨hD,hN,h48⟩:=hI;have ha:=Oh (n / 10);have hb:=Oh n;have hl:(D++[46,Dz (n / 10),Dz n]).length=D.length+3:=by simp
 have hp:0<D.length:=List.length_pos_iff.2 hN;rw[hl,show D.length+3 - 3=D.length by omega,Ov,if_neg (Nat.lt_irrefl _),Nat.sub_self,Ov,if_pos hp]
 have h1:decide (4≤D.length+3)=true:=by simp;omega
 have h2:(!(decide (4<D.length+3)&&(D.getD 0 0 == 48)))=true:=by
  cases D with
  |nil=>simp at hp
  |cons c t=>
   by_cases hc:c=48
   ·rw[h48 t (by rw[hc])];rfl
   ·simp[hc]
 have h3:(!(s == [45,48,46,48,48]))=true:=by simp[hz]
 rw[h1,h2,h3];simp only[Bool.true_and,Bool.and_true];rw[Bool.and_eq_true];refine⟨rfl,decide_eq_true fun i hi hn=>?_⟩;rw[Ov];split
 ·exact Sg (by assumption) hD
 ·rcases(by omega:i - D.length=1∨i - D.length=2) with e|e<;>rw[e]
  ·exact ha
  ·exact hb
theorem Arx{n:Int}(h:C4 n=true):rOf (Cp n)=(n,0):=by
 have hb: -1000000000000≤n∧n≤1000000000000:=by unfold C4 at h;simpa using h
 unfold Cp rOf Gj;rw[if_pos h];split
 ·rename_i hn;have hp:A0 45 (45::Bl (-n))=Bl (-n):=by unfold A0;rw[if_pos (by simp[Lib.hasPrefix,List.isPrefixOf])];rfl
  have hz:45::Bl (-n)≠[45,48,46,48,48]:=fun e=>by
   have h1:=U2 (n:= -n) (by omega)
   rw[List.cons.inj e |>.2] at h1
   have h2:Jd [48,46,48,48]=0:=by
    unfold Jd;rw[show Bp 46 [48,46,48,48]=([48],[48,48],true) from We (a:=[48]) (by decide) [48,48]];rfl
   omega
  rw[if_pos (fW _ hp hz),hp,fV (by omega) (by omega),if_neg (by omega),if_neg (fun e=>by have:=congrArg List.length e;simp at this),Int.neg_neg]
 ·have hp:A0 45 (Bl n)=Bl n:=by unfold A0;rw[if_neg (by rw[Yo];simp)]
  have hz:Bl n≠[45,48,46,48,48]:=fun e=>by
   have:=Yo (n:=n);rw[e] at this;exact absurd this (by decide)
  rw[if_pos (fW _ hp hz),hp,fV (by omega) (by omega),if_neg (by omega),if_pos rfl]
@[irreducible] def Gp(s:List UInt8):Int:=if (rOf s).2=0 then(rOf s).1 else -1
theorem P7{n:Int}(h:C4 n=true):Gp (Cp n)=n:=by unfold Gp;rw[Arx h];rfl
end Go.Vc.Z
namespace Go.Vc.Z
open Go Go.Vc Go.Proofs Go.RowKit Go.Pl Go.Lib
theorem Ac1{s:List UInt8}(h0:s≠[])(h:s.getD 0 0=45):A0 45 s=s.drop 1:=by
 cases s with
 |nil=>exact absurd rfl h0
 |cons c t=>
  have h:c=45:=h;unfold A0;rw[if_pos (by simp[Lib.hasPrefix,List.isPrefixOf,h])]
theorem Rq{s:List UInt8}(h:s≠[]→¬s.getD 0 0=45):A0 45 s=s:=by
 cases s with
 |nil=>unfold A0;simp
 |cons c t=>
  have h: ¬c=45:=h (by simp)
  unfold A0;rw[if_neg (by simp[Lib.hasPrefix,List.isPrefixOf,Ne.symm h])]
theorem Ary{s:List UInt8}(h1:4≤(A0 45 s).length)(h2:(A0 45 s).getD ((A0 45 s).length - 3) 0=46)(h3:4<(A0 45 s).length→(A0 45 s).getD 0 0≠48)(h4:s≠[45,48,46,48,48]):E0 s=Xa (A0 45 s) (A0 45 s).length:=by
 have e3:(!(decide (4<(A0 45 s).length)&&((A0 45 s).getD 0 0 == 48)))=true:=by
  by_cases h:4<(A0 45 s).length
  ·rw[beq_eq_false_iff_ne.2 (h3 h)];simp
  ·simp[h]
 have e4:(!(s == [45,48,46,48,48]))=true:=by simp[h4]
 unfold E0;rw[h2,e3,e4,decide_eq_true h1];rfl
theorem Aoe{s:List UInt8}(h:(A0 45 s).length<4):E0 s=false:=by
 unfold E0;rw[decide_eq_false (by omega: ¬4≤(A0 45 s).length)];rfl
theorem Aof{s:List UInt8}(h:(A0 45 s).getD ((A0 45 s).length - 3) 0≠46):E0 s=false:=by
 unfold E0;rw[show((A0 45 s).getD ((A0 45 s).length - 3) 0 == 46)=false from beq_eq_false_iff_ne.2 h];simp
theorem Aog{s:List UInt8}(h:4<(A0 45 s).length)(h':(A0 45 s).getD 0 0=48):E0 s=false:=by
 unfold E0;rw[decide_eq_true h,h'];simp
theorem Aaa{s:List UInt8}(h:s=[45,48,46,48,48]):E0 s=false:=by
 unfold E0;rw[h];simp
theorem Aoh{s:List UInt8}{i:Nat}(hi:i<(A0 45 s).length)(hn:i≠(A0 45 s).length - 3)(h: ¬(48≤((A0 45 s).getD i 0).toNat∧((A0 45 s).getD i 0).toNat≤57)):E0 s=false:=by
 have e:Xa (A0 45 s) (A0 45 s).length=false:=by unfold Xa;exact decide_eq_false fun hh=>h (hh i hi hn)
 unfold E0;rw[e];simp
theorem Aj2{s t:List UInt8}(hp:A0 45 s=t)(h:(t.length:Int)<4):false=E0 s:=(Aoe (by rw[hp];omega)).symm
theorem Arz{s t:List UInt8}(hp:A0 45 s=t)(h4:4≤(t.length:Int))(h: ¬((t.getD ((t.length:Int) - 3).toNat 0).toNat:Int)=46):false=E0 s:=
 (Aof (by rw[hp];intro e;rw[show((t.length:Int) - 3).toNat=t.length - 3 by omega,e] at h;exact h rfl)).symm
theorem Ar0{s t:List UInt8}(hp:A0 45 s=t)(h:4<(t.length:Int))(h':((t.getD (Int.toNat 0) 0).toNat:Int)=48):false=E0 s:=
 (Aog (by rw[hp];omega) (by rw[hp];exact UInt8.toNat_inj.1 (Int.ofNat.inj h'))).symm
theorem Ac2{s t:List UInt8}(hp:A0 45 s=t)(h4:4≤(t.length:Int)){i:Nat}(hi:(i:Int)<t.length)(hn: ¬(i:Int)=t.length - 3)(h:((t.getD (i:Int).toNat 0).toNat:Int)<48∨57<((t.getD (i:Int).toNat 0).toNat:Int)):false=E0 s:=by
 have e:(i:Int).toNat=i:=rfl;rw[e] at h;exact(Aoh (i:=i) (by rw[hp];omega) (by rw[hp];omega) (by rw[hp];omega)).symm
theorem Ar1{s t:List UInt8}(hp:A0 45 s=t)(h4:4≤(t.length:Int))(h:((t.getD ((t.length:Int) - 3).toNat 0).toNat:Int)=46)(h3:(t.length:Int)≤4∨¬((t.getD (Int.toNat 0) 0).toNat:Int)=48)(h5: ¬s=[45,48,46,48,48]){i:Nat}(hi:(t.length:Int)≤i)(hi':i≤t.length)(hd:Xa t i=true):true=E0 s:=by
 obtain rfl:i=t.length:=by omega
 rw[Ary (by rw[hp];omega) (by rw[hp];rw[show((t.length:Int) - 3).toNat=t.length - 3 by omega] at h;exact UInt8.toNat_inj.1 (Int.ofNat.inj h)) (by rw[hp];intro hl e;rcases h3 with h3|h3;exact absurd h3 (by omega);exact h3 (by rw[show Int.toNat 0=0 from rfl,e];rfl)) h5,hp,hd]
theorem Aab{t:List UInt8}{i:Nat}(h:Xa t i=true)(h':i≠t.length - 3→48≤(t.getD i 0).toNat∧(t.getD i 0).toNat≤57):Xa t (i+1)=true:=by
 unfold Xa at h ⊢;have h:=of_decide_eq_true h;refine decide_eq_true fun j hj hn=>?_;by_cases e:j=i
 ·subst e;exact h' hn
 ·exact h j (by omega) hn
noncomputable section
set_option maxRecDepth 100000
attribute [local irreducible] inK Utf8.decode Utf8.encode Lib.itoa Pl.worth Pl.allDig
attribute [local irreducible] Lib.join Bp Aa Xa
def Ar2:PC:=PC.fun fun|[.str s]=>some (True,.bool (sB (E0 s)))|_=>none
def A52(s:List UInt8):LoopSpec:={
 α:=Nat
 keep:=[3,4,5]
 vals i:=[.str (A0 45 s),.int .i64 (A0 45 s).length,.int .i64 i]
 heap _:=[]
 ok i:=i≤(A0 45 s).length∧Xa (A0 45 s) i=true
 μ i:=(A0 45 s).length - i }
def Yt:List AV→Nat→Option LR:=fun cs i=>match cs with|[.str s]=>cond (Nat.beq i 8) (some (.inv (A52 s))) (none)|_=>none
theorem Yu{W:World}(hW:Tabs W):GoodP (Fw W) Tryz.prog 241 Ar2:=by
 have hD:=J9 hW;have hC0:Ad (Fw W) Tryz.prog Ez:=(P6 hW);refine Au (D:=Gx) (C:=Ez) (wr:=(fun _=>false)) rfl Ao hD hC0 Tryz.func241 (Yt) ?_;clear hC0 hD hW;intro cs p r h hf hp;split at h
 case h_2=>cases h
 rename_i s;cases h;try simp only[Az,Bd,Aw,Go.Vc.lo,Go.Vc.hi,and_true] at hf
 have hall:∀ t:List UInt8,A0 45 s=t→True:=fun _ _=>trivial;by_cases h0:s=[]
 ·have hp:=Rq (s:=s) (fun h=>absurd h0 h);have hz:(s.length:Int)=0:=by rw[h0];rfl
  (conv=>whnf)
  (repeat' (first|(exact absurd h0 (by with_reducible assumption))|refine tuU ?_|split<;>rename_i hh<;>try simp only[wS] at hh|with_reducible refine lnI fun hln=>?_)<;>conv=>whnf)
  all_goals try(show _=_;simp only[wQ])
  all_goals first|exact Aj2 hp (by assumption)|(exfalso;omega)|exact absurd h0 (by assumption)
 ·have hpos:0<s.length:=List.length_pos_iff.2 h0;by_cases h1:s.getD 0 0=45
  ·have hp:A0 45 s=List.take (s.length - Int.toNat 1) (List.drop (Int.toNat 1) s):=(by rw[Ac1 h0 h1,List.take_of_length_le (by rw[List.length_drop];exact Nat.le_refl _)];rfl);have h45:((s.getD (Int.toNat 0) 0).toNat:Int)=45:=by rw[show Int.toNat 0=0 from rfl,h1];rfl
   (conv=>whnf)
   (repeat' (first|(exact absurd (by with_reducible assumption) h0)|(exact absurd h45 (by with_reducible assumption))|refine tuU ?_|split<;>rename_i hh<;>try simp only[wS] at hh|with_reducible refine lnI fun hln=>?_)<;>conv=>whnf)
   all_goals try(show _=_;simp only[wQ])
   all_goals first|exact Aj2 hp (by assumption)|exact Arz hp (by assumption) (by assumption)|exact Ar0 hp (by assumption) (by assumption)|exact(Aaa (by assumption)).symm|(exfalso;exact absurd h45 (by assumption))|(exfalso;omega)|skip
   all_goals (refine⟨?_,fun(i:Nat) hi=>?_⟩)
   all_goals try (
    (conv=>whnf)
    refine⟨(0:Nat),[],?_,⟨⟨rfl,(nB rfl),rfl⟩,?_,?_⟩⟩
    ·exact⟨Nat.zero_le _,by unfold Xa;exact decide_eq_true fun i hi=>absurd hi (Nat.not_lt_zero i)⟩
    ·(conv=>whnf)
     (repeat' (first|with_reducible exact⟨⟩|refine tuA ?_|with_reducible refine iA ?_ ?_)<;>conv=>whnf)
     all_goals (try first|omega)
     all_goals (first|exact hp.symm|(rw[hp];done)|(simp only[hp];done)|skip)
    ·exact tL
    done)
   all_goals (
    obtain⟨hi1,hi2⟩:=hi;change i≤(A0 45 s).length at hi1;change Xa (A0 45 s) i=true at hi2;have h4:4≤((A0 45 s).length:Int):=(by rw[hp];assumption);have hb:((A0 45 s).length:Int)≤9223372036854775807:=(by rw[hp];assumption);have h6:(((A0 45 s).getD (((A0 45 s).length:Int) - 3).toNat 0).toNat:Int)=46:=(by rw[hp];assumption);have h7:((A0 45 s).length:Int)≤4∨¬(((A0 45 s).getD (Int.toNat 0) 0).toNat:Int)=48:=by rw[hp];first|exact .inl (by assumption)|exact .inr (by assumption)
    have h8: ¬s=[45,48,46,48,48]:=(by assumption);clear hp
    (conv=>whnf)
    (repeat' (first|refine tuU ?_|split<;>rename_i hh<;>try simp only[wS] at hh)<;>conv=>whnf)
    all_goals try(show _=_;simp only[wQ])
    all_goals first
     |exact Ar1 rfl h4 h6 h7 h8 (by assumption) hi1 hi2
     |exact Ac2 rfl h4 (by assumption) (by assumption) (.inl (by assumption))
     |exact Ac2 rfl h4 (by assumption) (by assumption) (.inr (by assumption))
     |skip
    all_goals try (
     (conv=>whnf)
     refine⟨(i+1:Nat),[],?_,⟨⟨rfl,(nB rfl),rfl⟩,?_,?_⟩⟩
     ·exact⟨⟨show i+1≤(A0 45 s).length by omega,Aab hi2 (fun hn=>by first|(exfalso;omega)|exact⟨by omega,by omega⟩|exact⟨Int.ofNat_le.1 (by assumption),Int.ofNat_le.1 (by assumption)⟩)⟩,show(A0 45 s).length - (i+1)<(A0 45 s).length - i by omega⟩
     ·exact Ac _
     ·exact tL
     done)
    skip)
  ·have hp:=Rq (s:=s) (fun _=>h1);have h45: ¬((s.getD (Int.toNat 0) 0).toNat:Int)=45:=fun e=>h1 (UInt8.toNat_inj.1 (Int.ofNat.inj e))
   (conv=>whnf)
   (repeat' (first|(exact absurd (by with_reducible assumption) h0)|(exact absurd (by with_reducible assumption) h45)|refine tuU ?_|split<;>rename_i hh<;>try simp only[wS] at hh|with_reducible refine lnI fun hln=>?_)<;>conv=>whnf)
   all_goals try(show _=_;simp only[wQ])
   all_goals first|exact Aj2 hp (by assumption)|exact Arz hp (by assumption) (by assumption)|exact Ar0 hp (by assumption) (by assumption)|exact(Aaa (by assumption)).symm|(exfalso;exact absurd h45 (by assumption))|(exfalso;omega)|skip
   all_goals (refine⟨?_,fun(i:Nat) hi=>?_⟩)
   all_goals try (
    (conv=>whnf)
    refine⟨(0:Nat),[],?_,⟨⟨rfl,(nB rfl),rfl⟩,?_,?_⟩⟩
    ·exact⟨Nat.zero_le _,by unfold Xa;exact decide_eq_true fun i hi=>absurd hi (Nat.not_lt_zero i)⟩
    ·(conv=>whnf)
     (repeat' (first|with_reducible exact⟨⟩|refine tuA ?_|with_reducible refine iA ?_ ?_)<;>conv=>whnf)
     all_goals (try first|omega)
     all_goals (first|exact hp.symm|(rw[hp];done)|(simp only[hp];done)|skip)
    ·exact tL
    done)
   all_goals (
    obtain⟨hi1,hi2⟩:=hi;change i≤(A0 45 s).length at hi1;change Xa (A0 45 s) i=true at hi2;have h4:4≤((A0 45 s).length:Int):=(by rw[hp];assumption);have hb:((A0 45 s).length:Int)≤9223372036854775807:=(by rw[hp];assumption);have h6:(((A0 45 s).getD (((A0 45 s).length:Int) - 3).toNat 0).toNat:Int)=46:=(by rw[hp];assumption);have h7:((A0 45 s).length:Int)≤4∨¬(((A0 45 s).getD (Int.toNat 0) 0).toNat:Int)=48:=by rw[hp];first|exact .inl (by assumption)|exact .inr (by assumption)
    have h8: ¬s=[45,48,46,48,48]:=(by assumption);clear hp
    (conv=>whnf)
    (repeat' (first|refine tuU ?_|split<;>rename_i hh<;>try simp only[wS] at hh)<;>conv=>whnf)
    all_goals try(show _=_;simp only[wQ])
    all_goals first
     |exact Ar1 rfl h4 h6 h7 h8 (by assumption) hi1 hi2
     |exact Ac2 rfl h4 (by assumption) (by assumption) (.inl (by assumption))
     |exact Ac2 rfl h4 (by assumption) (by assumption) (.inr (by assumption))
     |skip
    all_goals try (
     (conv=>whnf)
     refine⟨(i+1:Nat),[],?_,⟨⟨rfl,(nB rfl),rfl⟩,?_,?_⟩⟩
     ·exact⟨⟨show i+1≤(A0 45 s).length by omega,Aab hi2 (fun hn=>by first|(exfalso;omega)|exact⟨by omega,by omega⟩|exact⟨Int.ofNat_le.1 (by assumption),Int.ofNat_le.1 (by assumption)⟩)⟩,show(A0 45 s).length - (i+1)<(A0 45 s).length - i by omega⟩
     ·exact Ac _
     ·exact tL
     done)
    skip)
end
end Go.Vc.Z
namespace Go.Vc.Z
open Go Go.Vc Go.Proofs Go.RowKit Go.Pl Go.Lib
theorem Ar3{s:List UInt8}(h:E0 s=true):4≤(A0 45 s).length∧∀ i,i<(A0 45 s).length→(A0 45 s).getD i 0≠46→48≤((A0 45 s).getD i 0).toNat∧((A0 45 s).getD i 0).toNat≤57:=by
 unfold E0 at h;simp only[Bool.and_eq_true,decide_eq_true_eq,beq_iff_eq] at h;obtain⟨⟨⟨⟨h1,h2⟩,h3⟩,h4⟩,h5⟩:=h;unfold Xa at h5;exact⟨h1,fun i hi hn=>of_decide_eq_true h5 i hi (fun e=>hn (by rw[e];exact h2))⟩
theorem Azl{s:List UInt8}(h:E0 s=true){i:Nat}(h1:i≤(A0 45 s).length)(h2:((A0 45 s).length:Int)≤i)(h3:1000000000000<Dw (A0 45 s) i):rOf s=(0,14):=by
 obtain rfl:i=(A0 45 s).length:=by omega
 unfold rOf;rw[if_pos h,if_pos h3]
theorem Azm{s:List UInt8}(h:E0 s=true){i:Nat}(h1:i≤(A0 45 s).length)(h2:((A0 45 s).length:Int)≤i)(h3:Dw (A0 45 s) i≤1000000000000)(h4:s=A0 45 s):rOf s=(Dw (A0 45 s) i,0):=by
 obtain rfl:i=(A0 45 s).length:=by omega
 unfold rOf;rw[if_pos h,if_neg (by omega),if_pos h4]
theorem Azn{s:List UInt8}(h:E0 s=true){i:Nat}(h1:i≤(A0 45 s).length)(h2:((A0 45 s).length:Int)≤i)(h3:Dw (A0 45 s) i≤1000000000000)(h4: ¬s=A0 45 s):rOf s=(-Dw (A0 45 s) i,0):=by
 obtain rfl:i=(A0 45 s).length:=by omega
 unfold rOf;rw[if_pos h,if_neg (by omega),if_neg h4]
noncomputable section
set_option maxRecDepth 100000
attribute [local irreducible] inK Utf8.decode Utf8.encode Lib.itoa Pl.worth Pl.allDig
attribute [local irreducible] Lib.join Bp Aa Dw
def Azo:PC:=PC.fun fun|[.str s]=>some (True,.tup [.int .i64 (sI (rOf s).1),.int .i64 (sI (rOf s).2)])|_=>none
def A8s(s:List UInt8):LoopSpec:={
 α:=Nat
 keep:=[0,4,5,6]
 vals i:=[.str s,.str (A0 45 s),.int .i64 (Dw (A0 45 s) i),.int .i64 i]
 heap _:=[]
 ok i:=i≤(A0 45 s).length
 μ i:=(A0 45 s).length - i }
def Lj:PT:=Cg [(241,Ar2)]
theorem Rr{W:World}(hW:Tabs W):Cb (Fw W) Tryz.prog Lj:=(Ab Tryz.call241 (Yu hW) Aq)
def Lk:FuncId→Option Ctr:=Av Lj []
theorem dC{W:World}(hW:Tabs W):Ad (Fw W) Tryz.prog Lk:=(Ar (Rr hW))
def dD:List AV→Nat→Option LR:=fun cs i=>match cs with|[.str s]=>cond (Nat.beq i 8) (some (.inv (A8s s))) (none)|_=>none
theorem dE{W:World}(hW:Tabs W):GoodP (Fw W) Tryz.prog 175 Azo:=by
 have hD:=Rr hW;have hC0:Ad (Fw W) Tryz.prog Lk:=(dC hW);refine Au (D:=Lj) (C:=Lk) (wr:=(fun _=>false)) rfl Ao hD hC0 Tryz.func175 (dD) ?_;clear hC0 hD hW;intro cs p r h hf hp;split at h
 case h_2=>cases h
 rename_i s;cases h;try simp only[Az,Bd,Aw,Go.Vc.lo,Go.Vc.hi,and_true] at hf
 by_cases hF0:E0 s=true
 ·have hF: ¬E0 s=false:=by rw[hF0];simp
  obtain⟨hl4,hdig⟩:=Ar3 hF0;have hpos:0<s.length:=Nat.lt_of_lt_of_le (by omega) (Al5 45 s)
  have h0:s≠[]:=List.length_pos_iff.1 hpos;have hz:Dw (A0 45 s) 0=0:=by unfold Dw;rfl
  by_cases h1:s.getD 0 0=45
  ·have hp:A0 45 s=List.take (s.length - Int.toNat 1) (List.drop (Int.toNat 1) s):=(by rw[Ac1 h0 h1,List.take_of_length_le (by rw[List.length_drop];exact Nat.le_refl _)];rfl);have h45:((s.getD (Int.toNat 0) 0).toNat:Int)=45:=by rw[show Int.toNat 0=0 from rfl,h1];rfl
   (conv=>whnf)
   (repeat' (first|(exact absurd h45 (by with_reducible assumption))|(exact absurd (by with_reducible assumption) hF)|refine tuU ?_|split<;>rename_i hh<;>try simp only[wS] at hh)<;>conv=>whnf)
   refine⟨?_,fun(i:Nat) hi=>?_⟩
   ·(conv=>whnf)
    refine⟨(0:Nat),[],?_,⟨⟨rfl,(nB rfl),rfl⟩,?_,?_⟩⟩
    ·exact Nat.zero_le _
    ·(conv=>whnf)
     (repeat' (first|with_reducible exact⟨⟩|refine tuA ?_|with_reducible refine iA ?_ ?_)<;>conv=>whnf)
     all_goals (try first|omega)
     all_goals (first|exact hp.symm|(rw[hz];done)|exact hz.symm|skip)
    ·exact tL
   ·change i≤(A0 45 s).length at hi;have hbd:=Vf (A0 45 s) i;have hc:=hdig i;have hge: ¬((((A0 45 s).getD (i:Int).toNat 0).toNat:Int)=46)→i<(A0 45 s).length→48≤(((A0 45 s).getD (i:Int).toNat 0).toNat:Int)∧(((A0 45 s).getD (i:Int).toNat 0).toNat:Int)≤57:=fun h1 h2=>by
     have:=hc h2 (fun e=>h1 (by rw[show(i:Int).toNat=i from rfl,e];rfl))
     rw[show(i:Int).toNat=i from rfl];omega
    have e0:(i:Int).toNat=i:=rfl;have h46:∀ c:UInt8,((c.toNat:Int)=46)→c=46:=fun c h=>UInt8.toNat_inj.1 (Int.ofNat.inj h)
    (conv=>whnf)
    (repeat' (first|with_reducible exact⟨⟩|refine tuU ?_|split<;>rename_i hh<;>try simp only[wS] at hh|with_reducible refine lnI fun hln=>?_|with_reducible refine iA ?_ ?_)<;>conv=>whnf)
    all_goals try(show _=_;simp only[wQ])
    all_goals first
     |(rw[Azl hF0 hi (by assumption) (by assumption)];done)
     |(rw[Azm hF0 hi (by assumption) (by assumption) (by assumption)];done)
     |(rw[Azn hF0 hi (by assumption) (by assumption) (by assumption)];done)
     |skip
    all_goals try (
     (conv=>whnf)
     refine⟨(i+1:Nat),[],?_,⟨⟨rfl,(nB rfl),rfl⟩,?_,?_⟩⟩
     ·exact⟨show i+1≤(A0 45 s).length by omega,show(A0 45 s).length - (i+1)<(A0 45 s).length - i by omega⟩
     ·(conv=>whnf)
      (repeat' (first|with_reducible exact⟨⟩|refine tuA ?_|with_reducible refine iA ?_ ?_)<;>conv=>whnf)
      all_goals (try first|omega)
      all_goals (rw[Li];first
       |(rw[if_pos ⟨fun e=>by rename_i q1 q2;rw[e0,e] at q1;exact q1 rfl,by assumption⟩];rw[e0] at*;omega)
       |(rw[if_neg (fun e=>by omega)];done)
       |(rw[if_neg (fun e=>e.1 (h46 _ (by assumption)))];done))
     ·exact tL
     done)
    all_goals try (
     have q1: ¬((((A0 45 s).getD (i:Int).toNat 0).toNat:Int)=46):=(by assumption);have q2:Dw (A0 45 s) i≤1000000000000:=(by assumption);have hg:=hge q1 (by omega)
     have hv:Dw (A0 45 s) (i+1)=10*Dw (A0 45 s) i+((((A0 45 s).getD (i:Int).toNat 0).toNat:Int) - 48):=by
      rw[Li,if_pos ⟨fun e=>q1 (by rw[e0,e];rfl),q2⟩];rw[e0] at hg ⊢;omega
     (conv=>whnf)
     refine⟨(i+1:Nat),[],?_,⟨⟨rfl,(nB rfl),rfl⟩,?_,?_⟩⟩
     ·exact⟨show i+1≤(A0 45 s).length by omega,show(A0 45 s).length - (i+1)<(A0 45 s).length - i by omega⟩
     ·(conv=>whnf)
      (repeat' (first|with_reducible exact⟨⟩|refine tuA ?_|with_reducible refine iA ?_ ?_)<;>conv=>whnf)
      all_goals (try first|omega)
      all_goals first|exact hv.symm|(rw[hv];done)|skip
     ·exact tL
     done)
    all_goals skip
  ·have hp:=Rq (s:=s) (fun _=>h1);have h45: ¬((s.getD (Int.toNat 0) 0).toNat:Int)=45:=fun e=>h1 (UInt8.toNat_inj.1 (Int.ofNat.inj e))
   (conv=>whnf)
   (repeat' (first|(exact absurd (by with_reducible assumption) h45)|(exact absurd (by with_reducible assumption) hF)|refine tuU ?_|split<;>rename_i hh<;>try simp only[wS] at hh)<;>conv=>whnf)
   refine⟨?_,fun(i:Nat) hi=>?_⟩
   ·(conv=>whnf)
    refine⟨(0:Nat),[],?_,⟨⟨rfl,(nB rfl),rfl⟩,?_,?_⟩⟩
    ·exact Nat.zero_le _
    ·(conv=>whnf)
     (repeat' (first|with_reducible exact⟨⟩|refine tuA ?_|with_reducible refine iA ?_ ?_)<;>conv=>whnf)
     all_goals (try first|omega)
     all_goals (first|exact hp.symm|(rw[hz];done)|exact hz.symm|skip)
    ·exact tL
   ·change i≤(A0 45 s).length at hi;have hbd:=Vf (A0 45 s) i;have hc:=hdig i;have hge: ¬((((A0 45 s).getD (i:Int).toNat 0).toNat:Int)=46)→i<(A0 45 s).length→48≤(((A0 45 s).getD (i:Int).toNat 0).toNat:Int)∧(((A0 45 s).getD (i:Int).toNat 0).toNat:Int)≤57:=fun h1 h2=>by
     have:=hc h2 (fun e=>h1 (by rw[show(i:Int).toNat=i from rfl,e];rfl))
     rw[show(i:Int).toNat=i from rfl];omega
    have e0:(i:Int).toNat=i:=rfl;have h46:∀ c:UInt8,((c.toNat:Int)=46)→c=46:=fun c h=>UInt8.toNat_inj.1 (Int.ofNat.inj h)
    (conv=>whnf)
    (repeat' (first|with_reducible exact⟨⟩|refine tuU ?_|split<;>rename_i hh<;>try simp only[wS] at hh|with_reducible refine lnI fun hln=>?_|with_reducible refine iA ?_ ?_)<;>conv=>whnf)
    all_goals try(show _=_;simp only[wQ])
    all_goals first
     |(rw[Azl hF0 hi (by assumption) (by assumption)];done)
     |(rw[Azm hF0 hi (by assumption) (by assumption) (by assumption)];done)
     |(rw[Azn hF0 hi (by assumption) (by assumption) (by assumption)];done)
     |skip
    all_goals try (
     (conv=>whnf)
     refine⟨(i+1:Nat),[],?_,⟨⟨rfl,(nB rfl),rfl⟩,?_,?_⟩⟩
     ·exact⟨show i+1≤(A0 45 s).length by omega,show(A0 45 s).length - (i+1)<(A0 45 s).length - i by omega⟩
     ·(conv=>whnf)
      (repeat' (first|with_reducible exact⟨⟩|refine tuA ?_|with_reducible refine iA ?_ ?_)<;>conv=>whnf)
      all_goals (try first|omega)
      all_goals (rw[Li];first
       |(rw[if_pos ⟨fun e=>by rename_i q1 q2;rw[e0,e] at q1;exact q1 rfl,by assumption⟩];rw[e0] at*;omega)
       |(rw[if_neg (fun e=>by omega)];done)
       |(rw[if_neg (fun e=>e.1 (h46 _ (by assumption)))];done))
     ·exact tL
     done)
    all_goals try (
     have q1: ¬((((A0 45 s).getD (i:Int).toNat 0).toNat:Int)=46):=(by assumption);have q2:Dw (A0 45 s) i≤1000000000000:=(by assumption);have hg:=hge q1 (by omega)
     have hv:Dw (A0 45 s) (i+1)=10*Dw (A0 45 s) i+((((A0 45 s).getD (i:Int).toNat 0).toNat:Int) - 48):=by
      rw[Li,if_pos ⟨fun e=>q1 (by rw[e0,e];rfl),q2⟩];rw[e0] at hg ⊢;omega
     (conv=>whnf)
     refine⟨(i+1:Nat),[],?_,⟨⟨rfl,(nB rfl),rfl⟩,?_,?_⟩⟩
     ·exact⟨show i+1≤(A0 45 s).length by omega,show(A0 45 s).length - (i+1)<(A0 45 s).length - i by omega⟩
     ·(conv=>whnf)
      (repeat' (first|with_reducible exact⟨⟩|refine tuA ?_|with_reducible refine iA ?_ ?_)<;>conv=>whnf)
      all_goals (try first|omega)
      all_goals first|exact hv.symm|(rw[hv];done)|skip
     ·exact tL
     done)
    all_goals skip
 ·have hF1:E0 s=false:=Bool.eq_false_iff.2 hF0;have hR:rOf s=(0,4):=by unfold rOf;rw[if_neg hF0]
  (conv=>whnf)
  (repeat' (first|with_reducible exact⟨⟩|refine tuU ?_|split<;>rename_i hh<;>try simp only[wS] at hh|with_reducible refine iA ?_ ?_)<;>conv=>whnf)
  all_goals try(show _=_;simp only[wQ])
  all_goals first|(rw[hR];done)|(exact absurd (by assumption) hF0)|skip
end
end Go.Vc.Z
namespace Go.Vc.Z
open Go Go.Vc Go.Proofs Go.RowKit Go.Pl Go.Lib
@[irreducible] def Gq(w:List UInt8):Coupon:=if (Aa 61 w).length=2∧(Aa 64 ((Aa 61 w).getD 0 [])).length=2 then⟨Ay ((Aa 64 ((Aa 61 w).getD 0 [])).getD 0 []),Ay ((Aa 64 ((Aa 61 w).getD 0 [])).getD 1 []),Gp ((Aa 61 w).getD 1 []),0,0,0⟩ else⟨-1,0,0,0,0,0⟩
@[irreducible] def Ll(w:List UInt8):Tax:=if (Aa 61 w).length=2 then⟨Ay ((Aa 61 w).getD 0 []),Gp ((Aa 61 w).getD 1 [])⟩ else⟨-1,0⟩
theorem Aoi{c:Coupon}(h:Gg c 0=true):Gq (Bi c)=c:=by
 unfold Gg F0 at h;simp only[Bool.and_eq_true,decide_eq_true_eq] at h;obtain⟨⟨⟨⟨⟨⟨h1,h2⟩,h3,h4⟩,h5⟩,h6⟩,h7⟩,h8⟩:=h;have e1:Aa 61 (Bi c)=[Lib.itoa c.flight++[64]++Lib.itoa c.day,Cp c.value]:=by
  unfold Bi;rw[show Lib.itoa c.flight++[64]++Lib.itoa c.day++[61]++Cp c.value=(Lib.itoa c.flight++[64]++Lib.itoa c.day)++61::Cp c.value by simp]
  rw[Jv,Lq (Ng (by decide) (by decide) (by decide) _)]
  simp only[List.mem_append,List.mem_singleton,not_or];exact⟨⟨D5 (by decide) (by decide) _,by decide⟩,D5 (by decide) (by decide) _⟩
 have e3:Aa 64 (Lib.itoa c.flight++[64]++Lib.itoa c.day)=[Lib.itoa c.flight,Lib.itoa c.day]:=by
  rw[show Lib.itoa c.flight++[64]++Lib.itoa c.day=Lib.itoa c.flight++64::Lib.itoa c.day by simp]
  rw[Jv (D5 (by decide) (by decide) _),Lq (D5 (by decide) (by decide) _)]
 unfold Gq;rw[e1,show([Lib.itoa c.flight++[64]++Lib.itoa c.day,Cp c.value]:List (List UInt8)).getD 0 []=Lib.itoa c.flight++[64]++Lib.itoa c.day from rfl,e3,if_pos ⟨rfl,rfl⟩];show(⟨Ay (Lib.itoa c.flight),Ay (Lib.itoa c.day),Gp (Cp c.value),0,0,0⟩:Coupon)=c;rw[Bz (by omega) (by omega),Bz (by omega) (by omega),P7 (Db h5)]
 cases c;simp_all
theorem Aoj{x:Tax}(h1:1≤x.code∧x.code≤99)(h2:C2 x.amount=true):Ll (E7 x)=x:=by
 have e1:Aa 61 (E7 x)=[Lib.itoa x.code,Cp x.amount]:=by
  unfold E7;rw[show Lib.itoa x.code++[61]++Cp x.amount=Lib.itoa x.code++61::Cp x.amount by simp]
  rw[Jv (D5 (by decide) (by decide) _),Lq (Ng (by decide) (by decide) (by decide) _)]
 unfold Ll;rw[e1,if_pos (show([Lib.itoa x.code,Cp x.amount]:List (List UInt8)).length=2 from rfl)];show(⟨Ay (Lib.itoa x.code),Gp (Cp x.amount)⟩:Tax)=x;rw[Bz (by omega) (by omega),P7 (Db h2)]
@[irreducible] def Rs(s:List UInt8):List Coupon:=(Aa 44 s).map Gq
@[irreducible] def P8(s:List UInt8):List Tax:=if s=[45] then [] else(Aa 44 s).map Ll
theorem pC{α:Type}{f:List UInt8→α}{g:α→List UInt8}:∀ {l:List α},(∀ c ∈ l,f (g c)=c)→(l.map g).map f=l
 |[],_=>rfl
 |c::l,h=>by
  rw[List.map_cons,List.map_cons,h c (List.mem_cons_self ..),pC fun d hd=>h d (List.mem_cons_of_mem _ hd)]
theorem pD{m:Int}{l:List Coupon}(h:E5 m l=true):Rs (Bu l)=l:=by
 obtain⟨h1,h2,h3⟩:=D7 h;unfold Rs;rw[eK (by intro e;rw[e] at h1;simp at h1)]
 exact pC fun c hc=>Aoi (h3 c hc)
theorem pE{l:List Tax}(h:C0 l=true):P8 (Bm l)=l:=by
 unfold P8;by_cases h0:l=[]
 ·subst h0;rw[if_pos (by unfold Bm;rfl)]
 ·rw[if_neg (eJ h0),uI h0];exact pC fun c hc=>Aoj (Su h c hc).1 (Su h c hc).2
theorem Aok{s:List UInt8}(h:statOf s≠0):Cr (statOf s)=s:=by
 have hm:=(Yn (s:=s)).resolve_left h;rw[lF hm];unfold statOf at h ⊢;repeat' split
 all_goals first|(rename_i e;exact e.symm)|(rename_i e _;exact e.symm)|skip
 all_goals simp_all
end Go.Vc.Z
