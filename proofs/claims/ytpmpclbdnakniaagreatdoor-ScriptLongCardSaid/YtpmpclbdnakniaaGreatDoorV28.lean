/- Lists that are read back, word by word: the plain law. -/
import Derived.Test.YtpmpclbdnakniaaGreatDoorV27
set_option linter.all false
set_option linter.unusedVariables false
set_option linter.unusedSimpArgs false
namespace Go.Vc.Z
open Go Go.Vc Go.Proofs Go.RowKit Go.Pl Go.Lib
theorem J1{α:Type}{f:List UInt8→α × Bool}{g:α→List UInt8}{W:List (List UInt8)}{L l:List α}(h:L=(W.take L.length).map (fun w=>(f w).1))(hle:L.length≤W.length)(hn: ¬L.length<W.length)(hW:W=l.map g)(hf:∀ c ∈ l,f (g c)=(c,true)):L=l:=by
 have e:L.length=W.length:=by omega
 rw[e,List.take_length,hW,List.map_map] at h
 rw[h]
 clear h hle hn hW e
 induction l with
 |nil=>rfl
 |cons c l ih=>
  rw[List.map_cons,ih (fun d hd=>hf d (List.mem_cons_of_mem _ hd))]
  show(f (g c)).1::l=c::l
  rw[hf c (List.mem_cons_self ..)]
theorem Gv{α:Type}{f:List UInt8→α × Bool}{g:α→List UInt8}{W:List (List UInt8)}{l:List α}{i:Nat}(hi:i<W.length)(hW:W=l.map g)(hf:∀ c ∈ l,f (g c)=(c,true)):(f (W.getD i [])).2=true:=by
 subst hW
 rw[List.getD_eq_getElem?_getD,List.getElem?_eq_getElem hi,Option.getD_some,List.getElem_map,hf _ (List.getElem_mem _)]
theorem Fi{α:Type}{f:List UInt8→α × Bool}{W:List (List UInt8)}{L:List α}(h:L=(W.take L.length).map (fun w=>(f w).1))(hi:L.length<W.length):L++[(f (W.getD L.length [])).1]=(W.take (L++[(f (W.getD L.length [])).1]).length).map (fun w=>(f w).1):=by
 rw[List.length_append,List.length_singleton,List.take_add_one,List.map_append,←h,List.getElem?_eq_getElem hi,List.getD_eq_getElem?_getD,List.getElem?_eq_getElem hi]
 rfl
theorem I6{W:List (List UInt8)}{p:List UInt8→Bool}{n:Nat}(h:∀ w ∈ W.take n,p w=true)(hi:n<W.length)(hp:p (W.getD n [])=true):∀ w ∈ W.take (n+1),p w=true:=by
 intro w hw
 rw[List.take_add_one,List.getElem?_eq_getElem hi,List.mem_append] at hw
 rcases hw with hw|hw
 ·exact h w hw
 ·rw[List.getD_eq_getElem?_getD,List.getElem?_eq_getElem hi] at hp
  simp at hw;rw[hw];exact hp
theorem K2{α:Type}[Inhabited α]{enc:α→List AV}{l:List α}{n:Nat}{d:α}{g b:Nat→List AV}(hn:n=l.length)(hg:∀ e,e<l.length→g e=enc (l.getD e default))(hb:b 0=enc d){e:Nat}(he:e<n+1):Bu n g b e=enc ((l++[d]).getD e default):=by
 subst hn
 unfold Bu
 by_cases h:e<l.length
 ·rw[if_pos h,hg e h,List.getD_eq_getElem?_getD,List.getD_eq_getElem?_getD,List.getElem?_append_left h]
 ·rw[if_neg h]
  obtain rfl:e=l.length:=by omega
  rw[Nat.sub_self,hb,List.getD_eq_getElem?_getD,List.getElem?_append_right (Nat.le_refl _),Nat.sub_self];rfl
theorem Ur{c:UInt8}{s:List UInt8}{m:Nat}(h:s.length≤m)(i:Nat):((sL (Aa c s)).getD i []).length≤m:=by
 rw[Ds,List.getD_eq_getElem?_getD]
 cases e:(Aa c s)[i]? with
 |none=>simp
 |some w=>have:=(Ms s w (List.mem_of_getElem? e)).1;simp;omega
theorem wD{α:Type}{f:List UInt8→α × Bool}{g:α→List UInt8}:∀ {l k:List α},l.map g=k.map g→(∀ c ∈ l,f (g c)=(c,true))→(∀ c ∈ k,f (g c)=(c,true))→l=k
 |[],[],_,_,_=>rfl
 |[],_::_,h,_,_=>by cases h
 |_::_,[],h,_,_=>by cases h
 |a::l,b::k,h,h1,h2=>by
  rw[List.map_cons,List.map_cons] at h
  injection h with e1 e2
  have e3:=(h1 a (List.mem_cons_self ..)).symm.trans ((congrArg f e1).trans (h2 b (List.mem_cons_self ..)))
  rw[show a=b from congrArg Prod.fst e3,wD e2 (fun c hc=>h1 c (List.mem_cons_of_mem _ hc)) (fun c hc=>h2 c (List.mem_cons_of_mem _ hc))]
theorem pW{α:Type}{f:List UInt8→α × Bool}{g:α→List UInt8}{l k:List α}{a b:List UInt8}(h:a=b)(h1:Aa 44 a=l.map g∧∀ c ∈ l,f (g c)=(c,true))(h2:Aa 44 b=k.map g∧∀ c ∈ k,f (g c)=(c,true)):l=k:=
 wD (h1.1.symm.trans ((congrArg (Aa 44) h).trans h2.1)) h1.2 h2.2
theorem Abc{l k:List Tax}(h:B9 l=B9 k)(h1:(l=[]∧B9 l=[45])∨(B9 l≠[45]∧Aa 44 (B9 l)=l.map Gh∧∀ c ∈ l,Df (Gh c)=(c,true)))(h2:(k=[]∧B9 k=[45])∨(B9 k≠[45]∧Aa 44 (B9 k)=k.map Gh∧∀ c ∈ k,Df (Gh c)=(c,true))):l=k:=by
 rcases h1 with ⟨a,b⟩|⟨a,b⟩<;>rcases h2 with ⟨c,d⟩|⟨c,d⟩
 ·rw[a,c]
 ·exact absurd (h.symm.trans b) c
 ·exact absurd (h.trans d) a
 ·exact pW h b d
theorem As8{r q:Request}(hm:Ah r=true)(hn:Ah q=true)(hw:Bq r=Bq q)(hk:kindOf ((Aa 32 (Bq q)).getD 0 [])=1):r=q:=by
 obtain⟨c1,e1,fD,fC,fX, -⟩:=aV hm hw hk
 obtain⟨c2,e2,gD,gC,gX, -⟩:=aV hn rfl hk
 have h:=c1.symm.trans c2
 simp only[List.cons.injEq,and_true,true_and] at h
 obtain⟨hK,hD,hL,hC,hX⟩:=h
 have iK:r.key=q.key:=hK
 have iD:r.day=q.day:=congrArg Prod.fst (fD.symm.trans ((congrArg An hD).trans gD))
 have iL:r.locator=q.locator:=hL
 have iC:r.coupons=q.coupons:=pW hC fC gC
 have iX:r.taxes=q.taxes:=Abc hX fX gX
 rw[e1,e2,iK,iD,iL,iC,iX]
theorem As9{r q:Request}(hm:Ah r=true)(hn:Ah q=true)(hw:Bq r=Bq q)(hk:kindOf ((Aa 32 (Bq q)).getD 0 [])=2):r=q:=by
 obtain⟨c1,e1,fD,fT,fN,fS, -⟩:=Ai5 hm hw hk
 obtain⟨c2,e2,gD,gT,gN,gS, -⟩:=Ai5 hn rfl hk
 have h:=c1.symm.trans c2
 simp only[List.cons.injEq,and_true,true_and] at h
 obtain⟨hK,hD,hT,hN,hS⟩:=h
 have iK:r.key=q.key:=hK
 have iD:r.day=q.day:=congrArg Prod.fst (fD.symm.trans ((congrArg An hD).trans gD))
 have iT:r.ticket=q.ticket:=congrArg Prod.fst (fT.symm.trans ((congrArg numOf hT).trans gT))
 have iN:r.coupon=q.coupon:=congrArg Prod.fst (fN.symm.trans ((congrArg An hN).trans gN))
 have iS:r.status=q.status:=fS.1.symm.trans ((congrArg statOf hS).trans gS.1)
 rw[e1,e2,iK,iD,iT,iN,iS]
theorem Ata{r q:Request}(hm:Ah r=true)(hn:Ah q=true)(hw:Bq r=Bq q)(hk:kindOf ((Aa 32 (Bq q)).getD 0 [])=3):r=q:=by
 obtain⟨c1,e1,fD,fT, -⟩:=Ai6 hm hw hk
 obtain⟨c2,e2,gD,gT, -⟩:=Ai6 hn rfl hk
 have h:=c1.symm.trans c2
 simp only[List.cons.injEq,and_true,true_and] at h
 obtain⟨hK,hD,hT⟩:=h
 have iK:r.key=q.key:=hK
 have iD:r.day=q.day:=congrArg Prod.fst (fD.symm.trans ((congrArg An hD).trans gD))
 have iT:r.ticket=q.ticket:=congrArg Prod.fst (fT.symm.trans ((congrArg numOf hT).trans gT))
 rw[e1,e2,iK,iD,iT]
theorem Atb{r q:Request}(hm:Ah r=true)(hn:Ah q=true)(hw:Bq r=Bq q)(hk:kindOf ((Aa 32 (Bq q)).getD 0 [])=4):r=q:=by
 obtain⟨c1,e1,fD,fT,fA, -⟩:=Ai7 hm hw hk
 obtain⟨c2,e2,gD,gT,gA, -⟩:=Ai7 hn rfl hk
 have h:=c1.symm.trans c2
 simp only[List.cons.injEq,and_true,true_and] at h
 obtain⟨hK,hD,hT,hA⟩:=h
 have iK:r.key=q.key:=hK
 have iD:r.day=q.day:=congrArg Prod.fst (fD.symm.trans ((congrArg An hD).trans gD))
 have iT:r.ticket=q.ticket:=congrArg Prod.fst (fT.symm.trans ((congrArg numOf hT).trans gT))
 have iA:r.amount=q.amount:=congrArg Prod.fst (fA.symm.trans ((congrArg Di hA).trans gA))
 rw[e1,e2,iK,iD,iT,iA]
theorem Atc{r q:Request}(hm:Ah r=true)(hn:Ah q=true)(hw:Bq r=Bq q)(hk:kindOf ((Aa 32 (Bq q)).getD 0 [])=5):r=q:=by
 obtain⟨c1,e1,fD,fT,fA,fC,fX, -⟩:=aW hm hw hk
 obtain⟨c2,e2,gD,gT,gA,gC,gX, -⟩:=aW hn rfl hk
 have h:=c1.symm.trans c2
 simp only[List.cons.injEq,and_true,true_and] at h
 obtain⟨hK,hD,hT,hA,hC,hX⟩:=h
 have iK:r.key=q.key:=hK
 have iD:r.day=q.day:=congrArg Prod.fst (fD.symm.trans ((congrArg An hD).trans gD))
 have iT:r.ticket=q.ticket:=congrArg Prod.fst (fT.symm.trans ((congrArg numOf hT).trans gT))
 have iA:r.amount=q.amount:=congrArg Prod.fst (fA.symm.trans ((congrArg Di hA).trans gA))
 have iC:r.coupons=q.coupons:=pW hC fC gC
 have iX:r.taxes=q.taxes:=Abc hX fX gX
 rw[e1,e2,iK,iD,iT,iA,iC,iX]
theorem Atd{r q:Request}(hm:Ah r=true)(hn:Ah q=true)(hw:Bq r=Bq q)(hk:kindOf ((Aa 32 (Bq q)).getD 0 [])=6):r=q:=by
 obtain⟨c1,e1,fD,fT,fN, -⟩:=Ai8 hm hw hk
 obtain⟨c2,e2,gD,gT,gN, -⟩:=Ai8 hn rfl hk
 have h:=c1.symm.trans c2
 simp only[List.cons.injEq,and_true,true_and] at h
 obtain⟨hK,hD,hT,hN⟩:=h
 have iK:r.key=q.key:=hK
 have iD:r.day=q.day:=congrArg Prod.fst (fD.symm.trans ((congrArg An hD).trans gD))
 have iT:r.ticket=q.ticket:=congrArg Prod.fst (fT.symm.trans ((congrArg numOf hT).trans gT))
 have iN:r.coupon=q.coupon:=congrArg Prod.fst (fN.symm.trans ((congrArg An hN).trans gN))
 rw[e1,e2,iK,iD,iT,iN]
theorem Ate{r q:Request}(hm:Ah r=true)(hn:Ah q=true)(hw:Bq r=Bq q)(hk:kindOf ((Aa 32 (Bq q)).getD 0 [])=7):r=q:=by
 obtain⟨c1,e1,fD,fT,fN, -⟩:=Ai9 hm hw hk
 obtain⟨c2,e2,gD,gT,gN, -⟩:=Ai9 hn rfl hk
 have h:=c1.symm.trans c2
 simp only[List.cons.injEq,and_true,true_and] at h
 obtain⟨hK,hD,hT,hN⟩:=h
 have iK:r.key=q.key:=hK
 have iD:r.day=q.day:=congrArg Prod.fst (fD.symm.trans ((congrArg An hD).trans gD))
 have iT:r.ticket=q.ticket:=congrArg Prod.fst (fT.symm.trans ((congrArg numOf hT).trans gT))
 have iN:r.coupon=q.coupon:=congrArg Prod.fst (fN.symm.trans ((congrArg An hN).trans gN))
 rw[e1,e2,iK,iD,iT,iN]
theorem Atf{r q:Request}(hm:Ah r=true)(hn:Ah q=true)(hw:Bq r=Bq q)(hk:kindOf ((Aa 32 (Bq q)).getD 0 [])=8):r=q:=by
 obtain⟨c1,e1,fT, -⟩:=Aja hm hw hk
 obtain⟨c2,e2,gT, -⟩:=Aja hn rfl hk
 have h:=c1.symm.trans c2
 simp only[List.cons.injEq,and_true,true_and] at h
 have hT:=h
 have iT:r.ticket=q.ticket:=congrArg Prod.fst (fT.symm.trans ((congrArg numOf hT).trans gT))
 rw[e1,e2,iT]
theorem Atg{r q:Request}(hm:Ah r=true)(hn:Ah q=true)(hw:Bq r=Bq q)(hk:kindOf ((Aa 32 (Bq q)).getD 0 [])=9):r=q:=by
 obtain⟨c1,e1, -⟩:=Ajb hm hw hk
 obtain⟨c2,e2, -⟩:=Ajb hn rfl hk
 have h:=c1.symm.trans c2
 simp only[List.cons.injEq,and_true,true_and] at h
 have hL:=h
 have iL:r.locator=q.locator:=hL
 rw[e1,e2,iL]
theorem Aoq{r q:Request}(hm:Ah r=true)(hn:Ah q=true)(hw:Bq r=Bq q)(hk:kindOf ((Aa 32 (Bq q)).getD 0 [])=10):r=q:=by
 obtain⟨c1,e1,fF,fU, -⟩:=Abb hm hw hk
 obtain⟨c2,e2,gF,gU, -⟩:=Abb hn rfl hk
 have h:=c1.symm.trans c2
 simp only[List.cons.injEq,and_true,true_and] at h
 obtain⟨hF,hU⟩:=h
 have iF:r.frm=q.frm:=congrArg Prod.fst (fF.symm.trans ((congrArg An hF).trans gF))
 have iU:r.til=q.til:=congrArg Prod.fst (fU.symm.trans ((congrArg An hU).trans gU))
 rw[e1,e2,iF,iU]
theorem Age{r q:Request}(hm:Ah r=true)(hn:Ah q=true)(hw:Bq r=Bq q):r=q:=by
 rcases Sx ((Aa 32 (Bq q)).getD 0 []) with hk|hk|hk|hk|hk|hk|hk|hk|hk|hk|hk
 ·have h1:=Gu hn rfl hk
  rcases Fh hn with h|h|h|h|h|h|h|h|h|h<;>omega
 ·exact As8 hm hn hw hk
 ·exact As9 hm hn hw hk
 ·exact Ata hm hn hw hk
 ·exact Atb hm hn hw hk
 ·exact Atc hm hn hw hk
 ·exact Atd hm hn hw hk
 ·exact Ate hm hn hw hk
 ·exact Atf hm hn hw hk
 ·exact Atg hm hn hw hk
 ·exact Aoq hm hn hw hk
theorem mP{r:Request}(h:Ah r=true):Qc (Bq r)=(r,0):=
 E5 h rfl fun _ hm hw=>(Age hm h hw).symm
end Go.Vc.Z
namespace Go.Vc.Z
open Go Go.Vc Go.Proofs Go.RowKit Go.Pl Go.Lib
noncomputable section
set_option maxRecDepth 100000
attribute [local irreducible] inK Utf8.decode Utf8.encode Lib.itoa Pl.worth Pl.allDig
attribute [local irreducible] Lib.join Br Aa
end
end Go.Vc.Z
namespace Go.Vc.Z
open Go Go.Vc Go.Proofs Go.RowKit Go.Pl Go.Lib
def Abd(t:List UInt8):Nat→Int
 |0=>0
 |i+1=>if t.getD i 0≠46∧Abd t i≤1000000000000 then 10*Abd t i+(((t.getD i 0).toNat - 48:Nat):Int) else Abd t i
def Avx(t:List UInt8)(n:Nat):Bool:=decide (∀ i,i<n→i≠t.length - 3→48≤(t.getD i 0).toNat∧(t.getD i 0).toNat≤57)
end Go.Vc.Z
namespace Go.Vc.Z
open Go Go.Vc Go.Proofs Go.RowKit Go.Pl Go.Lib
theorem Agf{s:List UInt8}(h:s≠[]→¬s.getD 0 0=45):Da 45 s=s:=by
 cases s with
 |nil=>unfold Da;simp
 |cons c t=>
  have h: ¬c=45:=h (by simp)
  unfold Da;rw[if_neg (by simp[Lib.hasPrefix,List.isPrefixOf,Ne.symm h])]
noncomputable section
set_option maxRecDepth 100000
attribute [local irreducible] inK Utf8.decode Utf8.encode Lib.itoa Pl.worth Pl.allDig
attribute [local irreducible] Lib.join Br Aa Avx
end
end Go.Vc.Z
namespace Go.Vc.Z
open Go Go.Vc Go.Proofs Go.RowKit Go.Pl Go.Lib
noncomputable section
set_option maxRecDepth 100000
attribute [local irreducible] inK Utf8.decode Utf8.encode Lib.itoa Pl.worth Pl.allDig
attribute [local irreducible] Lib.join Br Aa Abd
end
end Go.Vc.Z
namespace Go.Vc.Z
open Go Go.Vc Go.Proofs Go.RowKit Go.Pl Go.Lib
end Go.Vc.Z
namespace Go.Vc.Z
open Go Go.Vc Go.Proofs Go.RowKit Go.Pl Go.Lib
noncomputable section
set_option maxRecDepth 100000
attribute [local irreducible] inK Utf8.decode Utf8.encode Lib.itoa Pl.worth Pl.allDig
attribute [local irreducible] Lib.join Br Aa
end
end Go.Vc.Z
namespace Go.Vc.Z
open Go Go.Vc Go.Proofs Go.RowKit Go.Pl Go.Lib
noncomputable section
set_option maxRecDepth 100000
attribute [local irreducible] inK Utf8.decode Utf8.encode Lib.itoa Pl.worth Pl.allDig
attribute [local irreducible] Lib.join Br Aa
end
end Go.Vc.Z
namespace Go.Vc.Z
open Go Go.Vc Go.Proofs Go.RowKit Go.Pl Go.Lib
end Go.Vc.Z
