/- strings.Split: what has no room behind it. -/
import Derived.Test.YtpmpclbdnakniaaGreatDoorV14
set_option linter.all false
set_option linter.unusedVariables false
set_option linter.unusedSimpArgs false
namespace Go.Vc
open Go Go.Proofs Go.RowKit Go.Pl
abbrev Arp(l:List (List UInt8)):AV:=.sl true 1 l.length (fun e=>[.str (l.getD e [])])
theorem V.textsC{S:Nat→Prop}{w:World}{l:List ByteArray}{T:TypeId}(hs:∀ b,S b→b<w.heap.size)(hl:l.length≤maxLen)(hx:∀ x ∈ l,x.data.toList.length≤maxLen):
  V (fun _=>none) (fun b=>S b∨b=w.heap.size) (w.alloc (.cells (l.map Value.string).toArray T)) (Arp (l.map (·.data.toList))) (.slice (some ⟨w.heap.size,0,none⟩) l.length l.length):=by
 have e:(l.map (·.data.toList)).length=l.length:=by simp
 unfold V Arp
 rw[e]
 refine .sl true 1 l.length _ w.heap.size 0 l.length (fun e _=>.string (l.getD e ByteArray.empty)) (fun _=>⟨.inr rfl,?_⟩) (Nat.le_refl _) hl (fun _=>rfl) (fun e he=>rfl) (fun e j he hj=>?_) (fun e j c he hc=>?_)
 ·show w.heap.size<(w.heap.push _).size
  simp
 ·have hj0:j=0:=by omega
  subst hj0
  simp only[World.cell?,C3]
  simp[he,List.getD_eq_getElem?_getD]
 ·have hj0:j=0:=by
   cases j with
   |zero=>rfl
   |succ j=>simp at hc
  subst hj0
  simp only[List.getElem?_cons_zero,Option.some.injEq] at hc
  subst hc
  refine .str _ _ ?_ ?_
  ·simp[he,List.getD_eq_getElem?_getD]
  ·simp only[List.getD_eq_getElem?_getD,List.getElem?_map,List.getElem?_eq_getElem he,Option.map_some,Option.getD_some]
   exact hx _ (List.getElem_mem he)
namespace Z
noncomputable section
def lO:PC:=PC.of (fun x:List UInt8 × UInt8 × List (List UInt8)=>[.str x.1,.str [x.2.1]]) (fun x=>x.1.length≤100000000∧sL (Aa x.2.1 x.1)=x.2.2) (fun x=>Arp x.2.2)
theorem lP{W:World}(hW:Tabs W):GoodP (Fw W) Tryz.prog 78 lO:=by
 refine bI (fun _=>rfl) ?_
 rintro⟨s,c,W0⟩ S w vs hpre0 hf hs hv
 simp only at hpre0 hv ⊢
 obtain⟨hpre,hW0⟩:=hpre0
 obtain⟨x,y,rfl,hx,hy⟩:=zJ hv
 obtain⟨sx,rfl,h1,h2⟩:=V.strR' hx
 obtain⟨sy,rfl,h3,h4⟩:=V.strR' hy
 obtain⟨m,hm⟩:=Xr hW hs
 have e1:=M8 sx h1
 have e2:sy.size=1:=M8 sy h3
 have hd:(Lib.splitB sy 0 (Lib.countB sx sy) sx).map (·.data.toList)=Aa c s:=by
  rw[Lib.splitB_data,←qC]
  unfold Lib.split Lib.countB
  rw[h1,h3]
 have hlen:(Lib.splitB sy 0 (Lib.countB sx sy) sx).length=Lib.countB sx sy+1:=by
  have a1:(Lib.splitB sy 0 (Lib.countB sx sy) sx).length=(Aa c s).length:=by rw[←hd];simp
  have a2:Lib.countB sx sy=s.count c:=by
   have:∀ t:List UInt8,Lib.count t [c]=t.count c:=fun t=>by
    refine Z3 (c:=c) (P:=fun t=>Lib.count t [c]=t.count c) (fun t h=>?_) (fun a b ha ih=>?_) t.length t (Nat.le_refl _)
    ·rw[Lib.count_miss (Q1 h),List.count_eq_zero_of_not_mem h]
    ·rw[Lib.count_hit (by simp) (Mb ha b)]
     have hd:(a++c::b).drop (a.length+[c].length)=b:=by simp
     rw[hd,ih,List.count_append,List.count_cons_self,List.count_eq_zero_of_not_mem ha];omega
   unfold Lib.countB
   rw[h1,h3,this]
  rw[a1,S5,a2]
 refine(Any.strings_Split Tryz.lays146 (by kernel_rfl) sx sy m w (by omega) hm (by omega)).mono ?_
 rintro e w' ⟨rfl,rfl⟩
 have hc:=Ma c s
 have hcl:(Aa c s).length=Lib.countB sx sy+1:=by rw[←hd,List.length_map,hlen]
 have hV:=V.textsC (S:=S) (w:=w) (l:=Lib.splitB sy 0 (Lib.countB sx sy) sx) (T:=9) hs.lt (by rw[hlen,Cm];omega) (fun x hx=>by
  have:x.data.toList ∈ Aa c s:=by rw[←hd];exact List.mem_map_of_mem hx
  have:=(P6 s _ this).1
  rw[Cm];omega)
 rw[hd,hlen] at hV
 refine⟨_,fun b=>S b∨b=w.heap.size,rfl,?_,bJ _ _,fun b h=>.inl h,fun b h=>?_,fun b h=>?_⟩
 ·rw[←hW0,Dd];exact hV
 ·rcases h with h|h
  ·exact .inl h
  ·exact .inr (Nat.le_of_eq h.symm)
 ·have hsz:(w.alloc (.cells ((Lib.splitB sy 0 (Lib.countB sx sy) sx).map Value.string).toArray 9)).heap.size=w.heap.size+1:=by
   show(w.heap.push _).size=_
   simp
  show b<(w.alloc (.cells ((Lib.splitB sy 0 (Lib.countB sx sy) sx).map Value.string).toArray 9)).heap.size
  rw[hsz]
  rcases h with h|h
  ·have:=hs.lt b h;omega
  ·omega
end
end Z
end Go.Vc
