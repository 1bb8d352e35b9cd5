/- script.picks: the picks of words. -/
import Derived.Test.YtpmpclbdnakniaaGreatDoorV27
import Derived.Test.YtpmpclbdnakniaaGreatDoorV30
set_option linter.all false
set_option maxHeartbeats 8000000
namespace Go.Vc.Z
open Go Go.Vc Go.Proofs Go.RowKit Go.Pl Go.Lib
abbrev pG(n:Int):List AV:=[.int .i64 n]
theorem pH{l:List Int}{n:Nat}{d:Int}{g b:Nat→List AV}(hn:n=l.length)(hg:∀ e,e<l.length→g e=pG (l.getD e default))(hb:b 0=pG d){e:Nat}(he:e<n+1):Bq n g b e=pG ((l++[d]).getD e default):=Ey (enc:=pG) hn hg hb he
noncomputable section
set_option maxRecDepth 100000
attribute [local irreducible] inK Utf8.decode Utf8.encode Lib.itoa Pl.worth Pl.allDig
attribute [local irreducible] Lib.join Bp Aa
def Azs(l:List Int):Blk:=match l with
 |[]=>.dead
 |c::l=>.row 1 (l.length+1) (fun e=>pG ((c::l).getD e default))
def Azt:List Int→AV
 |[]=>.nilsl
 |_::l=>.osl 0 1 0 (l.length+1) none
def LPk(w:List (List UInt8)):LoopSpec:={
 α:=List Int
 keep:=[3,8,9,10]
 vals L:=[Azt L,slS w,.int .i64 w.length,.int .i64 L.length]
 heap L:=[Azs L]
 ok L:=L.length≤w.length∧L=(w.take L.length).map Dg
 μ L:=w.length - L.length }
def Al8:PC:=PC.of (fun w:List (List UInt8)=>[slS w]) (fun w=>w.length≤1000001∧∀ i,(w.getD i []).length≤100000000) (fun w=>slE 1 pG (w.map Dg))
def Ow:PT:=Cg [(179,Ajw)]
theorem Vj{W:World}(hW:Gd W):Cb (Fw W) Tryz.prog Ow:=(Ab Tryz.call179 (Ari hW) Aq)
def Ox:FuncId→Option Ctr:=Av Ow []
theorem pI{W:World}(hW:Gd W):Ad (Fw W) Tryz.prog Ox:=(Ar (Vj hW))
def pJ:List (List UInt8)→Nat→Option LR:=fun w i=>cond (Nat.beq i 3) (some (.inv (LPk w))) (none)
theorem pK{W:World}(hW:Gd W):GoodP (Fw W) Tryz.prog 96 Al8:=by
 have hD:=Vj hW;have hC0:∀ w:List (List UInt8),Ad (Fw W) Tryz.prog Ox:=fun w=>(pI hW);refine As (D:=Ow) (C:=fun w=>Ox) (wr:=(fun _=>false)) rfl Ao hD hC0 Tryz.func96 (pJ) (fun _=>rfl) ?_;intro w hf hp;clear hf;obtain⟨hl,hm⟩:=hp
 (conv=>whnf)
 (repeat' (first|with_reducible refine lnI fun hln=>?_)<;>conv=>whnf)
 refine⟨?_,fun(L:List Int) hL=>?_⟩
 ·(conv=>whnf)
  refine⟨([]:List Int),[],?_,⟨⟨rfl,(nB rfl),rfl⟩,?_,?_⟩⟩
  ·exact⟨Nat.zero_le _,rfl⟩
  ·exact Ac _
  ·exact tL
 ·obtain⟨q1,q2⟩:=hL;change L.length≤w.length at q1;change L=(w.take L.length).map Dg at q2;rcases L with _|⟨c,L⟩
  ·(conv=>whnf)
   (repeat' (first|((with_reducible refine aI ?_ ?_);focus (exact hm _))|refine⟨tU,?_⟩|split<;>rename_i hh<;>try simp only[wS] at hh)<;>conv=>whnf)
   ·have hi2:([]:List Int).length<w.length:=Int.ofNat_lt.1 (by assumption)
    have g1:=Cj (f:=fun w=>(Dg w,true)) q2 hi2
    (conv=>whnf)
    refine⟨((([]:List Int)++[Dg (w.getD ([]:List Int).length [])]):List Int),[2],?_,⟨⟨rfl,(nB rfl),rfl⟩,?_,?_⟩⟩
    ·refine⟨⟨?_,g1⟩,?_⟩
     ·show(([]:List Int)++[Dg (w.getD ([]:List Int).length [])]).length≤w.length;rw[List.length_append];exact hi2
     ·show w.length - (([]:List Int)++[Dg (w.getD ([]:List Int).length [])]).length<w.length - ([]:List Int).length;rw[List.length_append,List.length_singleton];omega
    ·(conv=>whnf)
     (repeat' (first|with_reducible exact⟨⟩|((with_reducible refine Or.inr ?_);rfl)|refine⟨tA,?_⟩|with_reducible refine iA ?_ ?_)<;>conv=>whnf)
     all_goals try simp only[wQ]
     all_goals (try first|rfl|exact⟨fun h=>h,fun _ _=>True.intro⟩)
     all_goals try exact⟨rfl,rfl⟩
     all_goals (try simp)
    ·(conv=>whnf)
     (repeat' (first|with_reducible exact⟨⟩|refine⟨tA,?_⟩|with_reducible refine iB ?_ ?_)<;>conv=>whnf)
     all_goals try simp only[wQ]
     all_goals try rfl
     intro e he;have he:e<1:=he;obtain rfl:e=0:=by omega
     exact⟨rfl,rfl⟩
   ·have hx:w.length≤0:=Int.ofNat_le.1 (by assumption)
    have e1:w=[]:=List.length_eq_zero_iff.1 (by omega)
    rw[e1];rfl
  ·have q0:L.length+1≤1000001:=Nat.le_trans q1 hl
   (conv=>whnf)
   (repeat' (first|((with_reducible refine aI ?_ ?_);focus (exact hm _))|refine⟨tU,?_⟩|split<;>rename_i hh<;>try simp only[wS] at hh)<;>conv=>whnf)
   ·have hi2:(c::L:List Int).length<w.length:=Int.ofNat_lt.1 (by assumption)
    have g1:=Cj (f:=fun w=>(Dg w,true)) q2 hi2
    (conv=>whnf)
    refine⟨(((c::L:List Int)++[Dg (w.getD (c::L:List Int).length [])]):List Int),[2],?_,⟨⟨rfl,(nB rfl),rfl⟩,?_,?_⟩⟩
    ·refine⟨⟨?_,g1⟩,?_⟩
     ·show((c::L:List Int)++[Dg (w.getD (c::L:List Int).length [])]).length≤w.length;rw[List.length_append];exact hi2
     ·show w.length - ((c::L:List Int)++[Dg (w.getD (c::L:List Int).length [])]).length<w.length - (c::L:List Int).length;rw[List.length_append,List.length_singleton];omega
    ·(conv=>whnf)
     (repeat' (first|with_reducible exact⟨⟩|refine⟨tA,?_⟩|with_reducible refine iA ?_ ?_)<;>conv=>whnf)
     all_goals try simp only[wQ]
     all_goals (try first|exact⟨fun h=>h,fun _ _=>True.intro⟩)
     all_goals (try first|exact⟨by simp,Or.inl trivial⟩)
     all_goals try exact⟨rfl,rfl⟩
     all_goals (try simp)
    ·(conv=>whnf)
     (repeat' (first|with_reducible exact⟨⟩|refine⟨tA,?_⟩|with_reducible refine iB ?_ ?_)<;>conv=>whnf)
     all_goals try simp only[wQ]
     all_goals try rfl
     exact⟨by simp,fun e he=>⟨pH (l:=c::L) rfl (fun _ _=>rfl) rfl (by simpa using he),rfl⟩⟩
   ·have hx2: ¬(c::L).length<w.length:=Nat.not_lt.2 (Int.ofNat_le.1 (by assumption))
    have e:(c::L).length=w.length:=(by omega);rw[e,List.take_length] at q2;rw[←q2];refine⟨⟨by omega,fun e he=>rfl⟩,?_⟩
    exact⟨rfl,rfl,fun h=>h,fun e he=>by simp only[Nat.zero_add]⟩
end
end Go.Vc.Z
namespace Go.Vc
open Go Go.Proofs Go.RowKit Go.Pl
abbrev Au5(l:List (List UInt8)):AV:=.sl true 1 l.length (fun e=>[.str (l.getD e [])])
theorem V.textsC{S:Nat→Prop}{w:World}{l:List ByteArray}{T:TypeId}(hs:∀ b,S b→b<w.heap.size)(hl:l.length≤maxLen)(hx:∀ x ∈ l,x.data.toList.length≤maxLen):
  V (fun _=>none) (fun b=>S b∨b=w.heap.size) (w.alloc (.cells (l.map Value.string).toArray T)) (Au5 (l.map (·.data.toList))) (.slice (some ⟨w.heap.size,0,none⟩) l.length l.length):=by
 have e:(l.map (·.data.toList)).length=l.length:=by simp
 unfold V Au5;rw[e];refine .sl true 1 l.length _ w.heap.size 0 l.length (fun e _=>.string (l.getD e ByteArray.empty)) (fun _=>⟨.inr rfl,?_⟩) (Nat.le_refl _) hl (fun _=>rfl) (fun e he=>rfl) (fun e j he hj=>?_) (fun e j c he hc=>?_)
 ·show w.heap.size<(w.heap.push _).size;simp
 ·have hj0:j=0:=by omega
  subst hj0;simp only[World.cell?,Cu];simp[he,List.getD_eq_getElem?_getD]
 ·have hj0:j=0:=by
   cases j with
   |zero=>rfl
   |succ j=>simp at hc
  subst hj0;simp only[List.getElem?_cons_zero,Option.some.injEq] at hc;subst hc;refine .str _ _ ?_ ?_
  ·simp[he,List.getD_eq_getElem?_getD]
  ·simp only[List.getD_eq_getElem?_getD,List.getElem?_map,List.getElem?_eq_getElem he,Option.map_some,Option.getD_some];exact hx _ (List.getElem_mem he)
namespace Z
noncomputable section
def pL:PC:=PC.of (fun x:List UInt8 × UInt8 × List (List UInt8)=>[.str x.1,.str [x.2.1]]) (fun x=>x.1.length≤100000000∧sL (Aa x.2.1 x.1)=x.2.2) (fun x=>Au5 x.2.2)
theorem pM{W:World}(hW:Tabs W):GoodP (Fw W) Tryz.prog 78 pL:=by
 refine fP (fun _=>rfl) ?_;rintro⟨s,c,W0⟩ S w vs hpre0 hf hs hv;simp only at hpre0 hv ⊢;obtain⟨hpre,hW0⟩:=hpre0;obtain⟨x,y,rfl,hx,hy⟩:=Acv hv;obtain⟨sx,rfl,h1,h2⟩:=V.strR' hx;obtain⟨sy,rfl,h3,h4⟩:=V.strR' hy;obtain⟨m,hm⟩:=aK hW hs;have e1:=Ou sx h1;have e2:sy.size=1:=Ou sy h3;have hd:(Lib.splitB sy 0 (Lib.countB sx sy) sx).map (·.data.toList)=Aa c s:=by
  rw[Lib.splitB_data,←uF];unfold Lib.split Lib.countB;rw[h1,h3]
 have hlen:(Lib.splitB sy 0 (Lib.countB sx sy) sx).length=Lib.countB sx sy+1:=by
  have a1:(Lib.splitB sy 0 (Lib.countB sx sy) sx).length=(Aa c s).length:=by rw[←hd];simp
  have a2:Lib.countB sx sy=s.count c:=by
   have:∀ t:List UInt8,Lib.count t [c]=t.count c:=fun t=>by
    refine Ym (c:=c) (P:=fun t=>Lib.count t [c]=t.count c) (fun t h=>?_) (fun a b ha ih=>?_) t.length t (Nat.le_refl _)
    ·rw[Lib.count_miss (Ss h),List.count_eq_zero_of_not_mem h]
    ·rw[Lib.count_hit (by simp) (Nh ha b)]
     have hd:(a++c::b).drop (a.length+[c].length)=b:=(by simp);rw[hd,ih,List.count_append,List.count_cons_self,List.count_eq_zero_of_not_mem ha];omega
   unfold Lib.countB;rw[h1,h3,this]
  rw[a1,U1,a2]
 refine(Any.strings_Split Tryz.lays146 (by kernel_rfl) sx sy m w (by omega) hm (by omega)).mono ?_
 rintro e w' ⟨rfl,rfl⟩;have hc:=Gw c s;have hcl:(Aa c s).length=Lib.countB sx sy+1:=by rw[←hd,List.length_map,hlen]
 have hV:=V.textsC (S:=S) (w:=w) (l:=Lib.splitB sy 0 (Lib.countB sx sy) sx) (T:=9) hs.lt (by rw[hlen,Ch];omega) (fun x hx=>by
  have:x.data.toList ∈ Aa c s:=by rw[←hd];exact List.mem_map_of_mem hx
  have:=(Ri s _ this).1;rw[Ch];omega)
 rw[hd,hlen] at hV;refine⟨_,fun b=>S b∨b=w.heap.size,rfl,?_,fQ _ _,fun b h=>.inl h,fun b h=>?_,fun b h=>?_⟩
 ·rw[←hW0,Ck];exact hV
 ·rcases h with h|h
  ·exact .inl h
  ·exact .inr (Nat.le_of_eq h.symm)
 ·have hsz:(w.alloc (.cells ((Lib.splitB sy 0 (Lib.countB sx sy) sx).map Value.string).toArray 9)).heap.size=w.heap.size+1:=by
   show(w.heap.push _).size=_;simp
  show b<(w.alloc (.cells ((Lib.splitB sy 0 (Lib.countB sx sy) sx).map Value.string).toArray 9)).heap.size;rw[hsz];rcases h with h|h
  ·have:=hs.lt b h;omega
  ·omega
end
end Z
end Go.Vc
