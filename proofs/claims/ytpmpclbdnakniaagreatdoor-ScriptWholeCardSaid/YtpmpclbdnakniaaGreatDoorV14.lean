/- Texts cut at a byte, and joined: the plain law. -/
import Derived.Test.YtpmpclbdnakniaaGreatDoorV13
import Derived.Test.YtpmpclbdnakniaaGreatDoorV11
import Derived.Test.YtpmpclbdnakniaaGreatDoorV9
import Derived.Lib.Split
import Derived.Lib.Join
import Derived.Lib.CountLaws
set_option linter.all false
set_option linter.unusedVariables false
set_option linter.unusedSimpArgs false
namespace Go.Pl
open Go Go.Lib
def Gi(c:UInt8)(o:List (List UInt8))(x:UInt8):List (List UInt8):=if x=c then o++[[]] else o.dropLast++[o.getLastD []++[x]]
def Aa(c:UInt8)(s:List UInt8):List (List UInt8):=s.foldl (Gi c) [[]]
theorem gI(c:UInt8)(o:List (List UInt8))(x:UInt8):Gi c o x≠[]:=by
 unfold Gi;split<;>simp
theorem Ab0(c:UInt8)(p o:List (List UInt8))(ho:o≠[])(x:UInt8):Gi c (p++o) x=p++Gi c o x:=by
 unfold Gi
 split
 ·simp
 ·rw[List.dropLast_append_of_ne_nil ho,List.append_assoc]
  congr 2
  rw[List.getLastD_eq_getLast?,List.getLastD_eq_getLast?,List.getLast?_append]
  cases h:o.getLast? with
  |none=>exact absurd (List.getLast?_eq_none_iff.1 h) ho
  |some y=>rfl
theorem Ahx(c:UInt8):∀ (s:List UInt8) (p o:List (List UInt8)),o≠[]→s.foldl (Gi c) (p++o)=p++s.foldl (Gi c) o
 |[],_,_,_=>rfl
 |x::s,p,o,ho=>by
  rw[List.foldl_cons,List.foldl_cons,Ab0 c p o ho,Ahx c s _ _ (gI c o x)]
theorem Agd(c:UInt8):∀ (s:List UInt8) (w:List UInt8),c ∉ s→s.foldl (Gi c) [w]=[w++s]
 |[],w,_=>by simp
 |x::s,w,h=>by
  rw[List.foldl_cons]
  have hx: ¬x=c:=fun e=>h (by rw[e];simp)
  have:Gi c [w] x=[w++[x]]:=by unfold Gi;rw[if_neg hx];rfl
  rw[this,Agd c s _ (fun hm=>h (List.mem_cons_of_mem _ hm))]
  simp
theorem Ud{c:UInt8}{s:List UInt8}(h:c ∉ s):Aa c s=[s]:=by
 unfold Aa;rw[Agd c s [] h];simp
theorem Qz{c:UInt8}{a:List UInt8}(h:c ∉ a)(b:List UInt8):Aa c (a++c::b)=a::Aa c b:=by
 unfold Aa
 rw[List.foldl_append,Agd c a [] h,List.nil_append,List.foldl_cons]
 have:Gi c [a] c=[a]++[[]]:=by unfold Gi;rw[if_pos rfl]
 rw[this,Ahx c b [a] [[]] (by simp)];rfl
theorem Ake(c:UInt8)(s:List UInt8)(x:UInt8):Aa c (s++[x])=Gi c (Aa c s) x:=by
 unfold Aa;rw[List.foldl_append];rfl
theorem Aqo(c:UInt8)(s:List UInt8):Aa c s≠[]:=by
 rcases List.eq_nil_or_concat s with rfl|⟨t,x,rfl⟩
 ·simp[Aa]
 ·rw[List.concat_eq_append,Ake];exact gI _ _ _
theorem Hr(c:UInt8)(s:List UInt8):1≤(Aa c s).length:=List.length_pos_iff.2 (Aqo c s)
theorem Z3{c:UInt8}{P:List UInt8→Prop}(h0:∀ s,c ∉ s→P s)(h1:∀ a b,c ∉ a→P b→P (a++c::b)):∀ (n:Nat) (s:List UInt8),s.length≤n→P s
 |0,s,h=>h0 s (by obtain rfl:=List.length_eq_zero_iff.1 (Nat.le_zero.1 h);simp)
 |n+1,s,h=>by
  by_cases hc:c ∈ s
  ·obtain⟨a,b,rfl,ha⟩:=List.eq_append_cons_of_mem hc
   exact h1 a b ha (Z3 h0 h1 n b (by simp at h;omega))
  ·exact h0 s hc
theorem S5(c:UInt8)(s:List UInt8):(Aa c s).length=s.count c+1:=by
 refine Z3 (c:=c) (P:=fun s=>(Aa c s).length=s.count c+1) (fun s h=>?_) (fun a b ha ih=>?_) s.length s (Nat.le_refl _)
 ·rw[Ud h,List.count_eq_zero_of_not_mem h];rfl
 ·rw[Qz ha,List.length_cons,ih,List.count_append,List.count_cons_self,List.count_eq_zero_of_not_mem ha];omega
theorem Ma(c:UInt8)(s:List UInt8):(Aa c s).length≤s.length+1:=by
 rw[S5];have:=List.count_le_length (a:=c) (l:=s);omega
theorem P6{c:UInt8}(s:List UInt8):∀ w ∈ Aa c s,w.length≤s.length∧c ∉ w:=by
 refine Z3 (c:=c) (P:=fun s=>∀ w ∈ Aa c s,w.length≤s.length∧c ∉ w) (fun s h=>?_) (fun a b ha ih=>?_) s.length s (Nat.le_refl _)
 ·rw[Ud h];intro w hw;rw[List.mem_singleton] at hw;subst hw;exact⟨Nat.le_refl _,h⟩
 ·rw[Qz ha];intro w hw
  rcases List.mem_cons.1 hw with rfl|hw
  ·exact⟨by simp,ha⟩
  ·have:=ih w hw;exact⟨by simp;omega,this.2⟩
theorem F4{c:UInt8}:∀ {L:List (List UInt8)},L≠[]→(∀ w ∈ L,c ∉ w)→Aa c (Lib.join L [c])=L
 |[],h,_=>absurd rfl h
 |[x],_,h=>by rw[Lib.join_one,Ud (h x (by simp))]
 |x::y::r,_,h=>by
  have:Lib.join (x::y::r) [c]=x++c::Lib.join (y::r) [c]:=by simp[Lib.join_cons,Lib.joinTail]
  rw[this,Qz (h x (by simp)),F4 (by simp) (fun w hw=>h w (List.mem_cons_of_mem _ hw))]
theorem Z4{s:List UInt8}{c:UInt8}{j:Nat}:occAt s [c] j=(s[j]? == some c):=by
 unfold occAt
 induction s generalizing j with
 |nil=>simp
 |cons x s ih=>
  cases j with
  |zero=>simp[List.isPrefixOf,Bool.beq_comm (a:=x)]
  |succ j=>simpa using ih (j:=j)
theorem Q1{c:UInt8}{s:List UInt8}(h:c ∉ s):index s [c]= -1:=by
 refine index_none fun j _=>?_
 rw[Z4,beq_eq_false_iff_ne]
 exact fun e=>h (List.mem_of_getElem? e)
theorem Mb{c:UInt8}{a:List UInt8}(h:c ∉ a)(b:List UInt8):index (a++c::b) [c]=a.length:=by
 refine index_first (by simp) ?_ fun j hj=>?_
 ·rw[Z4];simp
 ·rw[Z4,beq_eq_false_iff_ne,List.getElem?_append_left hj]
  exact fun e=>h (List.mem_of_getElem? e)
theorem qC(c:UInt8)(s:List UInt8):Lib.split s [c]=Aa c s:=by
 refine Z3 (c:=c) (P:=fun s=>Lib.split s [c]=Aa c s) (fun s h=>?_) (fun a b ha ih=>?_) s.length s (Nat.le_refl _)
 ·unfold Lib.split;rw[count_miss (Q1 h),Ud h];rfl
 ·have hi:=Mb ha b
  have hd:(a++c::b).drop (a.length+1)=b:=by simp
  unfold Lib.split at ih ⊢
  rw[count_hit (by simp) hi,Nat.add_comm,Qz ha,←ih]
  rw[splitK,hi,if_neg (by simp)]
  simp only[Int.toNat_natCast,Nat.add_zero,List.length_singleton,hd,List.take_left']
def Bw(c:UInt8)(s:List UInt8):List UInt8 × List UInt8 × Bool:=Lib.cut s [c]
theorem Xq{c:UInt8}{a:List UInt8}(h:c ∉ a)(b:List UInt8):Bw c (a++c::b)=(a,b,true):=by
 unfold Bw Lib.cut;rw[Mb h,if_pos (by omega)];simp
theorem Ue(c:UInt8)(s:List UInt8):(Bw c s).1.length≤s.length∧(Bw c s).2.1.length≤s.length:=by
 unfold Bw Lib.cut;split<;>simp;exact Nat.min_le_right _ _
end Go.Pl
namespace Go.Vc
open Go Go.Proofs Go.RowKit Go.Sort Go.Pl
theorem bI{F:Nat→Obj→Prop}{P:Program}{f:FuncId}{α:Type}{args:α→List AV}{pre:α→Prop}{res:α→AV}(hu:∀ x,E3 0 (args x)=true)
  (h:∀ x S w vs,pre x→Ax (args x)→Sok F S w→VL (fun _=>none) S w (args x) vs→Calls P f vs w fun e w'=>∃ v S',e= .returned v∧V (fun _=>none) S' w' (res x) v∧Below w.heap.size w w'∧(∀ b,S b→S' b)∧(∀ b,S' b→S b∨w.heap.size≤b)∧∀ b,S' b→b<w'.heap.size):GoodP F P f (PC.of args pre res):=by
 intro S w cs vs Q hs hv hpre
 obtain⟨x,h1,h2,h3⟩:=hpre
 have hl:=J3 h2
 have hv':VL (fun _=>none) S w (args x) vs:=by
  refine⟨by rw[←hl];exact hv.1,fun i c v hc hv'=>?_⟩
  have hi:i<cs.length:=by
   rcases Nat.lt_or_ge i (args x).length with h'|h'
   ·omega
   ·rw[List.getElem?_eq_none h'] at hc;cases hc
  exact(hv.2 i cs[i] v (List.getElem?_eq_getElem hi) hv').le (σ:=fun i=>i) (n:=0) (fun i b hi=>by omega) (Qn h2 i _ _ (List.getElem?_eq_getElem hi) hc) (Ds (hu x) i c hc)
 refine(h x S w vs h1 hv'.fact hs hv').mono ?_
 rintro e w' ⟨v,S',rfl,hV,hb,g1,g2,g3⟩
 have hE:Ext (fun _=>none) S w (fun _=>none) S' w':=⟨fun _ _ h=>(by cases h),g1,fun b hb' _=>hb.block b hb',hb.size,fun b arr T fr hb'=>⟨arr,fr,(hb.block b (lt_of_some hb')).trans hb',rfl⟩,fun _ _ h=>(by cases h),fun b h=>(g2 b h).elim .inl (fun h=>.inr (.inr h)),hb.os,hb.tape,hb.output⟩
 exact⟨v,res x,S',rfl,h3,hV,hE,hs.ext hE g3⟩
theorem bJ(w:World)(o:Obj):Below w.heap.size w (w.alloc o):=by
 refine⟨rfl,rfl,rfl,?_,fun b hb=>?_⟩
 ·show w.heap.size≤(w.heap.push o).size
  simp
 ·show(w.heap.push o)[b]? =_
  rw[Array.getElem?_push,if_neg (by omega)]
theorem zJ{S:Nat→Prop}{w:World}{a b:AV}{vs:Array Value}(h:VL (fun _=>none) S w [a,b] vs):∃ x y,vs=#[x,y]∧V (fun _=>none) S w a x∧V (fun _=>none) S w b y:=by
 obtain⟨vs⟩:=vs
 match vs,h with
 |[x,y],h=>exact⟨x,y,rfl,h.2 0 _ _ rfl rfl,h.2 1 _ _ rfl rfl⟩
 |[],h=>simp[VL] at h
 |[_],h=>simp[VL] at h
 |_::_::_::_,h=>have:=h.1;simp at this
theorem V.texts{S:Nat→Prop}{w:World}{l:List ByteArray}{T:TypeId}(hs:∀ b,S b→b<w.heap.size)(hl:l.length≤maxLen)(hx:∀ x ∈ l,x.data.toList.length≤maxLen):
  V (fun _=>none) (fun b=>S b∨b=w.heap.size) (w.alloc (.cells (l.map Value.string).toArray T)) (slS (l.map (·.data.toList))) (.slice (some ⟨w.heap.size,0,none⟩) l.length l.length):=by
 have e:(l.map (·.data.toList)).length=l.length:=by simp
 unfold V slS
 rw[e]
 refine .sl false 1 l.length _ w.heap.size 0 l.length (fun e _=>.string (l.getD e ByteArray.empty)) (fun _=>⟨.inr rfl,?_⟩) (Nat.le_refl _) hl (fun h=>by cases h) (fun e he=>rfl) (fun e j he hj=>?_) (fun e j c he hc=>?_)
 ·show w.heap.size<(w.heap.push _).size
  simp
 ·have hj0:j=0:=by omega
  subst hj0
  simp only[World.cell?,C3]
  simp[he,List.getD_eq_getElem?_getD]
 ·have hj0:j=0:=by
   cases j with
   |zero=>rfl
   |succ j=>simp at hc
  subst hj0
  simp only[List.getElem?_cons_zero,Option.some.injEq] at hc
  subst hc
  refine .str _ _ ?_ ?_
  ·simp[he,List.getD_eq_getElem?_getD]
  ·simp only[List.getD_eq_getElem?_getD,List.getElem?_map,List.getElem?_eq_getElem he,Option.map_some,Option.getD_some]
   exact hx _ (List.getElem_mem he)
theorem Xr{W:World}(hW:Tabs W){S:Nat→Prop}{w:World}(hs:Sok (Fw W) S w):∃ m,w.cell? ⟨1,0,none⟩=some (.int .i64 m):=by
 obtain⟨m,hm⟩:∃ m,W.cell? ⟨1,0,none⟩=some (.int .i64 m):=cell_of_shapedOpen_int (zero:=#[.int .i64 0]) (t:=3) hW.2 (of_decide_eq_true (by kernel_rfl)) (by kernel_rfl) rfl (by kernel_rfl) (by kernel_rfl) Tryz.underlying3
 exact⟨m,Fw.cell hs hm⟩
theorem M8(s:ByteArray){l:List UInt8}(h:s.data.toList=l):s.size=l.length:=by rw[←h,Array.length_toList];rfl
namespace Z
noncomputable section
def Anb:PC:=PC.of (fun x:List UInt8 × UInt8=>[.str x.1,.str [x.2]]) (fun x=>x.1.length≤100000000) (fun x=>slS (sL (Aa x.2 x.1)))
theorem Age{W:World}(hW:Tabs W):GoodP (Fw W) Tryz.prog 78 Anb:=by
 refine bI (fun _=>rfl) ?_
 rintro⟨s,c⟩ S w vs hpre hf hs hv
 simp only at hpre hv ⊢
 obtain⟨x,y,rfl,hx,hy⟩:=zJ hv
 obtain⟨sx,rfl,h1,h2⟩:=V.strR' hx
 obtain⟨sy,rfl,h3,h4⟩:=V.strR' hy
 obtain⟨m,hm⟩:=Xr hW hs
 have e1:=M8 sx h1
 have e2:sy.size=1:=M8 sy h3
 have hd:(Lib.splitB sy 0 (Lib.countB sx sy) sx).map (·.data.toList)=Aa c s:=by
  rw[Lib.splitB_data,←qC]
  unfold Lib.split Lib.countB
  rw[h1,h3]
 have hlen:(Lib.splitB sy 0 (Lib.countB sx sy) sx).length=Lib.countB sx sy+1:=by
  have a1:(Lib.splitB sy 0 (Lib.countB sx sy) sx).length=(Aa c s).length:=by rw[←hd];simp
  have a2:Lib.countB sx sy=s.count c:=by
   have:∀ t:List UInt8,Lib.count t [c]=t.count c:=fun t=>by
    refine Z3 (c:=c) (P:=fun t=>Lib.count t [c]=t.count c) (fun t h=>?_) (fun a b ha ih=>?_) t.length t (Nat.le_refl _)
    ·rw[Lib.count_miss (Q1 h),List.count_eq_zero_of_not_mem h]
    ·rw[Lib.count_hit (by simp) (Mb ha b)]
     have hd:(a++c::b).drop (a.length+[c].length)=b:=by simp
     rw[hd,ih,List.count_append,List.count_cons_self,List.count_eq_zero_of_not_mem ha];omega
   unfold Lib.countB
   rw[h1,h3,this]
  rw[a1,S5,a2]
 refine(Any.strings_Split Tryz.lays146 (by kernel_rfl) sx sy m w (by omega) hm (by omega)).mono ?_
 rintro e w' ⟨rfl,rfl⟩
 have hc:=Ma c s
 have hcl:(Aa c s).length=Lib.countB sx sy+1:=by rw[←hd,List.length_map,hlen]
 have hV:=V.texts (S:=S) (w:=w) (l:=Lib.splitB sy 0 (Lib.countB sx sy) sx) (T:=9) hs.lt (by rw[hlen,Cm];omega) (fun x hx=>by
  have:x.data.toList ∈ Aa c s:=by rw[←hd];exact List.mem_map_of_mem hx
  have:=(P6 s _ this).1
  rw[Cm];omega)
 rw[hd,hlen] at hV
 refine⟨_,fun b=>S b∨b=w.heap.size,rfl,?_,bJ _ _,fun b h=>.inl h,fun b h=>?_,fun b h=>?_⟩
 ·rw[Dd];exact hV
 ·rcases h with h|h
  ·exact .inl h
  ·exact .inr (Nat.le_of_eq h.symm)
 ·have hsz:(w.alloc (.cells ((Lib.splitB sy 0 (Lib.countB sx sy) sx).map Value.string).toArray 9)).heap.size=w.heap.size+1:=by
   show(w.heap.push _).size=_
   simp
  show b<(w.alloc (.cells ((Lib.splitB sy 0 (Lib.countB sx sy) sx).map Value.string).toArray 9)).heap.size
  rw[hsz]
  rcases h with h|h
  ·have:=hs.lt b h;omega
  ·omega
def Aqp:PC:=PC.of (fun x:List UInt8 × UInt8=>[.str x.1,.str [x.2]]) (fun x=>x.1.length≤100000000) (fun x=>.tup [.str (sS (Bw x.2 x.1).1),.str (sS (Bw x.2 x.1).2.1),.bool (sB (Bw x.2 x.1).2.2)])
theorem below_drewN(w:World)(n:Nat):Below w.heap.size w (w.drewN n):=⟨rfl,rfl,rfl,Nat.le_refl _,fun _ _=>rfl⟩
theorem Akf{W:World}(hW:Tabs W):GoodP (Fw W) Tryz.prog 94 Aqp:=by
 refine K4 (fun _=>rfl) (fun _=>rfl) ?_
 rintro⟨s,c⟩ S w vs hpre hf hs hv
 simp only at hpre hv ⊢
 obtain⟨x,y,rfl,hx,hy⟩:=zJ hv
 obtain⟨sx,rfl,h1,h2⟩:=V.strR' hx
 obtain⟨sy,rfl,h3,h4⟩:=V.strR' hy
 obtain⟨m,hm⟩:=Xr hW hs
 have e1:=M8 sx h1
 refine(Any.strings_Cut Tryz.lays145 sx sy m w (by omega) hm).mono ?_
 rintro e w' ⟨rfl,n,rfl⟩
 refine⟨_,rfl,fun S' w'=>?_,below_drewN w n⟩
 have hle:=Ue c s
 rw[A0,A0,Bd,h1,h3]
 refine .tup _ _ rfl fun i c' v hc hv=>?_
 match i,hc,hv with
 |0,hc,hv=>cases hc;cases hv;exact .str _ _ rfl (by rw[Cm];omega)
 |1,hc,hv=>cases hc;cases hv;exact .str _ _ rfl (by rw[Cm];omega)
 |2,hc,hv=>cases hc;cases hv;exact .bool _
 |i+3,hc,hv=>simp at hc
def zK:PC:=PC.fun fun|[.str s,.str [c]]=>some (s.length≤100000000,slS (sL (Aa c s)))|_=>none
theorem Akg{W:World}(hW:Tabs W):GoodP (Fw W) Tryz.prog 78 zK:=by
 intro S w cs vs Q hs hv hT
 refine Age hW S w cs vs Q hs hv ?_
 simp only[zK,PC.fun] at hT
 split at hT
 ·rename_i p r hf
  split at hf
  ·cases hf
   rename_i s c
   exact⟨(s,c),hT.1,⟨⟨rfl,⟨rfl,trivial⟩⟩,hT.2⟩⟩
  ·cases hf
 ·exact hT.elim
def Z5:PC:=PC.fun fun|[.str s,.str [c]]=>some (s.length≤100000000,.tup [.str (sS (Bw c s).1),.str (sS (Bw c s).2.1),.bool (sB (Bw c s).2.2)])|_=>none
theorem Xs{W:World}(hW:Tabs W):GoodP (Fw W) Tryz.prog 94 Z5:=by
 intro S w cs vs Q hs hv hT
 refine Akf hW S w cs vs Q hs hv ?_
 simp only[Z5,PC.fun] at hT
 split at hT
 ·rename_i p r hf
  split at hf
  ·cases hf
   rename_i s c
   exact⟨(s,c),hT.1,⟨⟨rfl,⟨rfl,trivial⟩⟩,hT.2⟩⟩
  ·cases hf
 ·exact hT.elim
def zL:PC:=PC.fun fun|[.str s,.str t]=>some (s.length≤100000000,.int .i64 (sI (Lib.index s t)))|_=>none
theorem Akh{W:World}(hW:Tabs W):GoodP (Fw W) Tryz.prog 220 zL:=by
 have h:GoodP (Fw W) Tryz.prog 220 (PC.of (fun x:List UInt8 × List UInt8=>[.str x.1,.str x.2]) (fun x=>x.1.length≤100000000) (fun x=>.int .i64 (Lib.index x.1 x.2))):=by
  refine K4 (fun _=>rfl) (fun _=>rfl) ?_
  rintro⟨s,t⟩ S w vs hpre hf hs hv
  simp only at hpre hv ⊢
  obtain⟨x,y,rfl,hx,hy⟩:=zJ hv
  obtain⟨sx,rfl,h1,h2⟩:=V.strR' hx
  obtain⟨sy,rfl,h3,h4⟩:=V.strR' hy
  obtain⟨m,hm⟩:=Xr hW hs
  have e1:=M8 sx h1
  refine(Any.strings_Index Tryz.lays143 sx sy m w (by omega) hm).mono ?_
  rintro e w' ⟨rfl,rfl⟩
  refine⟨_,rfl,fun S' w'=>?_,Below.refl _ _⟩
  rw[h1,h3]
  have g1:=Lib.index_ge s t
  have g2:=Lib.index_le s t
  exact .int _ _ (by have:IntKind.min .i64= -9223372036854775808:=rfl;omega) (by have:IntKind.max .i64=9223372036854775807:=rfl;omega)
 intro S w cs vs Q hs hv hT
 refine h S w cs vs Q hs hv ?_
 simp only[zL,PC.fun] at hT
 split at hT
 ·rename_i p r hf
  split at hf
  ·cases hf
   rename_i s t
   rw[Cg] at hT
   exact⟨(s,t),hT.1,⟨⟨rfl,⟨rfl,trivial⟩⟩,hT.2⟩⟩
  ·cases hf
 ·exact hT.elim
end
end Z
end Go.Vc
namespace Go.Vc
open Go Go.Proofs Go.RowKit Go.Pl
theorem Axe{S:Nat→Prop}{w:World}{a:AV}{vs:Array Value}(h:VL (fun _=>none) S w [a] vs):∃ x,vs=#[x]∧V (fun _=>none) S w a x:=by
 obtain⟨vs⟩:=vs
 match vs,h with
 |[x],h=>exact⟨x,rfl,h.2 0 _ _ rfl rfl⟩
 |[],h=>simp[VL] at h
 |_::_::_,h=>have:=h.1;simp at this
namespace Z
noncomputable section
@[irreducible] def Dp(s:List UInt8):Int:=match Lib.atoiAll s with
 | .ok v=>v
 | .range=>Lib.atoiSat s
 |_=>0
def A4q(W:World):Prop:=(∃ ev,W.cell? ⟨2,0,none⟩=some ev∧(ev= .nilIface∨∃ te pe,ev= .iface te pe))∧(∃ ev,W.cell? ⟨3,0,none⟩=some ev∧(ev= .nilIface∨∃ te pe,ev= .iface te pe))
def Fz(W:World):Prop:=Tabs W∧A4q W
theorem Ane{W:World}(hW:Fz W){S:Nat→Prop}{w:World}(hs:Sok (Fw W) S w):(∃ ev,w.cell? ⟨2,0,none⟩=some ev∧(ev= .nilIface∨∃ te pe,ev= .iface te pe))∧(∃ ev,w.cell? ⟨3,0,none⟩=some ev∧(ev= .nilIface∨∃ te pe,ev= .iface te pe)):=by
 obtain⟨⟨m,hm,h1⟩,⟨n,hn,h2⟩⟩:=hW.2
 exact⟨⟨m,Fw.cell hs hm,h1⟩,⟨n,Fw.cell hs hn,h2⟩⟩
theorem Agf{ρ:Nat→Option Nat}{S:Nat→Prop}{w:World}{n:Int}{x:Value}(h: -9223372036854775808≤n∧n≤9223372036854775807):V ρ S w (.tup [.int .i64 (sI n),.any]) (.tuple #[.int .i64 n,x]):=by
 rw[Cg]
 refine .tup _ _ rfl fun i c' v hc hv=>?_
 match i,hc,hv with
 |0,hc,hv=>cases hc;cases hv;exact .int _ _ h.1 h.2
 |1,hc,hv=>cases hc;cases hv;exact .any _
 |i+2,hc,hv=>simp at hc
def Aqq:PC:=PC.of (fun s:List UInt8=>[.str s]) (fun s=>s.length≤100000000) (fun s=>.tup [.int .i64 (sI (Dp s)),.any])
theorem Aki{W:World}(hW:Fz W):GoodP (Fw W) Tryz.prog 179 Aqq:=by
 refine K4 (fun _=>rfl) (fun _=>rfl) ?_
 intro s S w vs hpre hf hs hv
 change s.length≤100000000 at hpre
 obtain⟨x,rfl,hx⟩:=Axe (a:=.str s) hv
 obtain⟨sx,rfl,h1,h2⟩:=V.strR' hx
 obtain⟨⟨e1,c1,d1⟩,⟨e2,c2,d2⟩⟩:=Ane hW hs
 have hz:=M8 sx h1
 cases ha:Lib.atoiAll s
 ·rename_i v
  have hv:Dp s=v:=by unfold Dp;rw[ha]
  refine(Any.strconv_Atoi_ok Tryz.lays172 sx (by omega) v (by rw[h1];exact ha) w).mono ?_
  rintro e w' ⟨rfl,hw⟩
  refine⟨_,rfl,fun S' w'=>by rw[hv];exact Agf (Lib.atoiAll_bounds ha),?_⟩
  rcases hw with rfl|⟨t,rfl⟩
  ·exact Below.refl _ _
  ·exact Lib.bytesWorld_below _ _ _
 ·have hv:Dp s=0:=by unfold Dp;rw[ha]
  refine(Any.strconv_Atoi_syntax Tryz.lays172 sx (by omega) (by rw[h1];exact ha) e1 w c1 d1).mono ?_
  rintro e w' ⟨N,rfl,_,_,hb⟩
  exact⟨_,rfl,fun S' w'=>by rw[hv];exact Agf (by omega),hb⟩
 ·have hv:Dp s=Lib.atoiSat sx.data.toList:=by unfold Dp;rw[ha,h1]
  refine(Any.strconv_Atoi_range Tryz.lays172 sx (by omega) (by rw[h1];exact ha) e2 w c2 d2).mono ?_
  rintro e w' ⟨N,rfl,_,_,hb⟩
  exact⟨_,rfl,fun S' w'=>by rw[hv];exact Agf (Lib.atoiSat_bounds _),hb⟩
def Agg:PC:=PC.fun fun|[.str s]=>some (s.length≤100000000,.tup [.int .i64 (sI (Dp s)),.any])|_=>none
theorem Anf{W:World}(hW:Fz W):GoodP (Fw W) Tryz.prog 179 Agg:=by
 intro S w cs vs Q hs hv hT
 refine Aki hW S w cs vs Q hs hv ?_
 simp only[Agg,PC.fun] at hT
 split at hT
 ·rename_i p r hf
  split at hf
  ·cases hf
   rename_i s
   exact⟨s,hT.1,⟨rfl,trivial⟩,hT.2⟩
  ·cases hf
 ·exact hT.elim
end
end Z
end Go.Vc
namespace Go.Vc.Z
open Go Go.Vc Go.Proofs Go.RowKit Go.Pl Go.Lib
theorem F0(x z:List UInt8)(r:List (List UInt8))(c:UInt8):Lib.join (x::z::r) [c]=x++c::Lib.join (z::r) [c]:=by
 simp[Lib.join_cons,Lib.joinTail]
theorem P7{c:UInt8}:∀ {L:List (List UInt8)} {k:UInt8},c ∈ Lib.join L [k]→c=k∨∃ s ∈ L,c ∈ s
 |[],_,h=>by simp[Lib.join_nil] at h
 |[x],_,h=>.inr ⟨x,by simp,by rwa[Lib.join_one] at h⟩
 |x::z::r,k,h=>by
  rw[F0,List.mem_append,List.mem_cons] at h
  rcases h with h|h|h
  ·exact .inr ⟨x,by simp,h⟩
  ·exact .inl h
  ·rcases P7 h with h|⟨s,hs,h⟩
   ·exact .inl h
   ·exact .inr ⟨s,List.mem_cons_of_mem _ hs,h⟩
theorem gJ{k:UInt8}(h: ¬(48≤k.toNat∧k.toNat≤57))(u:Nat):k ∉ decDigits u:=fun hm=>h (Dw.1 (Ed u) k hm)
theorem Gj{k:UInt8}(h: ¬(48≤k.toNat∧k.toNat≤57))(h45:k≠45)(n:Int):k ∉ Lib.itoa n:=by
 unfold Lib.itoa
 split
 ·rw[List.mem_cons];exact fun hm=>hm.elim h45 (gJ h _)
 ·exact gJ h _
theorem Ang{k:UInt8}(h: ¬(48≤k.toNat∧k.toNat≤57))(n:Int):k ∉ A7 n:=by
 unfold A7
 split
 ·exact gJ h _
 ·simp
theorem gK(n:Int):48≤(Gt n).toNat∧(Gt n).toNat≤57:=by
 have:(48+n % 10).toNat=48+(n % 10).toNat % 10:=by omega
 rw[Gt,this,J6];omega
theorem Anh(n:Int):(Gt n).toNat=48+(n % 10).toNat:=by
 have:(48+n % 10).toNat=48+(n % 10).toNat % 10:=by omega
 rw[Gt,this,J6];omega
theorem Ab1{k:UInt8}(h: ¬(48≤k.toNat∧k.toNat≤57))(h46:k≠46)(n:Int):k ∉ Ce n:=by
 unfold Ce
 simp only[List.mem_append,List.mem_cons,List.not_mem_nil,or_false]
 rintro(hm|hm|hm|hm)
 ·exact gJ h _ hm
 ·exact h46 hm
 ·exact h (by rw[hm];exact gK _)
 ·exact h (by rw[hm];exact gK _)
theorem Q2{k:UInt8}(h: ¬(48≤k.toNat∧k.toNat≤57))(h45:k≠45)(h46:k≠46)(n:Int):k ∉ Du n:=by
 unfold Du Gu
 split
 ·split
  ·rw[List.mem_cons];exact fun hm=>hm.elim h45 (Ab1 h h46 _)
  ·exact Ab1 h h46 _
 ·simp
theorem Agh{s:Int}(h:Ir s=true):Dg s=[stL.getD (s - 1).toNat 0]:=by
 unfold Dg
 rw[if_pos h]
 rcases Qs h with rfl|rfl|rfl|rfl|rfl|rfl|rfl|rfl|rfl<;>rfl
theorem qD{k:UInt8}(h:k ∉ stL)(s:Int):k ∉ Dg s:=by
 unfold Dg
 split
 ·exact fun hm=>h (List.mem_of_mem_drop (List.mem_of_mem_take hm))
 ·simp
theorem Ani{k:UInt8}(h: ¬(48≤k.toNat∧k.toNat≤57))(h45:k≠45)(h46:k≠46)(h61:k≠61)(x:Tax):k ∉ Fo x:=by
 unfold Fo
 simp only[List.mem_append,List.mem_cons,List.not_mem_nil,or_false]
 rintro((hm|hm)|hm)
 ·exact Gj h h45 _ hm
 ·exact h61 hm
 ·exact Q2 h h45 h46 _ hm
theorem Es{n:Int}(h:Dh n=true):Do n=true:=by
 unfold Dh at h
 unfold Do
 simp only[Bool.and_eq_true,decide_eq_true_eq] at h ⊢
 omega
theorem Anj{s:List UInt8}(h:Fx s=true):(32:UInt8) ∉ s:=by
 unfold Fx at h
 simp only[Bool.and_eq_true,List.all_eq_true] at h
 intro hm
 have:=h.1 32 hm
 exact absurd this (by decide)
theorem Ab2(l:List Tax):(32:UInt8) ∉ B7 l:=by
 unfold B7
 split
 ·decide
 ·intro hm
  rcases P7 hm with h|⟨s,hs,h⟩
  ·exact absurd h (by decide)
  ·obtain⟨x,_,rfl⟩:=List.mem_map.1 hs
   exact Ani (by decide) (by decide) (by decide) (by decide) x h
end Go.Vc.Z
namespace Go.Vc.Z
open Go Go.Vc Go.Proofs Go.RowKit Go.Pl Go.Lib
theorem Uf(u:Nat):Gg (decDigits u)=true:=by
 unfold Gg
 rw[Ed,Bool.true_and]
 rcases Nat.eq_zero_or_pos u with rfl|h
 ·rw[show decDigits 0=[48] by rw[Ik (by decide)];rfl];rfl
 ·obtain⟨c,t,he,h1,h2⟩:=Aml u h
  rw[he]
  have: ¬c=48:=fun e=>by rw[e] at h1;exact absurd h1 (by decide)
  simp[this]
theorem qE{u:Nat}{m:Int}(h:(u:Int)≤m):Gh (decDigits u) m=((u:Int),0):=by
 unfold Gh
 rw[if_pos (Uf u),F3,if_neg (by omega)]
theorem Ab3{n:Int}(h:0≤n):Lib.itoa n=decDigits n.toNat:=by unfold Lib.itoa;rw[if_neg (by omega)]
theorem B9{n:Int}(h0:0≤n)(h1:n≤9223372036854775807):Aj (Lib.itoa n)=(n,true):=by
 have:((n.toNat:Nat):Int)=n:=by omega
 unfold Aj
 rw[Ab3 h0,qE (by omega),this];rfl
theorem M9{n:Int}(h0:0≤n)(h1:n≤4611686018427387904):M1 (Lib.itoa n)=n:=by
 have:((n.toNat:Nat):Int)=n:=by omega
 unfold M1
 rw[Ab3 h0,qE (by omega),this,if_pos rfl]
theorem H5{t:Int}(h:checkN t=0):numOf (A7 t)=(t,0):=by
 obtain⟨h0,h1⟩:=Sj h
 have e:((t.toNat:Nat):Int)=t:=by omega
 have hl:(decDigits t.toNat).length=13:=by
  rw[decDigits_length];exact nDigits_unique 12 t.toNat (by omega) (by omega)
 unfold A7 numOf
 rw[if_pos h,if_pos ⟨hl,Ed _⟩,F3,e,if_pos h]
@[irreducible] def statOf(s:List UInt8):Int:=if s=[79] then 1 else if s=[67] then 2 else if s=[76] then 3 else if s=[70] then 4 else if s=[69] then 5 else if s=[82] then 6 else if s=[86] then 7 else if s=[83] then 8 else if s=[65] then 9 else 0
theorem oH{k:Int}(h:Ir k=true):statOf (Dg k)=k:=by
 rw[Agh h]
 rcases Qs h with rfl|rfl|rfl|rfl|rfl|rfl|rfl|rfl|rfl<;>(unfold statOf;rfl)
theorem Agi{s:List UInt8}:statOf s=0∨Ir (statOf s)=true:=by
 unfold statOf Ir
 repeat' split
 all_goals first|exact .inl rfl|exact .inr rfl
def Jq(s:List UInt8):Int:=100*worth (Bw 46 s).1+worth (Bw 46 s).2.1
def P8(s:List UInt8):Bool:=(Bw 46 s).2.2&&Gg (Bw 46 s).1&&allDig (Bw 46 s).2.1&&decide ((Bw 46 s).2.1.length=2)
@[irreducible] def Dm(s:List UInt8):Int × Int:=
 if Lib.hasPrefix s [45]=true then
  (if P8 (s.drop 1)=true∧Jq (s.drop 1)≠0 then(if 1000000000000<Jq (s.drop 1) then(0,14) else(-Jq (s.drop 1),0)) else(0,4))
 else if P8 s=true then(if 1000000000000<Jq s then(0,14) else(Jq s,0)) else(0,4)
theorem Ab4(a b:Int):allDig [Gt a,Gt b]=true∧worth [Gt a,Gt b]=10*(a % 10).toNat+(b % 10).toNat:=by
 refine⟨?_,?_⟩
 ·rw[Dw];intro c hc
  simp only[List.mem_cons,List.not_mem_nil,or_false] at hc
  rcases hc with rfl|rfl<;>exact gK _
 ·simp only[worth,List.foldl_cons,List.foldl_nil,Anh];omega
theorem qF{n:Int}:Bw 46 (Ce n)=(decDigits (n / 10 / 10).toNat,[Gt (n / 10),Gt n],true):=by
 unfold Ce
 exact Xq (gJ (by decide) _) _
theorem bK{n:Int}:P8 (Ce n)=true:=by
 unfold P8
 rw[qF]
 simp only[Bool.true_and,Uf,(Ab4 _ _).1];rfl
theorem bL{n:Int}(h:0≤n):Jq (Ce n)=n:=by
 unfold Jq
 rw[qF]
 simp only[F3,(Ab4 _ _).2];omega
theorem Agj{n:Int}:Lib.hasPrefix (Ce n) [45]=false:=by
 unfold Ce
 have h1:=Ed (n / 10 / 10).toNat
 have h2:=yX (n / 10 / 10).toNat
 cases hd:decDigits (n / 10 / 10).toNat with
 |nil=>exact absurd hd h2
 |cons c t=>
  rw[hd,Dw] at h1
  have:=h1 c (by simp)
  have hc: ¬(45:UInt8)=c:=fun e=>by rw[←e] at this;exact absurd this (by decide)
  simp[Lib.hasPrefix,List.isPrefixOf,hc]
theorem Og{n:Int}(h:Do n=true):Dm (Du n)=(n,0):=by
 have hb: -1000000000000≤n∧n≤1000000000000:=by unfold Do at h;simpa using h
 unfold Du Dm Gu
 rw[if_pos h]
 split
 ·rename_i hn
  rw[if_pos (by simp[Lib.hasPrefix,List.isPrefixOf])]
  rw[show(45::Ce (-n)).drop 1=Ce (-n) from rfl,bL (by omega),if_pos ⟨bK,by omega⟩,if_neg (by omega),Int.neg_neg]
 ·rw[if_neg (by rw[Agj];simp),if_pos bK,bL (by omega),if_neg (by omega)]
@[irreducible] def Ea(s:List UInt8):List UInt8 × Int × Bool:=((Bw 61 s).1,(Dm (Bw 61 s).2.1).1,(Bw 61 s).2.2&&decide ((Dm (Bw 61 s).2.1).2=0))
@[irreducible] def Ef(s:List UInt8):Coupon × Bool:=
 (⟨(Aj (Bw 64 (Ea s).1).1).1,(Aj (Bw 64 (Ea s).1).2.1).1,(Ea s).2.1,0,0,0⟩,(Ea s).2.2&&(Bw 64 (Ea s).1).2.2&&(Aj (Bw 64 (Ea s).1).1).2&&(Aj (Bw 64 (Ea s).1).2.1).2)
theorem Akj{c:Coupon}(h:Hg c 0=true):Ef (Bv c)=(c,true):=by
 unfold Hg Fy at h
 simp only[Bool.and_eq_true,decide_eq_true_eq] at h
 obtain⟨⟨⟨⟨⟨⟨h1,h2⟩,h3,h4⟩,h5⟩,h6⟩,h7⟩,h8⟩:=h
 have e1:Bw 61 (Bv c)=(Lib.itoa c.flight++[64]++Lib.itoa c.day,Du c.value,true):=by
  unfold Bv
  rw[show Lib.itoa c.flight++[64]++Lib.itoa c.day++[61]++Du c.value=(Lib.itoa c.flight++[64]++Lib.itoa c.day)++61::Du c.value by simp]
  refine Xq ?_ _
  simp only[List.mem_append,List.mem_singleton,not_or]
  exact⟨⟨Gj (by decide) (by decide) _,by decide⟩,Gj (by decide) (by decide) _⟩
 have e2:Ea (Bv c)=(Lib.itoa c.flight++[64]++Lib.itoa c.day,c.value,true):=by
  unfold Ea;rw[e1];simp only[Og (Es h5)];rfl
 have e3:Bw 64 (Lib.itoa c.flight++[64]++Lib.itoa c.day)=(Lib.itoa c.flight,Lib.itoa c.day,true):=by
  rw[show Lib.itoa c.flight++[64]++Lib.itoa c.day=Lib.itoa c.flight++64::Lib.itoa c.day by simp]
  exact Xq (Gj (by decide) (by decide) _) _
 unfold Ef
 rw[e2];simp only[e3,B9 (n:=c.flight) (by omega) (by omega),B9 (n:=c.day) (by omega) (by omega),Bool.true_and]
 cases c;simp_all
@[irreducible] def Dk(s:List UInt8):Tax × Bool:=(⟨(Aj (Ea s).1).1,(Ea s).2.1⟩,(Ea s).2.2&&(Aj (Ea s).1).2)
theorem Akk{x:Tax}(h1:1≤x.code∧x.code≤99)(h2:Dh x.amount=true):Dk (Fo x)=(x,true):=by
 have e1:Bw 61 (Fo x)=(Lib.itoa x.code,Du x.amount,true):=by
  unfold Fo
  rw[show Lib.itoa x.code++[61]++Du x.amount=Lib.itoa x.code++61::Du x.amount by simp]
  exact Xq (Gj (by decide) (by decide) _) _
 unfold Dk Ea
 rw[e1];simp only[Og (Es h2),B9 (n:=x.code) (by omega) (by omega),Bool.true_and];rfl
theorem Vl:∀ {l:List Tax} {n:Int},Cs n l=true→1≤n→∀ x ∈ l,(1≤x.code∧x.code≤99)∧Dh x.amount=true
 |[],_,_,_,x,hx=>by cases hx
 |y::l,n,h,hn,x,hx=>by
  simp only[Cs,Bool.and_eq_true,decide_eq_true_eq] at h
  rcases List.mem_cons.1 hx with rfl|hx
  ·exact⟨⟨by omega,h.1.1.2⟩,h.1.2⟩
  ·exact Vl h.2 (by omega) x hx
theorem gL{l:List Tax}(h:De l=true):∀ x ∈ l,(1≤x.code∧x.code≤99)∧Dh x.amount=true:=by
 unfold De at h
 simp only[Bool.and_eq_true] at h
 exact Vl h.1 (by omega)
theorem Akl{l:List Tax}(h:l≠[]):Aa 44 (B7 l)=l.map Fo:=by
 have hl: ¬l.length=0:=fun e=>h (List.length_eq_zero_iff.1 e)
 unfold B7
 rw[if_neg hl]
 refine F4 (by simpa using h) fun w hw=>?_
 obtain⟨c,_,rfl⟩:=List.mem_map.1 hw
 exact Ani (by decide) (by decide) (by decide) (by decide) c
theorem Ab5{l:List Tax}(h:l≠[]):B7 l≠[45]:=by
 have hl: ¬l.length=0:=fun e=>h (List.length_eq_zero_iff.1 e)
 intro e
 have:(61:UInt8) ∈ B7 l:=by
  unfold B7
  rw[if_neg hl]
  cases l with
  |nil=>exact absurd rfl h
  |cons x l=>rw[List.map_cons,Lib.join_cons];exact List.mem_append_left _ (by unfold Fo;simp)
 rw[e] at this
 exact absurd this (by decide)
end Go.Vc.Z
namespace Go.Vc.Z
open Go Go.Vc Go.Proofs Go.RowKit Go.Pl Go.Lib
def Ru(s:List UInt8):Int:=if (worth s:Int)≤1000000000001 then(worth s:Int) else 1000000000001
@[irreducible] def C0(s:List UInt8):Int × Bool:=if allDig s=true then(Ru s,Gg s) else(0,false)
theorem qG{s:List UInt8}{i:Nat}(h:i<s.length):Ru (s.take (i+1))=if 10*Ru (s.take i)+((s.getD i 0).toNat - 48:Nat)≤1000000000001 then 10*Ru (s.take i)+((s.getD i 0).toNat - 48:Nat) else 1000000000001:=by
 unfold Ru
 rw[Eo h]
 repeat' split
 all_goals omega
theorem Ahy(s:List UInt8):0≤Ru s∧Ru s≤1000000000001:=by unfold Ru;split<;>omega
theorem Ank:Ru []=0:=by unfold Ru;simp[worth]
theorem Akm:Gg []=false:=by unfold Gg;simp[allDig]
theorem Agk{s:List UInt8}(h:worth s≤1000000000001):Ru s=worth s:=by unfold Ru;rw[if_pos (by omega)]
theorem gM{c:List UInt8}:allDig (49::c)=allDig c:=by simp[allDig,fE]
theorem qH{c:List UInt8}:Gg (49::c)=allDig c:=by unfold Gg;rw[gM];simp
theorem Akn{c:List UInt8}(h:c.length=2)(hd:allDig c=true):worth (49::c)=100+worth c∧worth c<100:=by
 rw[V5,h]
 have:=Pt hd
 rw[h] at this
 exact⟨by simp,by simpa using this⟩
theorem Agl{s:List UInt8}{c:UInt8}(h:1≤s.length):(s.take 1 == [c])=Lib.hasPrefix s [c]:=by
 cases s with
 |nil=>exact absurd h (by simp)
 |cons d t=>
  show([d] == [c])=((c == d)&&true)
  rw[Bool.and_true,Bool.eq_iff_iff,beq_iff_eq,beq_iff_eq]
  exact⟨fun h=>(List.cons.inj h).1.symm,fun h=>by rw[h]⟩
theorem Ako{s:List UInt8}{c:UInt8}(h: ¬1≤s.length):Lib.hasPrefix s [c]=false:=by
 cases s with
 |nil=>rfl
 |cons d t=>simp at h
def Di(c:UInt8)(s:List UInt8):List UInt8:=if Lib.hasPrefix s [c]=true then s.drop 1 else s
theorem Aqr(c:UInt8)(s:List UInt8):(Di c s).length≤s.length:=by unfold Di;split<;>simp
theorem qI(s:List UInt8):0≤(C0 s).1∧(C0 s).1≤1000000000001:=by
 unfold C0;split
 ·exact Ahy s
 ·exact⟨by decide,by decide⟩
theorem gO(s:List UInt8):(C0 s).2=Gg s:=by
 unfold C0
 split
 ·rfl
 ·rename_i h
  symm;refine Bool.eq_false_iff.2 fun hd=>h ?_
  unfold Gg at hd;simp only[Bool.and_eq_true] at hd;exact hd.1
theorem gP{s:List UInt8}:(P8 s=((Bw 46 s).2.2&&(C0 (Bw 46 s).1).2&&(C0 (49::(Bw 46 s).2.1)).2&&decide ((Bw 46 s).2.1.length=2)))∧
  (P8 s=true→(Jq s=100*(C0 (Bw 46 s).1).1+(C0 (49::(Bw 46 s).2.1)).1 - 100∨(1000000000001<100*(C0 (Bw 46 s).1).1+(C0 (49::(Bw 46 s).2.1)).1 - 100∧1000000000001<Jq s))∧0≤100*(C0 (Bw 46 s).1).1+(C0 (49::(Bw 46 s).2.1)).1 - 100):=by
 have e:P8 s=((Bw 46 s).2.2&&(C0 (Bw 46 s).1).2&&(C0 (49::(Bw 46 s).2.1)).2&&decide ((Bw 46 s).2.1.length=2)):=by
  rw[gO,gO,qH];rfl
 refine⟨e,fun h=>?_⟩
 rw[e] at h
 simp only[Bool.and_eq_true,decide_eq_true_eq,gO,qH] at h
 obtain⟨⟨⟨h1,h2⟩,h3⟩,h4⟩:=h
 obtain⟨w1,w2⟩:=Akn h4 h3
 have hd2:allDig (Bw 46 s).1=true:=(Af5 h2).1
 have a1:(C0 (Bw 46 s).1).1=Ru (Bw 46 s).1:=by unfold C0;rw[if_pos hd2]
 have a2:(C0 (49::(Bw 46 s).2.1)).1=100+worth (Bw 46 s).2.1:=by
  unfold C0;rw[if_pos (by rw[gM];exact h3)]
  show Ru _=_
  rw[Agk (by omega),w1];omega
 rw[a1,a2]
 unfold Jq Ru
 split<;>omega
theorem Xt{s:List UInt8}(h:P8 (Di 45 s)=false):Dm s=(0,4):=by
 unfold Di at h
 unfold Dm
 split
 ·rename_i hp
  rw[if_pos hp] at h
  rw[if_neg (by rw[h];simp)]
 ·rename_i hp
  rw[if_neg hp] at h
  rw[if_neg (by rw[h];simp)]
theorem Anl{s:List UInt8}(hp:Lib.hasPrefix s [45]=true)(h:P8 (Di 45 s)=true):Dm s=if Jq (Di 45 s)=0 then(0,4) else if 1000000000000<Jq (Di 45 s) then(0,14) else(-Jq (Di 45 s),0):=by
 unfold Di at h ⊢
 rw[if_pos hp] at h ⊢
 unfold Dm
 rw[if_pos hp]
 by_cases h0:Jq (s.drop 1)=0
 ·rw[if_neg (fun hn=>hn.2 h0),if_pos h0]
 ·rw[if_pos ⟨h,h0⟩,if_neg h0]
theorem Anm{s:List UInt8}(hp:Lib.hasPrefix s [45]=false)(h:P8 (Di 45 s)=true):Dm s=if 1000000000000<Jq (Di 45 s) then(0,14) else(Jq (Di 45 s),0):=by
 have hp': ¬Lib.hasPrefix s [45]=true:=by rw[hp];simp
 unfold Di at h ⊢
 rw[if_neg hp'] at h ⊢
 unfold Dm
 rw[if_neg hp',if_pos h]
theorem Agm(c:UInt8):Lib.index stL [c]=statOf [c] - 1:=by
 rw[Lib.index_one]
 unfold statOf stL
 simp only[List.cons.injEq,and_true]
 by_cases h1:c=79
 ·subst h1;rfl
 by_cases h2:c=67
 ·subst h2;rfl
 by_cases h3:c=76
 ·subst h3;rfl
 by_cases h4:c=70
 ·subst h4;rfl
 by_cases h5:c=69
 ·subst h5;rfl
 by_cases h6:c=82
 ·subst h6;rfl
 by_cases h7:c=86
 ·subst h7;rfl
 by_cases h8:c=83
 ·subst h8;rfl
 by_cases h9:c=65
 ·subst h9;rfl
 rw[if_neg h1,if_neg h2,if_neg h3,if_neg h4,if_neg h5,if_neg h6,if_neg h7,if_neg h8,if_neg h9]
 simp[Lib.indexByte,Ne.symm h1,Ne.symm h2,Ne.symm h3,Ne.symm h4,Ne.symm h5,Ne.symm h6,Ne.symm h7,Ne.symm h8,Ne.symm h9]
theorem Ab6{s:List UInt8}(h:s.length≠1):statOf s=0:=by
 unfold statOf
 repeat' split
 all_goals first|rfl|(rename_i e;rw[e] at h;exact absurd rfl h)
theorem Ab7{s:List UInt8}(h:s.length=1):Lib.index stL s=statOf s - 1:=by
 match s,h with
 |[c],_=>exact Agm c
@[irreducible] def dO(s:List UInt8):Int:=if statOf s=0 then 2 else 0
theorem gQ(s:List UInt8):(statOf s=0∧dO s=2)∨(statOf s≠0∧dO s=0):=by
 unfold dO
 by_cases h:statOf s=0
 ·exact .inl ⟨h,if_pos h⟩
 ·exact .inr ⟨h,if_neg h⟩
noncomputable section
set_option maxRecDepth 100000
attribute [local irreducible] inK Utf8.decode Utf8.encode Lib.itoa Pl.worth Pl.allDig
attribute [local irreducible] Lib.join Bw Aa
def Ab8:PC:=PC.fun fun|[.str s]=>some (True,.tup [.int .i64 (sI (C0 s).1),.bool (sB (C0 s).2)])|_=>none
def Aqs(s:List UInt8):LoopSpec:={
 α:=Nat
 keep:=[0,4,8]
 vals i:=[.str s,.int .i64 (sI (Ru (s.take i))),.iter 0]
 heap i:=[.iter s i]
 ok i:=i≤s.length∧allDig (s.take i)=true
 μ i:=s.length - i }
def Et:PT:=C2 []
theorem I3{W:World}(hW:Tabs W):Cl (Fw W) Tryz.prog Et:=As
def Mc:FuncId→Option Ctr:=Aw Et []
theorem Q3{W:World}(hW:Tabs W):Ad (Fw W) Tryz.prog Mc:=(Au (I3 hW))
def zM:List AV→Nat→Option LR:=fun cs i=>match cs with|[.str s]=>cond (Nat.beq i 3) (some (.inv (Aqs s))) (none)|_=>none
theorem zN{W:World}(hW:Tabs W):GoodP (Fw W) Tryz.prog 222 Ab8:=by
 have hD:=I3 hW
 have hC0:Ad (Fw W) Tryz.prog Mc:=(Q3 hW)
 refine Az (D:=Et) (C:=Mc) (wr:=(fun _=>false)) rfl Ap hD hC0 Tryz.func222 (zM) ?_
 clear hC0 hD hW
 intro cs p r h hf hp
 split at h
 case h_2=>cases h
 rename_i s
 cases h
 try simp only[Ax,Bh,Am,Go.Vc.lo,Go.Vc.hi,and_true] at hf
 have e0:s.getD (Int.toNat 0) 0=s.getD 0 0:=rfl
 have hbyte:∀ c:UInt8,eqI (c.toNat:Int) 48=(c == 48):=fun c=>Abi c 48
 have s0:=Ank
 (conv=>whnf)
 refine⟨?_,fun(i:Nat) hi=>?_⟩
 ·(conv=>whnf)
  refine⟨(0:Nat),[],?_,⟨⟨rfl,(nB rfl),rfl⟩,?_,?_⟩⟩
  ·exact⟨Nat.zero_le _,by simp[allDig]⟩
  ·(conv=>whnf)
   (repeat' ((first|with_reducible exact⟨⟩|((with_reducible refine aI ?_ ?_);focus (exact tA))|with_reducible refine iA ?_ ?_|fail)<;>(conv=>whnf)))
   all_goals (try simp only[wQ])
   rw[List.take_zero,s0]
  ·exact tL
 ·obtain⟨h1,h2⟩:=hi
  have h1:i≤s.length:=h1
  have hl:=Ahy (s.take i)
  have hsi:=Cg (Ru (s.take i))
  have hbad:i<s.length→¬(48≤Bg s i∧Bg s i≤57)→C0 s=(0,false):=fun h hc=>by
   have:allDig s=false:=fH h (by rcases D4 h with h6|h6<;>omega)
   unfold C0;rw[this];rfl
  have hfin:s.length≤i→C0 s=(Ru (s.take i),Gg s):=fun h=>by
   rw[List.take_of_length_le h] at h2 ⊢
   unfold C0;rw[if_pos h2]
  have hdec:s.length≤i→Gg s=(s == [48] || (s != []&&s.getD 0 0 != 48)):=fun h=>by
   rw[List.take_of_length_le h] at h2
   unfold Gg;rw[h2,Bool.true_and]
  by_cases hs:s=[]
  ·subst hs
   obtain rfl:i=0:=Nat.le_zero.1 h1
   (conv=>whnf)
   (repeat' ((first
    |with_reducible exact⟨⟩
    |((with_reducible refine aI ?_ ?_);focus (first|exact tO|with_reducible rfl))
    |with_reducible refine iA ?_ ?_
    |fail)<;>(conv=>whnf)))
   all_goals (try (show _=_;simp only[wQ]))
   ·rw[hfin (Nat.le_refl _)]
   ·rw[hfin (Nat.le_refl _)];exact Akm.symm
  ·have hpos:0<s.length:=List.length_pos_iff.2 hs
   (conv=>whnf)
   (repeat' ((first
    |with_reducible exact⟨⟩
    |((with_reducible refine aI ?_ ?_);focus (first|exact tO|with_reducible rfl|omega|exact tK))
    |(split<;>rename_i hh<;>(try simp only[wS] at hh))
    |with_reducible refine iA ?_ ?_
    |fail)<;>(conv=>whnf)))
   all_goals (try (show _=_;simp only[wQ]))
   all_goals first|(rw[hbad (by omega) (by omega)];done)|(exact absurd (by assumption) hs)|(exfalso;exact absurd (by assumption) Bool.false_ne_true)|skip
   ·obtain⟨h6,h7,h8⟩:Bg s i=((s.getD i 0).toNat:Int)∧Ai s i=1∧(s.getD i 0).toNat<128:=by
     rcases D4 (l:=s) (p:=i) (by omega) with h6|h6<;>omega
    have hst:=qG (s:=s) (i:=i) (by omega)
    (conv=>whnf)
    refine⟨(i+1:Nat),[],?_,⟨⟨rfl,(nB rfl),rfl⟩,?_,?_⟩⟩
    ·exact⟨⟨show i+1≤s.length by omega,E4 (by omega) h2 (by omega) (by omega)⟩,show s.length - (i+1)<s.length - i by omega⟩
    ·(conv=>whnf)
     (repeat' ((first|with_reducible exact⟨⟩|((with_reducible refine aI ?_ ?_);focus (exact tA))|with_reducible refine iA ?_ ?_|fail)<;>(conv=>whnf)))
     all_goals (try simp only[wQ])
     all_goals (try first|omega)
     all_goals (rw[hst];split<;>omega)
    ·(conv=>whnf)
     (repeat' ((first|with_reducible exact⟨⟩|((with_reducible refine aI ?_ ?_);focus (exact tA))|with_reducible refine iB ?_ ?_|fail)<;>(conv=>whnf)))
     all_goals (try first|omega)
     all_goals (rw[h7])
   ·obtain⟨h6,h7,h8⟩:Bg s i=((s.getD i 0).toNat:Int)∧Ai s i=1∧(s.getD i 0).toNat<128:=by
     rcases D4 (l:=s) (p:=i) (by omega) with h6|h6<;>omega
    have hst:=qG (s:=s) (i:=i) (by omega)
    (conv=>whnf)
    refine⟨(i+1:Nat),[],?_,⟨⟨rfl,(nB rfl),rfl⟩,?_,?_⟩⟩
    ·exact⟨⟨show i+1≤s.length by omega,E4 (by omega) h2 (by omega) (by omega)⟩,show s.length - (i+1)<s.length - i by omega⟩
    ·(conv=>whnf)
     (repeat' ((first|with_reducible exact⟨⟩|((with_reducible refine aI ?_ ?_);focus (exact tA))|with_reducible refine iA ?_ ?_|fail)<;>(conv=>whnf)))
     all_goals (try simp only[wQ])
     all_goals (try first|omega)
     all_goals (rw[hst];split<;>omega)
    ·(conv=>whnf)
     (repeat' ((first|with_reducible exact⟨⟩|((with_reducible refine aI ?_ ?_);focus (exact tA))|with_reducible refine iB ?_ ?_|fail)<;>(conv=>whnf)))
     all_goals (try first|omega)
     all_goals (rw[h7])
   ·rw[hfin (by omega)]
   ·rw[hfin (by omega),hdec (by omega),show s=[48] by assumption];rfl
   ·rw[hfin (by omega)]
   ·rw[hfin (by omega),hdec (by omega),hbyte,e0]
    have a1:(s == [48])=false:=by rw[beq_eq_false_iff_ne];assumption
    have a2:(s != [])=true:=by rw[bne_iff_ne];assumption
    rw[a1,a2];rfl
def Ab9:PC:=PC.fun fun|[.str s,.str [c]]=>some (True,.tup [.str (sS (Di c s)),.bool (sB (Lib.hasPrefix s [c]))])|_=>none
def K8:List (FuncId × Ctr):=(244,inl TY Mc Et (fun _=>false) (fun _ _ _=>none) Tryz.f244)::[]
def K9:FuncId→Option Ctr:=Aw Et K8
theorem La{W:World}(hW:Tabs W):Ad (Fw W) Tryz.prog K9:=Ae Tryz.call244 (Ag rfl Ap (I3 hW) (Q3 hW) Tryz.func244 (fun _ _ _=>none)) (Q3 hW)
def S6:List (FuncId × Ctr):=(272,inl TY K9 Et (fun _=>false) (fun _ _ _=>none) Tryz.f272)::K8
def Gw:FuncId→Option Ctr:=Aw Et S6
theorem S7{W:World}(hW:Tabs W):Ad (Fw W) Tryz.prog Gw:=Ae Tryz.call272 (Ag rfl Ap (I3 hW) (La hW) Tryz.func272 (fun _ _ _=>none)) (La hW)
theorem U9{W:World}(hW:Tabs W):GoodP (Fw W) Tryz.prog 221 Ab9:=by
 have hD:=I3 hW
 have hC0:Ad (Fw W) Tryz.prog Gw:=(S7 hW)
 refine Az (D:=Et) (C:=Gw) (wr:=(fun _=>false)) rfl Ap hD hC0 Tryz.func221 (fun _ _=>none) ?_
 clear hC0 hD hW
 intro cs p r h hf hp
 split at h
 case h_2=>cases h
 rename_i s c
 cases h
 try simp only[Ax,Bh,Am,Go.Vc.lo,Go.Vc.hi,and_true] at hf
 have h1:=Agl (s:=s) (c:=c)
 have h2:=Ako (s:=s) (c:=c)
 have h3:Di c s=if Lib.hasPrefix s [c]=true then s.drop 1 else s:=by unfold Di;rfl
 have h4:([c].length:Int)=1:=rfl
 have hn:Lib.hasPrefix s [c]=false→s=Di c s∧false=Lib.hasPrefix s [c]:=fun h=>by rw[h3,h];exact⟨rfl,rfl⟩
 have hy:1≤s.length→Lib.hasPrefix s [c]=true→List.take (s.length - Int.toNat ([c].length:Int)) (List.drop (Int.toNat ([c].length:Int)) s)=Di c s∧true=Lib.hasPrefix s [c]:=fun h0 h=>by
  rw[h3,h]
  refine⟨?_,rfl⟩
  show List.take (s.length - 1) (List.drop 1 s)=_
  rw[List.take_of_length_le (by simp)];rfl
 have k1:1≤s.length→¬List.take (Int.toNat ([c].length:Int) - 0) (List.drop 0 s)=[c]→Lib.hasPrefix s [c]=false:=fun h0 h=>by
  rw[←h1 h0,beq_eq_false_iff_ne];exact h
 have k2:1≤s.length→List.take (Int.toNat ([c].length:Int) - 0) (List.drop 0 s)=[c]→Lib.hasPrefix s [c]=true:=fun h0 h=>by
  rw[←h1 h0,beq_iff_eq];exact h
 (conv=>whnf)
 (repeat' ((first
  |with_reducible exact⟨⟩
  |(with_reducible refine Ao ?_)
  |((with_reducible refine aI ?_ ?_);focus (omega))
  |(split<;>rename_i hh<;>(try simp only[wS] at hh))
  |with_reducible refine lnI fun hln=>?_
  |with_reducible refine iA ?_ ?_
  |fail)<;>(conv=>whnf)))
 all_goals (try (show _=_;simp only[wQ]))
 ·exact(hn (k1 (by omega) (by assumption))).1
 ·exact(hn (k1 (by omega) (by assumption))).2
 ·exact(hy (by omega) (k2 (by omega) (by assumption))).1
 ·exact(hy (by omega) (k2 (by omega) (by assumption))).2
 ·exact(hn (h2 (by omega))).1
 ·exact(hn (h2 (by omega))).2
def gR:PC:=PC.fun fun|[.str s]=>some (s.length≤100000000,.tup [.int .i64 (sI (Dm s).1),.int .i64 (sI (Dm s).2)])|_=>none
def Z6:PT:=C2 [(94,Z5),(221,Ab9),(222,Ab8)]
theorem qJ{W:World}(hW:Tabs W):Cl (Fw W) Tryz.prog Z6:=(Ab Tryz.call94 (Xs hW) (Ab Tryz.call221 (U9 hW) (Ab Tryz.call222 (zN hW) As)))
def Z7:FuncId→Option Ctr:=Aw Z6 []
theorem Akp{W:World}(hW:Tabs W):Ad (Fw W) Tryz.prog Z7:=(Au (qJ hW))
theorem qK{W:World}(hW:Tabs W):GoodP (Fw W) Tryz.prog 159 gR:=by
 have hD:=qJ hW
 have hC0:Ad (Fw W) Tryz.prog Z7:=(Akp hW)
 refine Az (D:=Z6) (C:=Z7) (wr:=(fun _=>false)) rfl Ap hD hC0 Tryz.func159 (fun _ _=>none) ?_
 clear hC0 hD hW
 intro cs p r h hf hp
 split at h
 case h_2=>cases h
 rename_i s
 cases h
 try simp only[Ax,Bh,Am,Go.Vc.lo,Go.Vc.hi,and_true] at hf
 have e1:=A0 (Di 45 s)
 have e2:=A0 (Bw 46 (sS (Di 45 s))).1
 have e3:=A0 (Bw 46 (sS (Di 45 s))).2.1
 have c1:=Aqr 45 s
 have c2:=Ue 46 (sS (Di 45 s))
 have c3:(sS (Di 45 s)).length≤100000000:=by rw[e1];omega
 have c4:(sS (Bw 46 (sS (Di 45 s))).2.1).length≤100000000:=by rw[e3];omega
 have c5:=Ue 46 (Di 45 s)
 have w1:=qI (sS (Bw 46 (sS (Di 45 s))).1)
 have w2:=qI ((⟨#[49]⟩:ByteArray).data.toList++sS (Bw 46 (sS (Di 45 s))).2.1)
 have w3:=Cg (C0 (sS (Bw 46 (sS (Di 45 s))).1)).1
 have w4:=Cg (C0 ((⟨#[49]⟩:ByteArray).data.toList++sS (Bw 46 (sS (Di 45 s))).2.1)).1
 have hF:P8 (Di 45 s)=((Bw 46 (Di 45 s)).2.2&&(C0 (Bw 46 (Di 45 s)).1).2&&(C0 ((⟨#[49]⟩:ByteArray).data.toList++(Bw 46 (Di 45 s)).2.1)).2&&decide ((Bw 46 (Di 45 s)).2.1.length=2)):=gP.1
 have hV:P8 (Di 45 s)=true→(Jq (Di 45 s)=100*(C0 (Bw 46 (Di 45 s)).1).1+(C0 ([49]++(Bw 46 (Di 45 s)).2.1)).1 - 100∨(1000000000001<100*(C0 (Bw 46 (Di 45 s)).1).1+(C0 ([49]++(Bw 46 (Di 45 s)).2.1)).1 - 100∧1000000000001<Jq (Di 45 s)))∧0≤100*(C0 (Bw 46 (Di 45 s)).1).1+(C0 ([49]++(Bw 46 (Di 45 s)).2.1)).1 - 100:=(gP (s:=Di 45 s)).2
 have b1:(Bw 46 (Di 45 s)).2.2=false→Dm s=(0,4):=fun h=>Xt (by rw[hF,h];rfl)
 have b2:(C0 (Bw 46 (Di 45 s)).1).2=false→Dm s=(0,4):=fun h=>Xt (by rw[hF,h];simp)
 have b3:(C0 ((⟨#[49]⟩:ByteArray).data.toList++(Bw 46 (Di 45 s)).2.1)).2=false→Dm s=(0,4):=fun h=>Xt (by rw[hF,h];simp)
 have b4: ¬(Bw 46 (Di 45 s)).2.1.length=2→Dm s=(0,4):=fun h=>Xt (by rw[hF,decide_eq_false h];simp)
 have hg:(Bw 46 (Di 45 s)).2.2=true→(C0 (Bw 46 (Di 45 s)).1).2=true→(C0 ((⟨#[49]⟩:ByteArray).data.toList++(Bw 46 (Di 45 s)).2.1)).2=true→(Bw 46 (Di 45 s)).2.1.length=2→P8 (Di 45 s)=true:=fun h1 h2 h3 h4=>by rw[hF,h1,h2,h3,decide_eq_true h4];rfl
 clear c2 hF
 (conv=>whnf)
 (repeat' ((first
  |with_reducible exact⟨⟩
  |((with_reducible refine aI ?_ ?_);focus (first|with_reducible exact⟨⟩|with_reducible assumption|with_reducible rfl|omega|exact tK|(simp only[List.length_append,bytesOf_length,List.toList_toArray,List.length_cons,List.length_nil,List.length_take,List.length_drop,A0];omega)|(dsimp only at*;simp only[Am,Go.Vc.lo,Go.Vc.hi];omega)))
  |(split<;>rename_i hh<;>(try simp only[wS] at hh))
  |with_reducible refine lnI fun hln=>?_
  |with_reducible refine iA ?_ ?_
  |fail)<;>(conv=>whnf)))
 all_goals (try (show _=_;simp only[wQ]))
 all_goals first
  |exact absurd (by assumption) Bool.false_ne_true
  |(rw[b1 (by assumption)];done)
  |(rw[b2 (by assumption)];done)
  |(rw[b3 (by assumption)];done)
  |(rw[b4 (by omega)];done)
  |(
   have hf:=hg (by assumption) (by assumption) (by assumption) (by omega)
   obtain⟨v1,v2⟩:=hV hf
   first
   |(rw[Anl (by assumption) hf];(repeat' split)<;>((try dsimp only)<;>omega))
   |(rw[Anm (by assumption) hf];(repeat' split)<;>((try dsimp only)<;>omega)))
def Avy:PC:=PC.fun fun|[.str s]=>some (True,.tup [.int .i64 (sI (statOf s)),.int .i64 (sI (dO s))])|_=>none
def S8:PT:=C2 [(220,zL)]
theorem bM{W:World}(hW:Tabs W):Cl (Fw W) Tryz.prog S8:=(Ab Tryz.call220 (Akh hW) As)
def S9:FuncId→Option Ctr:=Aw S8 []
theorem Aca{W:World}(hW:Tabs W):Ad (Fw W) Tryz.prog S9:=(Au (bM hW))
theorem Acb{W:World}(hW:Tabs W):GoodP (Fw W) Tryz.prog 156 Avy:=by
 have hD:=bM hW
 have hC0:Ad (Fw W) Tryz.prog S9:=(Aca hW)
 refine Az (D:=S8) (C:=S9) (wr:=(fun _=>false)) rfl Ap hD hC0 Tryz.func156 (fun _ _=>none) ?_
 clear hC0 hD hW
 intro cs p r h hf hp
 split at h
 case h_2=>cases h
 rename_i s
 cases h
 try simp only[Ax,Bh,Am,Go.Vc.lo,Go.Vc.hi,and_true] at hf
 have h1:(s.length:Int)=1∨statOf s=0:=by
  by_cases h:s.length=1
  ·exact .inl (by omega)
  ·exact .inr (Ab6 h)
 have h2: ¬(s.length:Int)=1∨Lib.index [79,67,76,70,69,82,86,83,65] s=statOf s - 1:=by
  by_cases h:s.length=1
  ·exact .inr (Ab7 h)
  ·exact .inl (by omega)
 have h4:sI (Lib.index (⟨#[79,67,76,70,69,82,86,83,65]⟩:ByteArray).data.toList s)=Lib.index [79,67,76,70,69,82,86,83,65] s:=Cg _
 have h6:statOf s=0∨(1≤statOf s∧statOf s≤9):=(Agi (s:=s)).imp id Sp.1
 have h7:=gQ s
 (conv=>whnf)
 (repeat' ((first
  |with_reducible exact⟨⟩
  |((with_reducible refine aI ?_ ?_);focus (first|with_reducible rfl|(simp only[Am,Go.Vc.lo,Go.Vc.hi];simp (disch:=omega) only[Int.tdiv_eq_ediv_of_nonneg,Int.tmod_eq_emod_of_nonneg,Cg,eY];omega)|(simp only[List.length_append,bytesOf_length,List.toList_toArray,List.length_cons,List.length_nil,List.length_take,List.length_drop,A0];omega)))
  |(split<;>rename_i hh<;>(try simp only[wS] at hh))
  |with_reducible refine lnI fun hln=>?_
  |with_reducible refine iA ?_ ?_
  |fail)<;>(conv=>whnf)))
 all_goals (try (show _=_;simp only[wQ]))
 all_goals omega
def Agn:PC:=PC.fun fun|[.str s]=>some (s.length≤100000000,.tup [.str (sS (Ea s).1),.int .i64 (sI (Ea s).2.1),.bool (sB (Ea s).2.2)])|_=>none
def O6:PT:=C2 [(94,Z5),(159,gR)]
theorem Vm{W:World}(hW:Tabs W):Cl (Fw W) Tryz.prog O6:=(Ab Tryz.call94 (Xs hW) (Ab Tryz.call159 (qK hW) As))
def O7:FuncId→Option Ctr:=Aw O6 []
theorem oI{W:World}(hW:Tabs W):Ad (Fw W) Tryz.prog O7:=(Au (Vm hW))
theorem Vn{W:World}(hW:Tabs W):GoodP (Fw W) Tryz.prog 224 Agn:=by
 have hD:=Vm hW
 have hC0:Ad (Fw W) Tryz.prog O7:=(oI hW)
 refine Az (D:=O6) (C:=O7) (wr:=(fun _=>false)) rfl Ap hD hC0 Tryz.func224 (fun _ _=>none) ?_
 clear hC0 hD hW
 intro cs p r h hf hp
 split at h
 case h_2=>cases h
 rename_i s
 cases h
 try simp only[Ax,Bh,Am,Go.Vc.lo,Go.Vc.hi,and_true] at hf
 have c1:=Ue 61 s
 have c2:(sS (Bw 61 s).2.1).length≤100000000:=by rw[A0];omega
 have h1:Ea s=((Bw 61 s).1,(Dm (Bw 61 s).2.1).1,(Bw 61 s).2.2&&decide ((Dm (Bw 61 s).2.1).2=0)):=by unfold Ea;rfl
 (conv=>whnf)
 (repeat' ((first
  |with_reducible exact⟨⟩
  |((with_reducible refine aI ?_ ?_);focus (first|with_reducible assumption|with_reducible rfl))
  |(split<;>rename_i hh<;>(try simp only[wS] at hh))
  |with_reducible refine iA ?_ ?_
  |fail)<;>(conv=>whnf)))
 all_goals (try (show _=_;simp only[wQ]))
 all_goals first|(rw[h1];done)|(rw[h1,Bool.eq_iff_iff];simp[*,Be];done)
def Ann:PC:=PC.fun fun|[.str s]=>some (s.length≤100000000,.tup [.agg (Ef s).1.enc,.bool (sB (Ef s).2)])|_=>none
def I4:PT:=C2 [(93,Ua),(94,Z5),(224,Agn)]
theorem Oh{W:World}(hW:Tabs W):Cl (Fw W) Tryz.prog I4:=(Ab Tryz.call93 (Gs hW) (Ab Tryz.call94 (Xs hW) (Ab Tryz.call224 (Vn hW) As)))
def I5:FuncId→Option Ctr:=Aw I4 []
theorem Xu{W:World}(hW:Tabs W):Ad (Fw W) Tryz.prog I5:=(Au (Oh hW))
theorem Xv{W:World}(hW:Tabs W):GoodP (Fw W) Tryz.prog 223 Ann:=by
 have hD:=Oh hW
 have hC0:Ad (Fw W) Tryz.prog I5:=(Xu hW)
 refine Az (D:=I4) (C:=I5) (wr:=(fun _=>false)) rfl Ap hD hC0 Tryz.func223 (fun _ _=>none) ?_
 clear hC0 hD hW
 intro cs p r h hf hp
 split at h
 case h_2=>cases h
 rename_i s
 cases h
 try simp only[Ax,Bh,Am,Go.Vc.lo,Go.Vc.hi,and_true] at hf
 have h1:(sS (Ea s).1).length≤100000000:=by
  rw[A0];have:=Ue 61 s;unfold Ea;dsimp only;omega
 have hf:Ef s=(⟨(Aj (Bw 64 (Ea s).1).1).1,(Aj (Bw 64 (Ea s).1).2.1).1,(Ea s).2.1,0,0,0⟩,(Ea s).2.2&&(Bw 64 (Ea s).1).2.2&&(Aj (Bw 64 (Ea s).1).1).2&&(Aj (Bw 64 (Ea s).1).2.1).2):=by unfold Ef;rfl
 (conv=>whnf)
 (repeat' ((first
  |with_reducible exact⟨⟩
  |((with_reducible refine aI ?_ ?_);focus (first|with_reducible exact⟨⟩|with_reducible assumption|with_reducible rfl))
  |(split<;>rename_i hh<;>(try simp only[wS] at hh))
  |with_reducible refine iA ?_ ?_
  |fail)<;>(conv=>whnf)))
 all_goals (try (show _=_;simp only[wQ]))
 all_goals first|(rw[hf];done)|(rw[hf,Bool.eq_iff_iff];simp[*];done)
end
end Go.Vc.Z
