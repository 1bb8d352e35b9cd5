/- script.Script: the script of a setup and acts, or why there is none. -/
import Derived.Test.YtpmpclbdnakniaaGreatDoorV26
import Derived.Test.YtpmpclbdnakniaaGreatDoorV42
import Derived.Test.YtpmpclbdnakniaaGreatDoorV43
set_option linter.all false
set_option maxHeartbeats 8000000
namespace Go.Vc.Z
open Go Go.Vc Go.Proofs Go.RowKit Go.Pl Go.Lib
theorem jF{s:Site}(h:L2 s=true):(0≤s.carrier∧s.carrier≤999)∧(0≤s.first∧s.first≤999999999)∧(0≤s.count∧s.count≤1000000000)∧(0≤s.sectors∧s.sectors≤4000)∧(0≤s.pages∧s.pages≤1000)∧(0≤s.frames∧s.frames≤100):=by
 unfold L2 Yq X8 Mi at h;simp only[Bool.and_eq_true,decide_eq_true_eq] at h;omega
theorem Gz{n:Int}(h:0≤n∧n≤1000000000):(Lib.itoa n).length≤32:=Bj n (by omega) (by omega)
theorem Aa9{s:Site}(h:L2 s=true):(Lib.join (Ei s) [32]).length≤300:=by
 obtain⟨h1,h2,h3,h4,h5,h6⟩:=jF h;have l1:=Gz (n:=s.carrier) (by omega)
 have l2:=Gz (n:=s.first) (by omega)
 have l3:=Gz (n:=s.count) (by omega)
 have l4:=Gz (n:=s.sectors) (by omega)
 have l5:=Gz (n:=s.pages) (by omega)
 have l6:=Gz (n:=s.frames) (by omega)
 unfold Ei;simp[Lib.join]
 omega
theorem Ah9{k:Int}(h:1≤k∧k≤64):(Lib.join (O7 k) [32]).length≤300:=by
 have l1:=Gz (n:=k) (by omega)
 unfold O7;rw[Asr];simp only[List.length_cons,List.length_nil];omega
theorem As3{n:Nat}{g:Nat→List AV}{l T:List UInt8}(hn:n=T.length)(hg:∀ e,e<n→g e=Mh T e):∀ e,e<n+l.length→Bq n g (Mh l) e=Mh (T++l) e:=by
 intro e he;subst hn;unfold Bq;split
 ·rename_i h;rw[hg e h];unfold Mh;simp[List.getD_eq_getElem?_getD,List.getElem?_append_left h]
 ·rename_i h;unfold Mh;simp[List.getD_eq_getElem?_getD,List.getElem?_append_right (Nat.le_of_not_lt h)]
theorem Wr(L:List (List UInt8))(w:List UInt8):Nj (L++[w])=Nj L++(w++[10]):=by unfold Nj;simp
theorem Aop{a:Act}(h:Ag a=true):Eh a.request:=by
 rcases D6 h with k|k|k|k|k
 ·exact Wo (O0 k h).2.1
 ·exact short_zero (Vo k h).2.2.1
 ·exact short_zero (O1 k h).2.2.1
 ·exact short_zero (R1 k h).2.2.1
 ·exact short_zero (aT k h).2.1
theorem Aia{A:List Act}{y:AV}(h:Az [y,slE 17 Act.enc A]){i:Nat}(hi:i<A.length):Az [.agg (A.getD i default).enc]:=by
 obtain⟨_,⟨_,h2⟩,_⟩:=h;exact⟨(h2 i hi).2,True.intro⟩
theorem map_take{α β:Type}[Inhabited α]{l:List α}{i:Nat}(f:α→β)(hi:i<l.length):(l.take (i+1)).map f=(l.take i).map f++[f (l.getD i default)]:=by
 rw[List.take_add_one,List.getElem?_eq_getElem hi,List.map_append,List.getD_eq_getElem?_getD,List.getElem?_eq_getElem hi];rfl
@[irreducible] noncomputable def R3(s:Setup)(A:List Act):List UInt8 × Int:=if 10000<A.length then([],3) else if Tx s=true∧A.all Ag=true then(scW s A,0) else([],2)
theorem Amf{A:List Act}:A.all Ag=true↔∀ i,i<A.length→Ag (A.getD i default)=true:=by
 rw[List.all_eq_true];constructor
 ·intro h i hi;rw[List.getD_eq_getElem?_getD,List.getElem?_eq_getElem hi];exact h _ (List.getElem_mem hi)
 ·intro h a ha;obtain⟨i,hi,rfl⟩:=List.getElem_of_mem ha;have:=h i hi;rwa[List.getD_eq_getElem?_getD,List.getElem?_eq_getElem hi] at this
theorem Aj5{s:Setup}{A:List Act}(h:10000<A.length):R3 s A=([],3):=by unfold R3;rw[if_pos h]
theorem Aoq{s:Setup}{A:List Act}(h:A.length≤10000)(h2: ¬Tx s=true):R3 s A=([],2):=by unfold R3;rw[if_neg (by omega),if_neg (fun h=>h2 h.1)]
theorem Aor{s:Setup}{A:List Act}{i:Nat}(h:A.length≤10000)(hi:i<A.length)(h2: ¬Ag (A.getD i default)=true):R3 s A=([],2):=by unfold R3;rw[if_neg (by omega),if_neg (fun h=>h2 (Amf.1 h.2 i hi))]
theorem Aib{s:Setup}{A:List Act}(h:A.length≤10000)(h2:Tx s=true)(h3:∀ i,i<A.length→Ag (A.getD i default)=true):R3 s A=(scW s A,0):=by unfold R3;rw[if_neg (by omega),if_pos ⟨h2,Amf.2 h3⟩]
noncomputable section
set_option maxRecDepth 100000
attribute [local irreducible] inK Utf8.decode Utf8.encode Lib.itoa Pl.worth Pl.allDig
attribute [local irreducible] Lib.join Bp Aa
def hSc(n0:Nat)(T:List UInt8):List Blk:=.dead:: .var [.ptr 1 0,.osl n0 1 0 T.length none] (some 152)::(List.replicate (n0 - 2) .dead++[.row 1 T.length (Mh T) (some 5)])
def LSi(s:Setup)(A:List Act):LoopSpec:={
 α:=Nat × List UInt8
 keep:=[1,6,7,28,29,30]
 vals x:=[slE 17 Act.enc A,.ptr 1 0,.fn 100 [.ptr 1 0],slE 6 Site.enc s.sites,.int .i64 s.sites.length,.int .i64 x.1]
 heap x:=hSc 4 x.2
 ok x:=x.1≤s.sites.length∧x.2=Nj (Lib.join (O7 s.k) [32]::(s.sites.take x.1).map (fun x=>Lib.join (Ei x) [32]))∧x.2.length≤301+x.1*301
 μ x:=s.sites.length - x.1 }
def LSc(s:Setup)(A:List Act):LoopSpec:={
 α:=Nat × List UInt8
 keep:=[6,7,59,60,61]
 vals x:=[.ptr 1 0,.fn 100 [.ptr 1 0],slE 17 Act.enc A,.int .i64 A.length,.int .i64 x.1]
 heap x:=hSc 5 x.2
 ok x:=(x.1≤A.length∧∀ j,j<x.1→Ag (A.getD j default)=true)∧x.2=Nj (Md s++(A.take x.1).map Bh)∧x.2.length≤2000+x.1*1000001
 μ x:=A.length - x.1 }
def Az2:PC:=PC.of (fun x:Setup × List Act × List UInt8 × Int=>[.agg x.1.enc,slE 17 Act.enc x.2.1]) (fun x=>(∀ i,i<x.2.1.length→Eh (x.2.1.getD i default).request)∧R3 x.1 x.2.1=x.2.2) (fun x=>.tup [.str (sS x.2.2.1),.int .i64 x.2.2.2])
def D1:PT:=Cg [(34,dF),(36,aS),(46,Lo),(62,Sl),(99,Wm)]
theorem Il{W:World}(hW:Tabs W):Cb (Fw W) Tryz.prog D1:=(Ab Tryz.call34 (Aa3 hW) (Ab Tryz.call36 (qN hW) (Ab Tryz.call46 (Er hW) (Ab Tryz.call62 (Nn hW) (Ab Tryz.call99 (Ahg hW) Aq)))))
def Tl:FuncId→Option Ctr:=Av D1 [(102,Oa),(182,K3)]
theorem Tm{W:World}(hW:Tabs W):Ad (Fw W) Tryz.prog Tl:=(Ae Tryz.call102 Ur (Ae Tryz.call182 Xn (Ar (Il hW))))
def R4:List (FuncId × Ctr):=(101,inl TY Tl D1 (fun _=>false) (fun _ _ _=>none) Tryz.f101)::[(102,Oa),(182,K3)]
def R5:FuncId→Option Ctr:=Av D1 R4
theorem R6{W:World}(hW:Tabs W):Ad (Fw W) Tryz.prog R5:=Ae Tryz.call101 (Ah rfl Ao (Il hW) (Tm hW) Tryz.func101 (fun _ _ _=>none)) (Tm hW)
def dK:List (FuncId × Ctr):=(100,inl TY R5 D1 (fun _=>false) (fun _ _ _=>none) Tryz.f100)::R4
def Lm:FuncId→Option Ctr:=Av D1 dK
theorem dL{W:World}(hW:Tabs W):Ad (Fw W) Tryz.prog Lm:=Ae Tryz.call100 (Ah rfl Ao (Il hW) (R6 hW) Tryz.func100 (fun _ _ _=>none)) (R6 hW)
def hY:Setup × List Act × List UInt8 × Int→Nat→Option LR:=fun x i=>cond (Nat.beq i 9) (some (.inv (LSi x.1 x.2.1))) (cond (Nat.beq i 14) (some (.inv (LSc x.1 x.2.1))) (none))
theorem hZ{W:World}(hW:Tabs W):GoodP (Fw W) Tryz.prog 39 Az2:=by
 have hD:=Il hW;have hC0:∀ x:Setup × List Act × List UInt8 × Int,Ad (Fw W) Tryz.prog Lm:=fun x=>(dL hW);refine As (D:=D1) (C:=fun x=>Lm) (wr:=(fun _=>false)) rfl Ao hD hC0 Tryz.func39 (hY) (fun _=>rfl) ?_;rintro⟨⟨l,k⟩,A,t,er⟩ hf hp;have hfa:=fun i hi=>Aia hf (A:=A) (i:=i) hi;clear hf;obtain⟨hsh,hq⟩:=hp;change ∀ i,i<A.length→Eh (A.getD i default).request at hsh;change R3 ⟨l,k⟩ A=(t,er) at hq;by_cases hA:10000<A.length
 ·cases hq.symm.trans (Aj5 hA)
  (conv=>whnf)
  (repeat' (first|with_reducible exact⟨⟩|refine⟨tU,?_⟩|split<;>rename_i hh<;>try simp only[wS] at hh|with_reducible refine lnI fun hln=>?_|with_reducible refine iA ?_ ?_)<;>conv=>whnf)
  all_goals try(show _=_;simp only[wQ])
  all_goals first|rfl|(exfalso;omega)|skip
 have hA2:A.length≤10000:=by omega
 by_cases hset:Tx ⟨l,k⟩=true
 ·obtain⟨⟨hl1,hl2⟩,⟨hk1,hk2⟩,hs,hn⟩:=S5 hset;have hjn:=Ah9 ⟨hk1,hk2⟩
  (conv=>whnf)
  (repeat' (first|with_reducible exact⟨⟩|((with_reducible refine aI ?_ ?_);focus (simp only[Dc,ty5,Cn,List.length_append,List.length_cons,List.length_nil,List.toList_toArray];first|omega|(refine⟨?_,?_⟩<;>omega)))|split<;>rename_i hh<;>try simp only[wS] at hh|with_reducible refine lnI fun hln=>?_)<;>conv=>whnf)
  all_goals try (exfalso;omega)
  refine⟨(⟨l,k⟩:Setup),True.intro,?_,?_⟩
  ·exact Ac _
  (conv=>whnf)
  (repeat' (first|(with_reducible refine Ap ?_)|(exact absurd (hset.symm.trans (by with_reducible assumption)) Bool.true_eq_false.mp)|refine⟨tU,?_⟩|split<;>rename_i hh<;>try simp only[wS] at hh)<;>conv=>whnf)
  refine⟨⟨by omega,fun e he=>by rcases(by omega:e=0∨e=1) with rfl|rfl<;>rfl⟩,?_⟩
  refine⟨((O7 k,[32]):List (List UInt8) × List UInt8),⟨Nat.le_trans hjn (by decide),(nB rfl)⟩,?_,?_⟩
  ·(conv=>whnf)
   (repeat' (first|with_reducible exact⟨⟩|refine⟨tA,?_⟩|with_reducible refine iA ?_ ?_)<;>conv=>whnf)
   all_goals try simp only[wQ]
   exact⟨fun h=>h,fun e he=>by have he:e<2:=he;rcases(by omega:e=0∨e=1) with rfl|rfl<;>rfl⟩
  (conv=>whnf)
  (repeat' (first|(with_reducible refine Ap ?_)|(exact absurd hh (by rw[List.length_append];exact Nat.succ_ne_zero _))|((with_reducible refine aI ?_ ?_);focus (simp only[Dc,ty5,Cn,List.length_append,List.length_cons,List.length_nil,List.toList_toArray];first|omega|(refine⟨?_,?_⟩<;>omega)))|refine⟨tU,?_⟩|split<;>rename_i hh<;>try simp only[wS] at hh|with_reducible refine lnI fun hln=>?_)<;>conv=>whnf)
  refine⟨?_,fun(x:Nat × List UInt8) hx=>?_⟩
  ·(conv=>whnf)
   refine⟨((0,Lib.join (O7 k) [32]++[10]):Nat × List UInt8),[3],?_,⟨⟨rfl,(nB rfl),rfl⟩,?_,?_⟩⟩
   ·exact⟨Nat.zero_le _,by unfold Nj;simp,by show(Lib.join (O7 k) [32]++[10]).length≤_;simp only[List.length_append,List.length_cons,List.length_nil];omega⟩
   ·exact tL
   ·(conv=>whnf)
    (repeat' (first|with_reducible exact⟨⟩|refine⟨tA,?_⟩|with_reducible refine iA ?_ ?_|with_reducible refine iL ?_ ?_|with_reducible refine iB ?_ ?_)<;>conv=>whnf)
    all_goals try simp only[wQ]
    all_goals first|exact⟨True.intro,.inl True.intro⟩|exact⟨⟨(by first|rfl|exact True.intro),Nat.le_refl _,fun e he=>⟨True.intro,rfl⟩⟩,(by first|rfl|exact True.intro)⟩
  ·obtain⟨i,T⟩:=x;obtain⟨h1,h2,h3⟩:=hx;change i≤l.length at h1;change T=Nj (Lib.join (O7 k) [32]::(l.take i).map (fun x=>Lib.join (Ei x) [32])) at h2;change T.length≤301+i*301 at h3;by_cases hi:i<l.length
   ·have hj:=Aa9 (hs (l.getD i default) (by rw[List.getD_eq_getElem?_getD,List.getElem?_eq_getElem hi];exact List.getElem_mem _))
    have hst:=map_take (fun x=>Lib.join (Ei x) [32]) hi
    (conv=>whnf)
    (repeat' (first|(with_reducible refine Ap ?_)|((with_reducible refine aI ?_ ?_);focus (simp only[Dc,ty5,Cn,List.length_append,List.length_cons,List.length_nil,List.toList_toArray];first|omega|(refine⟨?_,?_⟩<;>omega)))|refine⟨tU,?_⟩|split<;>rename_i hh<;>try simp only[wS] at hh|with_reducible refine lnI fun hln=>?_)<;>conv=>whnf)
    all_goals try (exfalso;omega)
    refine⟨⟨by omega,fun e he=>by rcases(by omega:e=0∨e=1∨e=2∨e=3∨e=4∨e=5∨e=6) with rfl|rfl|rfl|rfl|rfl|rfl|rfl<;>rfl⟩,?_⟩
    refine⟨((Ei (l.getD i default),[32]):List (List UInt8) × List UInt8),⟨Nat.le_trans hj (by decide),(nB rfl)⟩,?_,?_⟩
    ·(conv=>whnf)
     (repeat' (first|with_reducible exact⟨⟩|refine⟨tA,?_⟩|with_reducible refine iA ?_ ?_)<;>conv=>whnf)
     all_goals try simp only[wQ]
     exact⟨fun h=>h,fun e he=>by have he:e<7:=he;rcases(by omega:e=0∨e=1∨e=2∨e=3∨e=4∨e=5∨e=6) with rfl|rfl|rfl|rfl|rfl|rfl|rfl<;>rfl⟩
    (conv=>whnf)
    (repeat' (first|(with_reducible refine Ap ?_)|((with_reducible refine aI ?_ ?_);focus (simp only[Dc,ty5,Cn,List.length_append,List.length_cons,List.length_nil,List.toList_toArray];first|omega|(refine⟨?_,?_⟩<;>omega)))|((with_reducible refine aI ?_ ?_);focus (refine⟨Nat.le_refl _,?_,fun e he=>rfl⟩;simp only[Dc,ty5,Cn,List.length_append,List.length_cons,List.length_nil,List.toList_toArray];first|omega|(refine⟨?_,?_⟩<;>omega)))|refine⟨tU,?_⟩|with_reducible refine lnI fun hln=>?_)<;>conv=>whnf)
    (conv=>whnf)
    refine⟨((i+1,T++(Lib.join (Ei (l.getD i default)) [32]++[10])):Nat × List UInt8),[29],?_,⟨⟨rfl,(nB rfl),rfl⟩,?_,?_⟩⟩
    ·refine⟨⟨show i+1≤l.length by omega,?_,?_⟩,show l.length - (i+1)<l.length - i by omega⟩
     ·show T++(Lib.join (Ei (l.getD i default)) [32]++[10])=Nj (Lib.join (O7 k) [32]::(l.take (i+1)).map (fun x=>Lib.join (Ei x) [32]));rw[hst,h2,←Wr,List.cons_append]
     ·show(T++(Lib.join (Ei (l.getD i default)) [32]++[10])).length≤301+(i+1)*301;rw[List.length_append,List.length_append];simp only[List.length_cons,List.length_nil];omega
    ·exact tL
    ·(conv=>whnf)
     (repeat' (first|with_reducible exact⟨⟩|refine⟨tA,?_⟩|with_reducible refine iA ?_ ?_|with_reducible refine iL ?_ ?_|with_reducible refine iB ?_ ?_)<;>conv=>whnf)
     all_goals try simp only[wQ]
     ·exact⟨by simp only[List.length_append],.inl True.intro⟩
     ·exact⟨⟨(by first|rfl|exact True.intro),Nat.le_of_eq (by simp only[List.length_append]),fun e he=>⟨As3 rfl (fun _ _=>rfl) e (by simpa only[List.length_append] using he),rfl⟩⟩,rfl⟩
   ·have hie:i=l.length:=(by omega);have hT:T=Nj (Md ⟨l,k⟩):=(by rw[h2,hie,List.take_length];unfold Md;rfl);have hTl:T.length≤2000:=(by omega);clear h2 h3
    (conv=>whnf)
    (repeat' (first|(with_reducible refine Ap ?_)|((with_reducible refine aI ?_ ?_);focus (simp only[Dc,ty5,Cn,List.length_append,List.length_cons,List.length_nil,List.toList_toArray];first|omega|(refine⟨?_,?_⟩<;>omega)))|refine⟨tU,?_⟩|split<;>rename_i hh<;>try simp only[wS] at hh|with_reducible refine lnI fun hln=>?_)<;>conv=>whnf)
    all_goals try (exfalso;omega)
    refine⟨?_,fun(x:Nat × List UInt8) hx=>?_⟩
    ·(conv=>whnf)
     refine⟨((0,T):Nat × List UInt8),[4],?_,⟨⟨rfl,(nB rfl),rfl⟩,?_,?_⟩⟩
     ·exact⟨⟨Nat.zero_le _,fun j hj=>absurd hj (Nat.not_lt_zero _)⟩,by show T=_;rw[hT,List.take_zero,List.map_nil,List.append_nil],Nat.le_trans hTl (Nat.le_add_right _ _)⟩
     ·exact tL
     ·(conv=>whnf)
      (repeat' (first|with_reducible exact⟨⟩|((with_reducible refine Or.inr ?_);rfl)|refine⟨tA,?_⟩|with_reducible refine iA ?_ ?_|with_reducible refine iL ?_ ?_|with_reducible refine iB ?_ ?_)<;>conv=>whnf)
      all_goals try simp only[wQ]
      all_goals exact⟨⟨(by first|rfl|exact True.intro),Nat.le_refl _,fun e he=>⟨True.intro,rfl⟩⟩,(by first|rfl|exact True.intro)⟩
    ·obtain⟨i,T⟩:=x;obtain⟨⟨h1,hmj⟩,h2,h3⟩:=hx;change i≤A.length at h1;change ∀ j,j<i→Ag (A.getD j default)=true at hmj;change T=Nj (Md ⟨l,k⟩++(A.take i).map Bh) at h2;change T.length≤2000+i*1000001 at h3;by_cases hi:i<A.length
     ·have hsi:=hsh i hi;have hst:=map_take Bh hi;by_cases hmi:Ag (A.getD i default)=true
      ·have hal:=Ah5 (hfa i hi) hmi
       (conv=>whnf)
       (repeat' (first|with_reducible exact⟨⟩|((with_reducible refine aI ?_ ?_);focus (simp only[Dc,ty5,Cn,List.length_append,List.length_cons,List.length_nil,List.toList_toArray];first|omega|(refine⟨?_,?_⟩<;>omega)))|split<;>rename_i hh<;>try simp only[wS] at hh)<;>conv=>whnf)
       all_goals try (exfalso;omega)
       refine⟨(A.getD i default:Act),hsi,?_,?_⟩
       ·exact Ac _
       (conv=>whnf)
       (repeat' (first|with_reducible exact⟨⟩|refine⟨tU,?_⟩|split<;>rename_i hh<;>try simp only[wS] at hh|with_reducible refine iA ?_ ?_)<;>conv=>whnf)
       all_goals try(show _=_;simp only[wQ])
       all_goals try (exact absurd (hmi.symm.trans (by assumption)) Bool.true_eq_false.mp)
       refine⟨(A.getD i default:Act),hsi,?_,?_⟩
       ·exact Ac _
       (conv=>whnf)
       (repeat' (first|(with_reducible refine Ap ?_))<;>conv=>whnf)
       refine⟨⟨by omega,fun e he=>by obtain rfl:e=0:=(by omega);rfl⟩,?_⟩
       refine⟨(([Bh (A.getD i default)],[32]):List (List UInt8) × List UInt8),⟨by show(Lib.join [Bh (A.getD i default)] [32]).length≤_;rw[Lib.join_one];omega,(nB rfl)⟩,?_,?_⟩
       ·(conv=>whnf)
        (repeat' (first|with_reducible exact⟨⟩|refine⟨tA,?_⟩|with_reducible refine iA ?_ ?_)<;>conv=>whnf)
        all_goals try simp only[wQ]
        exact⟨fun h=>h,fun e he=>by have he:e<1:=he;obtain rfl:e=0:=(by omega);rfl⟩
       have hj1:(Lib.join [Bh (A.getD i default)] [32]).length≤1000000:=by rw[Lib.join_one];exact hal
       (conv=>whnf)
       (repeat' (first|(with_reducible refine Ap ?_)|((with_reducible refine aI ?_ ?_);focus (simp only[Dc,ty5,Cn,List.length_append,List.length_cons,List.length_nil,List.toList_toArray];first|omega|(refine⟨?_,?_⟩<;>omega)))|((with_reducible refine aI ?_ ?_);focus (refine⟨Nat.le_refl _,?_,fun e he=>rfl⟩;simp only[Dc,ty5,Cn,List.length_append,List.length_cons,List.length_nil,List.toList_toArray];first|omega|(refine⟨?_,?_⟩<;>omega)))|refine⟨tU,?_⟩|with_reducible refine lnI fun hln=>?_)<;>conv=>whnf)
       (conv=>whnf)
       refine⟨((i+1,T++(Lib.join [Bh (A.getD i default)] [32]++[10])):Nat × List UInt8),[8],?_,⟨⟨rfl,(nB rfl),rfl⟩,?_,?_⟩⟩
       ·refine⟨⟨⟨show i+1≤A.length by omega,fun j hj=>?_⟩,?_,?_⟩,show A.length - (i+1)<A.length - i by omega⟩
        ·rcases Nat.lt_or_ge j i with h|h
         ·exact hmj j h
         ·obtain rfl:j=i:=by have hj:j<i+1:=hj;omega
          exact hmi
        ·show T++(Lib.join [Bh (A.getD i default)] [32]++[10])=Nj (Md ⟨l,k⟩++(A.take (i+1)).map Bh);rw[hst,h2,Lib.join_one,←Wr,List.append_assoc]
        ·show(T++(Lib.join [Bh (A.getD i default)] [32]++[10])).length≤2000+(i+1)*1000001;rw[List.length_append,List.length_append];simp only[List.length_cons,List.length_nil];omega
       ·exact tL
       ·(conv=>whnf)
        (repeat' (first|with_reducible exact⟨⟩|refine⟨tA,?_⟩|with_reducible refine iA ?_ ?_|with_reducible refine iL ?_ ?_|with_reducible refine iB ?_ ?_)<;>conv=>whnf)
        all_goals try simp only[wQ]
        ·exact⟨by simp only[List.length_append],.inl True.intro⟩
        ·exact⟨⟨(by first|rfl|exact True.intro),Nat.le_of_eq (by simp only[List.length_append]),fun e he=>⟨As3 rfl (fun _ _=>rfl) e (by simpa only[List.length_append] using he),rfl⟩⟩,rfl⟩
      ·cases hq.symm.trans (Aor hA2 hi hmi)
       (conv=>whnf)
       (repeat' (first|with_reducible exact⟨⟩|((with_reducible refine aI ?_ ?_);focus (simp only[Dc,ty5,Cn,List.length_append,List.length_cons,List.length_nil,List.toList_toArray];first|omega|(refine⟨?_,?_⟩<;>omega)))|split<;>rename_i hh<;>try simp only[wS] at hh)<;>conv=>whnf)
       all_goals try (exfalso;omega)
       refine⟨(A.getD i default:Act),hsi,?_,?_⟩
       ·exact Ac _
       (conv=>whnf)
       (repeat' (first|with_reducible exact⟨⟩|refine⟨tU,?_⟩|split<;>rename_i hh<;>try simp only[wS] at hh|with_reducible refine iA ?_ ?_)<;>conv=>whnf)
       all_goals try(show _=_;simp only[wQ])
       all_goals first|rfl|exact absurd (by assumption) hmi|skip
     ·have hie:i=A.length:=(by omega);cases hq.symm.trans (Aib hA2 hset (fun j hj=>hmj j (by omega)))
      have hfin:bytesOf T.length (Mh T)=scW ⟨l,k⟩ A:=(by unfold scW scL;rw[show bytesOf T.length (Mh T)=T from eF T,h2,hie,List.take_length]);have hpos:0<T.length:=by rw[h2];unfold Md Nj;simp;omega
      (conv=>whnf)
      (repeat' (first|((with_reducible refine aI ?_ ?_);focus (simp only[Dc,ty5,Cn,List.length_append,List.length_cons,List.length_nil,List.toList_toArray];first|omega|(refine⟨?_,?_⟩<;>omega)))|split<;>rename_i hh<;>try simp only[wS] at hh)<;>conv=>whnf)
      all_goals try (exfalso;omega)
      refine⟨⟨rfl,hpos,Nat.le_refl _,fun e he=>rfl⟩,?_⟩
      (conv=>whnf)
      (repeat' (first|with_reducible exact⟨⟩|refine⟨tU,?_⟩|with_reducible refine iA ?_ ?_)<;>conv=>whnf)
      all_goals try(show _=_;simp only[wQ])
      all_goals first|exact hfin|rfl|skip
 ·cases hq.symm.trans (Aoq hA2 hset)
  (conv=>whnf)
  (repeat' (first|with_reducible exact⟨⟩|((with_reducible refine aI ?_ ?_);focus (simp only[Dc,ty5,Cn,List.length_append,List.length_cons,List.length_nil,List.toList_toArray];first|omega|(refine⟨?_,?_⟩<;>omega)))|split<;>rename_i hh<;>try simp only[wS] at hh|with_reducible refine lnI fun hln=>?_)<;>conv=>whnf)
  all_goals try (exfalso;omega)
  refine⟨(⟨l,k⟩:Setup),True.intro,?_,?_⟩
  ·exact Ac _
  (conv=>whnf)
  (repeat' (first|with_reducible exact⟨⟩|(exact absurd (by with_reducible assumption) hset)|refine⟨tU,?_⟩|split<;>rename_i hh<;>try simp only[wS] at hh|with_reducible refine iA ?_ ?_)<;>conv=>whnf)
  all_goals try(show _=_;simp only[wQ])
  all_goals first|rfl|skip
end
end Go.Vc.Z
