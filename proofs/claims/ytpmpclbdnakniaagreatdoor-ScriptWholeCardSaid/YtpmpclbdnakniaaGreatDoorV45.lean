/- script.Script: the script of a setup and acts, or why there is none. -/
import Derived.Test.YtpmpclbdnakniaaGreatDoorV33
import Derived.Test.YtpmpclbdnakniaaGreatDoorV43
import Derived.Test.YtpmpclbdnakniaaGreatDoorV44
set_option linter.all false
set_option linter.unusedVariables false
set_option linter.unusedSimpArgs false
namespace Go.Vc.Z
open Go Go.Vc Go.Proofs Go.RowKit Go.Pl Go.Lib
theorem zZ{s:Site}(h:Oq s=true):(0≤s.carrier∧s.carrier≤999)∧(0≤s.first∧s.first≤999999999)∧(0≤s.count∧s.count≤1000000000)∧(0≤s.sectors∧s.sectors≤4000)∧(0≤s.pages∧s.pages≤1000)∧(0≤s.frames∧s.frames≤100):=by
 unfold Oq Wm V6 Lm at h
 simp only[Bool.and_eq_true,decide_eq_true_eq] at h
 omega
theorem Gl{n:Int}(h:0≤n∧n≤1000000000):(Lib.itoa n).length≤32:=Bl n (by omega) (by omega)
theorem aN{s:Site}(h:Oq s=true):(Lib.join (Ex s) [32]).length≤300:=by
 obtain⟨h1,h2,h3,h4,h5,h6⟩:=zZ h
 have l1:=Gl (n:=s.carrier) (by omega)
 have l2:=Gl (n:=s.first) (by omega)
 have l3:=Gl (n:=s.count) (by omega)
 have l4:=Gl (n:=s.sectors) (by omega)
 have l5:=Gl (n:=s.pages) (by omega)
 have l6:=Gl (n:=s.frames) (by omega)
 unfold Ex
 simp[Lib.join]
 omega
theorem nL{k:Int}(h:1≤k∧k≤64):(Lib.join (Nx k) [32]).length≤300:=by
 have l1:=Gl (n:=k) (by omega)
 unfold Nx
 rw[Ao2]
 simp only[List.length_cons,List.length_nil];omega
theorem Apk{n:Nat}{g:Nat→List AV}{l T:List UInt8}(hn:n=T.length)(hg:∀ e,e<n→g e=Ll T e):∀ e,e<n+l.length→B0 n g (Ll l) e=Ll (T++l) e:=by
 intro e he
 subst hn
 unfold B0
 split
 ·rename_i h
  rw[hg e h]
  unfold Ll
  simp[List.getD_eq_getElem?_getD,List.getElem?_append_left h]
 ·rename_i h
  unfold Ll
  simp[List.getD_eq_getElem?_getD,List.getElem?_append_right (Nat.le_of_not_lt h)]
theorem Ur(L:List (List UInt8))(w:List UInt8):Jp (L++[w])=Jp L++(w++[10]):=by unfold Jp;simp
theorem Ak7{a:Act}(h:Af a=true):D5 a.request:=by
 rcases D9 h with k|k|k|k|k
 ·exact Up (Nq k h).2.1
 ·exact short_zero (Tn k h).2.2.1
 ·exact short_zero (Nr k h).2.2.1
 ·exact short_zero (Qf k h).2.2.1
 ·exact short_zero (Yo k h).2.1
theorem nM{A:List Act}{y:AV}(h:Ax [y,slE 17 Act.enc A]){i:Nat}(hi:i<A.length):Ax [.agg (A.getD i default).enc]:=by
 obtain⟨_,⟨_,h2⟩,_⟩:=h
 exact⟨(h2 i hi).2,True.intro⟩
theorem map_take{α β:Type}[Inhabited α]{l:List α}{i:Nat}(f:α→β)(hi:i<l.length):(l.take (i+1)).map f=(l.take i).map f++[f (l.getD i default)]:=by
 rw[List.take_add_one,List.getElem?_eq_getElem hi,List.map_append,List.getD_eq_getElem?_getD,List.getElem?_eq_getElem hi];rfl
@[irreducible] noncomputable def Lh(s:Setup)(A:List Act):List UInt8 × Int:=if 10000<A.length then([],3) else if Dt s=true∧A.all Af=true then(scW s A,0) else([],2)
theorem dY{A:List Act}:A.all Af=true↔∀ i,i<A.length→Af (A.getD i default)=true:=by
 rw[List.all_eq_true]
 constructor
 ·intro h i hi
  rw[List.getD_eq_getElem?_getD,List.getElem?_eq_getElem hi];exact h _ (List.getElem_mem hi)
 ·intro h a ha
  obtain⟨i,hi,rfl⟩:=List.getElem_of_mem ha
  have:=h i hi
  rwa[List.getD_eq_getElem?_getD,List.getElem?_eq_getElem hi] at this
theorem Agw{s:Setup}{A:List Act}(h:10000<A.length):Lh s A=([],3):=by unfold Lh;rw[if_pos h]
theorem xP{s:Setup}{A:List Act}(h:A.length≤10000)(h2: ¬Dt s=true):Lh s A=([],2):=by unfold Lh;rw[if_neg (by omega),if_neg (fun h=>h2 h.1)]
theorem xQ{s:Setup}{A:List Act}{i:Nat}(h:A.length≤10000)(hi:i<A.length)(h2: ¬Af (A.getD i default)=true):Lh s A=([],2):=by unfold Lh;rw[if_neg (by omega),if_neg (fun h=>h2 (dY.1 h.2 i hi))]
theorem nN{s:Setup}{A:List Act}(h:A.length≤10000)(h2:Dt s=true)(h3:∀ i,i<A.length→Af (A.getD i default)=true):Lh s A=(scW s A,0):=by unfold Lh;rw[if_neg (by omega),if_pos ⟨h2,dY.2 h3⟩]
noncomputable section
set_option maxRecDepth 100000
attribute [local irreducible] inK Utf8.decode Utf8.encode Lib.itoa Pl.worth Pl.allDig
attribute [local irreducible] Lib.join Bw Aa
def hSc(n0:Nat)(T:List UInt8):List Blk:=.dead:: .var [.ptr 1 0,.osl n0 1 0 T.length none] (some 152)::(List.replicate (n0 - 2) .dead++[.row 1 T.length (Ll T) (some 5)])
def LSi(s:Setup)(A:List Act):LoopSpec:={
 α:=Nat × List UInt8
 keep:=[1,6,7,28,29,30]
 vals x:=[slE 17 Act.enc A,.ptr 1 0,.fn 100 [.ptr 1 0],slE 6 Site.enc s.sites,.int .i64 s.sites.length,.int .i64 x.1]
 heap x:=hSc 4 x.2
 ok x:=x.1≤s.sites.length∧x.2=Jp (Lib.join (Nx s.k) [32]::(s.sites.take x.1).map (fun x=>Lib.join (Ex x) [32]))∧x.2.length≤301+x.1*301
 μ x:=s.sites.length - x.1 }
def LSc(s:Setup)(A:List Act):LoopSpec:={
 α:=Nat × List UInt8
 keep:=[6,7,59,60,61]
 vals x:=[.ptr 1 0,.fn 100 [.ptr 1 0],slE 17 Act.enc A,.int .i64 A.length,.int .i64 x.1]
 heap x:=hSc 5 x.2
 ok x:=(x.1≤A.length∧∀ j,j<x.1→Af (A.getD j default)=true)∧x.2=Jp (Jw s++(A.take x.1).map Bt)∧x.2.length≤2000+x.1*1000001
 μ x:=A.length - x.1 }
def Apl:PC:=PC.of (fun x:Setup × List Act × List UInt8 × Int=>[.agg x.1.enc,slE 17 Act.enc x.2.1]) (fun x=>(∀ i,i<x.2.1.length→D5 (x.2.1.getD i default).request)∧Lh x.1 x.2.1=x.2.2) (fun x=>.tup [.str (sS x.2.2.1),.int .i64 x.2.2.2])
def D6:PT:=C2 [(34,aK),(36,Yg),(46,Kz),(62,Qv),(99,Um)]
theorem Hw{W:World}(hW:Tabs W):Cl (Fw W) Tryz.prog D6:=(Ab Tryz.call34 (xI hW) (Ab Tryz.call36 (lF hW) (Ab Tryz.call46 (Ep hW) (Ab Tryz.call62 (Mg hW) (Ab Tryz.call99 (Aer hW) As)))))
def Ro:FuncId→Option Ctr:=Aw D6 [(102,M2),(182,Ka)]
theorem Rp{W:World}(hW:Tabs W):Ad (Fw W) Tryz.prog Ro:=(Ae Tryz.call102 Sv (Ae Tryz.call182 Vj (Au (Hw hW))))
def Qh:List (FuncId × Ctr):=(101,inl TY Ro D6 (fun _=>false) (fun _ _ _=>none) Tryz.f101)::[(102,M2),(182,Ka)]
def Qi:FuncId→Option Ctr:=Aw D6 Qh
theorem Qj{W:World}(hW:Tabs W):Ad (Fw W) Tryz.prog Qi:=Ae Tryz.call101 (Ag rfl Ap (Hw hW) (Rp hW) Tryz.func101 (fun _ _ _=>none)) (Rp hW)
def aO:List (FuncId × Ctr):=(100,inl TY Qi D6 (fun _=>false) (fun _ _ _=>none) Tryz.f100)::Qh
def Kw:FuncId→Option Ctr:=Aw D6 aO
theorem aP{W:World}(hW:Tabs W):Ad (Fw W) Tryz.prog Kw:=Ae Tryz.call100 (Ag rfl Ap (Hw hW) (Qj hW) Tryz.func100 (fun _ _ _=>none)) (Qj hW)
def dE:Setup × List Act × List UInt8 × Int→Nat→Option LR:=fun x i=>cond (Nat.beq i 9) (some (.inv (LSi x.1 x.2.1))) (cond (Nat.beq i 14) (some (.inv (LSc x.1 x.2.1))) (none))
set_option maxHeartbeats 4000000 in
theorem Rq{W:World}(hW:Tabs W):GoodP (Fw W) Tryz.prog 39 Apl:=by
 have hD:=Hw hW
 have hC0:∀ x:Setup × List Act × List UInt8 × Int,Ad (Fw W) Tryz.prog Kw:=fun x=>(aP hW)
 refine Ar (D:=D6) (C:=fun x=>Kw) (wr:=(fun _=>false)) rfl Ap hD hC0 Tryz.func39 (dE) (fun _=>rfl) ?_
 rintro⟨⟨l,k⟩,A,t,er⟩ hf hp
 have hfa:=fun i hi=>nM hf (A:=A) (i:=i) hi
 clear hf
 obtain⟨hsh,hq⟩:=hp
 change ∀ i,i<A.length→D5 (A.getD i default).request at hsh
 change Lh ⟨l,k⟩ A=(t,er) at hq
 by_cases hA:10000<A.length
 ·cases hq.symm.trans (Agw hA)
  (conv=>whnf)
  (repeat' ((first
   |with_reducible exact⟨⟩
   |((with_reducible refine aI ?_ ?_);focus (with_reducible rfl))
   |(split<;>rename_i hh<;>(try simp only[wS] at hh))
   |with_reducible refine lnI fun hln=>?_
   |with_reducible refine iA ?_ ?_
   |fail)<;>(conv=>whnf)))
  all_goals (try (show _=_;simp only[wQ]))
  all_goals first|rfl|(exfalso;omega)|skip
 have hA2:A.length≤10000:=by omega
 by_cases hset:Dt ⟨l,k⟩=true
 ·obtain⟨⟨hl1,hl2⟩,⟨hk1,hk2⟩,hs,hn⟩:=Np hset
  have hjn:=nL ⟨hk1,hk2⟩
  (conv=>whnf)
  (repeat' ((first
   |with_reducible exact⟨⟩
   |((with_reducible refine aI ?_ ?_);focus (simp only[Aq,ty5,A0,List.length_append,List.length_cons,List.length_nil,List.toList_toArray];first|omega|(refine⟨?_,?_⟩<;>omega)))
   |(split<;>rename_i hh<;>(try simp only[wS] at hh))
   |with_reducible refine lnI fun hln=>?_
   |fail)<;>(conv=>whnf)))
  all_goals try (exfalso;omega)
  refine⟨(⟨l,k⟩:Setup),True.intro,?_,?_⟩
  ·exact Ac _
  (conv=>whnf)
  (repeat' ((first
   |(with_reducible refine Ao ?_)
   |(exact absurd (hset.symm.trans (by with_reducible assumption)) Bool.true_eq_false.mp)
   |((with_reducible refine aI ?_ ?_);focus (with_reducible exact⟨⟩))
   |(split<;>rename_i hh<;>(try simp only[wS] at hh))
   |fail)<;>(conv=>whnf)))
  refine⟨⟨by omega,fun e he=>by rcases(by omega:e=0∨e=1) with rfl|rfl<;>rfl⟩,?_⟩
  refine⟨((Nx k,[32]):List (List UInt8) × List UInt8),⟨Nat.le_trans hjn (by decide),(nB rfl)⟩,?_,?_⟩
  ·(conv=>whnf)
   (repeat' ((first|with_reducible exact⟨⟩|((with_reducible refine aI ?_ ?_);focus (exact tA))|with_reducible refine iA ?_ ?_|fail)<;>(conv=>whnf)))
   all_goals (try simp only[wQ])
   exact⟨fun h=>h,fun e he=>by have he:e<2:=he;rcases(by omega:e=0∨e=1) with rfl|rfl<;>rfl⟩
  (conv=>whnf)
  (repeat' ((first
   |(with_reducible refine Ao ?_)
   |(exact absurd hh (by rw[List.length_append];exact Nat.succ_ne_zero _))
   |((with_reducible refine aI ?_ ?_);focus (simp only[Aq,ty5,A0,List.length_append,List.length_cons,List.length_nil,List.toList_toArray];first|omega|(refine⟨?_,?_⟩<;>omega)))
   |((with_reducible refine aI ?_ ?_);focus (decide))
   |(split<;>rename_i hh<;>(try simp only[wS] at hh))
   |with_reducible refine lnI fun hln=>?_
   |fail)<;>(conv=>whnf)))
  refine⟨?_,fun(x:Nat × List UInt8) hx=>?_⟩
  ·(conv=>whnf)
   refine⟨((0,Lib.join (Nx k) [32]++[10]):Nat × List UInt8),[3],?_,⟨⟨rfl,(nB rfl),rfl⟩,?_,?_⟩⟩
   ·exact⟨Nat.zero_le _,by unfold Jp;simp,by show(Lib.join (Nx k) [32]++[10]).length≤_;simp only[List.length_append,List.length_cons,List.length_nil];omega⟩
   ·exact tL
   ·(conv=>whnf)
    (repeat' ((first|with_reducible exact⟨⟩|((with_reducible refine aI ?_ ?_);focus (exact tA))|with_reducible refine iA ?_ ?_|with_reducible refine iL ?_ ?_|with_reducible refine iB ?_ ?_|fail)<;>(conv=>whnf)))
    all_goals (try simp only[wQ])
    all_goals first|exact⟨True.intro,.inl True.intro⟩|exact⟨⟨(by first|rfl|exact True.intro),Nat.le_refl _,fun e he=>⟨True.intro,rfl⟩⟩,(by first|rfl|exact True.intro)⟩
  ·obtain⟨i,T⟩:=x
   obtain⟨h1,h2,h3⟩:=hx
   change i≤l.length at h1
   change T=Jp (Lib.join (Nx k) [32]::(l.take i).map (fun x=>Lib.join (Ex x) [32])) at h2
   change T.length≤301+i*301 at h3
   by_cases hi:i<l.length
   ·have hj:=aN (hs (l.getD i default) (by rw[List.getD_eq_getElem?_getD,List.getElem?_eq_getElem hi];exact List.getElem_mem _))
    have hst:=map_take (fun x=>Lib.join (Ex x) [32]) hi
    (conv=>whnf)
    (repeat' ((first
     |(with_reducible refine Ao ?_)
     |((with_reducible refine aI ?_ ?_);focus (simp only[Aq,ty5,A0,List.length_append,List.length_cons,List.length_nil,List.toList_toArray];first|omega|(refine⟨?_,?_⟩<;>omega)))
     |((with_reducible refine aI ?_ ?_);focus (first|with_reducible exact⟨⟩|exact tO))
     |(split<;>rename_i hh<;>(try simp only[wS] at hh))
     |with_reducible refine lnI fun hln=>?_
     |fail)<;>(conv=>whnf)))
    all_goals try (exfalso;omega)
    refine⟨⟨by omega,fun e he=>by rcases(by omega:e=0∨e=1∨e=2∨e=3∨e=4∨e=5∨e=6) with rfl|rfl|rfl|rfl|rfl|rfl|rfl<;>rfl⟩,?_⟩
    refine⟨((Ex (l.getD i default),[32]):List (List UInt8) × List UInt8),⟨Nat.le_trans hj (by decide),(nB rfl)⟩,?_,?_⟩
    ·(conv=>whnf)
     (repeat' ((first|with_reducible exact⟨⟩|((with_reducible refine aI ?_ ?_);focus (exact tA))|with_reducible refine iA ?_ ?_|fail)<;>(conv=>whnf)))
     all_goals (try simp only[wQ])
     exact⟨fun h=>h,fun e he=>by have he:e<7:=he;rcases(by omega:e=0∨e=1∨e=2∨e=3∨e=4∨e=5∨e=6) with rfl|rfl|rfl|rfl|rfl|rfl|rfl<;>rfl⟩
    (conv=>whnf)
    (repeat' ((first
     |(with_reducible refine Ao ?_)
     |((with_reducible refine aI ?_ ?_);focus (simp only[Aq,ty5,A0,List.length_append,List.length_cons,List.length_nil,List.toList_toArray];first|omega|(refine⟨?_,?_⟩<;>omega)))
     |((with_reducible refine aI ?_ ?_);focus (refine⟨Nat.le_refl _,?_,fun e he=>rfl⟩;simp only[Aq,ty5,A0,List.length_append,List.length_cons,List.length_nil,List.toList_toArray];first|omega|(refine⟨?_,?_⟩<;>omega)))
     |((with_reducible refine aI ?_ ?_);focus (first|with_reducible rfl|exact tK|decide))
     |with_reducible refine lnI fun hln=>?_
     |fail)<;>(conv=>whnf)))
    (conv=>whnf)
    refine⟨((i+1,T++(Lib.join (Ex (l.getD i default)) [32]++[10])):Nat × List UInt8),[29],?_,⟨⟨rfl,(nB rfl),rfl⟩,?_,?_⟩⟩
    ·refine⟨⟨show i+1≤l.length by omega,?_,?_⟩,show l.length - (i+1)<l.length - i by omega⟩
     ·show T++(Lib.join (Ex (l.getD i default)) [32]++[10])=Jp (Lib.join (Nx k) [32]::(l.take (i+1)).map (fun x=>Lib.join (Ex x) [32]))
      rw[hst,h2,←Ur,List.cons_append]
     ·show(T++(Lib.join (Ex (l.getD i default)) [32]++[10])).length≤301+(i+1)*301
      rw[List.length_append,List.length_append];simp only[List.length_cons,List.length_nil];omega
    ·exact tL
    ·(conv=>whnf)
     (repeat' ((first|with_reducible exact⟨⟩|((with_reducible refine aI ?_ ?_);focus (exact tA))|with_reducible refine iA ?_ ?_|with_reducible refine iL ?_ ?_|with_reducible refine iB ?_ ?_|fail)<;>(conv=>whnf)))
     all_goals (try simp only[wQ])
     ·exact⟨by simp only[List.length_append],.inl True.intro⟩
     ·exact⟨⟨(by first|rfl|exact True.intro),Nat.le_of_eq (by simp only[List.length_append]),fun e he=>⟨Apk rfl (fun _ _=>rfl) e (by simpa only[List.length_append] using he),rfl⟩⟩,rfl⟩
   ·have hie:i=l.length:=by omega
    have hT:T=Jp (Jw ⟨l,k⟩):=by rw[h2,hie,List.take_length];unfold Jw;rfl
    have hTl:T.length≤2000:=by omega
    clear h2 h3
    (conv=>whnf)
    (repeat' ((first
     |(with_reducible refine Ao ?_)
     |((with_reducible refine aI ?_ ?_);focus (simp only[Aq,ty5,A0,List.length_append,List.length_cons,List.length_nil,List.toList_toArray];first|omega|(refine⟨?_,?_⟩<;>omega)))
     |((with_reducible refine aI ?_ ?_);focus (with_reducible exact⟨⟩))
     |(split<;>rename_i hh<;>(try simp only[wS] at hh))
     |with_reducible refine lnI fun hln=>?_
     |fail)<;>(conv=>whnf)))
    all_goals try (exfalso;omega)
    refine⟨?_,fun(x:Nat × List UInt8) hx=>?_⟩
    ·(conv=>whnf)
     refine⟨((0,T):Nat × List UInt8),[4],?_,⟨⟨rfl,(nB rfl),rfl⟩,?_,?_⟩⟩
     ·exact⟨⟨Nat.zero_le _,fun j hj=>absurd hj (Nat.not_lt_zero _)⟩,by show T=_;rw[hT,List.take_zero,List.map_nil,List.append_nil],Nat.le_trans hTl (Nat.le_add_right _ _)⟩
     ·exact tL
     ·(conv=>whnf)
      (repeat' ((first|with_reducible exact⟨⟩|((with_reducible refine Or.inr ?_);rfl)|((with_reducible refine aI ?_ ?_);focus (exact tA))|with_reducible refine iA ?_ ?_|with_reducible refine iL ?_ ?_|with_reducible refine iB ?_ ?_|fail)<;>(conv=>whnf)))
      all_goals (try simp only[wQ])
      all_goals exact⟨⟨(by first|rfl|exact True.intro),Nat.le_refl _,fun e he=>⟨True.intro,rfl⟩⟩,(by first|rfl|exact True.intro)⟩
    ·obtain⟨i,T⟩:=x
     obtain⟨⟨h1,hmj⟩,h2,h3⟩:=hx
     change i≤A.length at h1
     change ∀ j,j<i→Af (A.getD j default)=true at hmj
     change T=Jp (Jw ⟨l,k⟩++(A.take i).map Bt) at h2
     change T.length≤2000+i*1000001 at h3
     by_cases hi:i<A.length
     ·have hsi:=hsh i hi
      have hst:=map_take Bt hi
      by_cases hmi:Af (A.getD i default)=true
      ·have hal:=nJ (hfa i hi) hmi
       (conv=>whnf)
       (repeat' ((first
        |with_reducible exact⟨⟩
        |((with_reducible refine aI ?_ ?_);focus (simp only[Aq,ty5,A0,List.length_append,List.length_cons,List.length_nil,List.toList_toArray];first|omega|(refine⟨?_,?_⟩<;>omega)))
        |(split<;>rename_i hh<;>(try simp only[wS] at hh))
        |fail)<;>(conv=>whnf)))
       all_goals try (exfalso;omega)
       refine⟨(A.getD i default:Act),hsi,?_,?_⟩
       ·exact Ac _
       (conv=>whnf)
       (repeat' ((first
        |with_reducible exact⟨⟩
        |((with_reducible refine aI ?_ ?_);focus (with_reducible rfl))
        |(split<;>rename_i hh<;>(try simp only[wS] at hh))
        |with_reducible refine iA ?_ ?_
        |fail)<;>(conv=>whnf)))
       all_goals (try (show _=_;simp only[wQ]))
       all_goals try (exact absurd (hmi.symm.trans (by assumption)) Bool.true_eq_false.mp)
       refine⟨(A.getD i default:Act),hsi,?_,?_⟩
       ·exact Ac _
       (conv=>whnf)
       (repeat' ((first
        |(with_reducible refine Ao ?_)
        |fail)<;>(conv=>whnf)))
       refine⟨⟨by omega,fun e he=>by obtain rfl:e=0:=(by omega);rfl⟩,?_⟩
       refine⟨(([Bt (A.getD i default)],[32]):List (List UInt8) × List UInt8),⟨by show(Lib.join [Bt (A.getD i default)] [32]).length≤_;rw[Lib.join_one];omega,(nB rfl)⟩,?_,?_⟩
       ·(conv=>whnf)
        (repeat' ((first|with_reducible exact⟨⟩|((with_reducible refine aI ?_ ?_);focus (exact tA))|with_reducible refine iA ?_ ?_|fail)<;>(conv=>whnf)))
        all_goals (try simp only[wQ])
        exact⟨fun h=>h,fun e he=>by have he:e<1:=he;obtain rfl:e=0:=(by omega);rfl⟩
       have hj1:(Lib.join [Bt (A.getD i default)] [32]).length≤1000000:=by rw[Lib.join_one];exact hal
       (conv=>whnf)
       (repeat' ((first
        |(with_reducible refine Ao ?_)
        |((with_reducible refine aI ?_ ?_);focus (simp only[Aq,ty5,A0,List.length_append,List.length_cons,List.length_nil,List.toList_toArray];first|omega|(refine⟨?_,?_⟩<;>omega)))
        |((with_reducible refine aI ?_ ?_);focus (refine⟨Nat.le_refl _,?_,fun e he=>rfl⟩;simp only[Aq,ty5,A0,List.length_append,List.length_cons,List.length_nil,List.toList_toArray];first|omega|(refine⟨?_,?_⟩<;>omega)))
        |((with_reducible refine aI ?_ ?_);focus (first|with_reducible rfl|exact tK|decide))
        |with_reducible refine lnI fun hln=>?_
        |fail)<;>(conv=>whnf)))
       (conv=>whnf)
       refine⟨((i+1,T++(Lib.join [Bt (A.getD i default)] [32]++[10])):Nat × List UInt8),[8],?_,⟨⟨rfl,(nB rfl),rfl⟩,?_,?_⟩⟩
       ·refine⟨⟨⟨show i+1≤A.length by omega,fun j hj=>?_⟩,?_,?_⟩,show A.length - (i+1)<A.length - i by omega⟩
        ·rcases Nat.lt_or_ge j i with h|h
         ·exact hmj j h
         ·obtain rfl:j=i:=by have hj:j<i+1:=hj;omega
          exact hmi
        ·show T++(Lib.join [Bt (A.getD i default)] [32]++[10])=Jp (Jw ⟨l,k⟩++(A.take (i+1)).map Bt)
         rw[hst,h2,Lib.join_one,←Ur,List.append_assoc]
        ·show(T++(Lib.join [Bt (A.getD i default)] [32]++[10])).length≤2000+(i+1)*1000001
         rw[List.length_append,List.length_append];simp only[List.length_cons,List.length_nil];omega
       ·exact tL
       ·(conv=>whnf)
        (repeat' ((first|with_reducible exact⟨⟩|((with_reducible refine aI ?_ ?_);focus (exact tA))|with_reducible refine iA ?_ ?_|with_reducible refine iL ?_ ?_|with_reducible refine iB ?_ ?_|fail)<;>(conv=>whnf)))
        all_goals (try simp only[wQ])
        ·exact⟨by simp only[List.length_append],.inl True.intro⟩
        ·exact⟨⟨(by first|rfl|exact True.intro),Nat.le_of_eq (by simp only[List.length_append]),fun e he=>⟨Apk rfl (fun _ _=>rfl) e (by simpa only[List.length_append] using he),rfl⟩⟩,rfl⟩
      ·cases hq.symm.trans (xQ hA2 hi hmi)
       (conv=>whnf)
       (repeat' ((first
        |with_reducible exact⟨⟩
        |((with_reducible refine aI ?_ ?_);focus (simp only[Aq,ty5,A0,List.length_append,List.length_cons,List.length_nil,List.toList_toArray];first|omega|(refine⟨?_,?_⟩<;>omega)))
        |(split<;>rename_i hh<;>(try simp only[wS] at hh))
        |fail)<;>(conv=>whnf)))
       all_goals try (exfalso;omega)
       refine⟨(A.getD i default:Act),hsi,?_,?_⟩
       ·exact Ac _
       (conv=>whnf)
       (repeat' ((first
        |with_reducible exact⟨⟩
        |((with_reducible refine aI ?_ ?_);focus (with_reducible rfl))
        |(split<;>rename_i hh<;>(try simp only[wS] at hh))
        |with_reducible refine iA ?_ ?_
        |fail)<;>(conv=>whnf)))
       all_goals (try (show _=_;simp only[wQ]))
       all_goals first|rfl|exact absurd (by assumption) hmi|skip
     ·have hie:i=A.length:=by omega
      cases hq.symm.trans (nN hA2 hset (fun j hj=>hmj j (by omega)))
      have hfin:bytesOf T.length (Ll T)=scW ⟨l,k⟩ A:=by unfold scW scL;rw[show bytesOf T.length (Ll T)=T from bG T,h2,hie,List.take_length]
      have hpos:0<T.length:=by rw[h2];unfold Jw Jp;simp;omega
      (conv=>whnf)
      (repeat' ((first
       |((with_reducible refine aI ?_ ?_);focus (simp only[Aq,ty5,A0,List.length_append,List.length_cons,List.length_nil,List.toList_toArray];first|omega|(refine⟨?_,?_⟩<;>omega)))
       |(split<;>rename_i hh<;>(try simp only[wS] at hh))
       |fail)<;>(conv=>whnf)))
      all_goals try (exfalso;omega)
      refine⟨⟨rfl,hpos,Nat.le_refl _,fun e he=>rfl⟩,?_⟩
      (conv=>whnf)
      (repeat' ((first
       |with_reducible exact⟨⟩
       |((with_reducible refine aI ?_ ?_);focus (with_reducible rfl))
       |with_reducible refine iA ?_ ?_
       |fail)<;>(conv=>whnf)))
      all_goals (try (show _=_;simp only[wQ]))
      all_goals first|exact hfin|rfl|skip
 ·cases hq.symm.trans (xP hA2 hset)
  (conv=>whnf)
  (repeat' ((first
   |with_reducible exact⟨⟩
   |((with_reducible refine aI ?_ ?_);focus (simp only[Aq,ty5,A0,List.length_append,List.length_cons,List.length_nil,List.toList_toArray];first|omega|(refine⟨?_,?_⟩<;>omega)))
   |(split<;>rename_i hh<;>(try simp only[wS] at hh))
   |with_reducible refine lnI fun hln=>?_
   |fail)<;>(conv=>whnf)))
  all_goals try (exfalso;omega)
  refine⟨(⟨l,k⟩:Setup),True.intro,?_,?_⟩
  ·exact Ac _
  (conv=>whnf)
  (repeat' ((first
   |with_reducible exact⟨⟩
   |(exact absurd (by with_reducible assumption) hset)
   |((with_reducible refine aI ?_ ?_);focus (with_reducible rfl))
   |(split<;>rename_i hh<;>(try simp only[wS] at hh))
   |with_reducible refine iA ?_ ?_
   |fail)<;>(conv=>whnf)))
  all_goals (try (show _=_;simp only[wQ]))
  all_goals first|rfl|skip
end
end Go.Vc.Z
