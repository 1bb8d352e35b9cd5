/- script.Script: the script of a setup and acts that may be. -/
import Derived.Test.YtpmpclbdnakniaaGreatDoorV26
import Derived.Test.YtpmpclbdnakniaaGreatDoorV41
import Derived.Test.YtpmpclbdnakniaaGreatDoorV42
set_option linter.all false
set_option linter.unusedVariables false
set_option linter.unusedSimpArgs false
namespace Go.Vc.Z
open Go Go.Vc Go.Proofs Go.RowKit Go.Pl Go.Lib
theorem Abk{s:Site}(h:G8 s=true):(0≤s.carrier∧s.carrier≤999)∧(0≤s.first∧s.first≤999999999)∧(0≤s.count∧s.count≤1000000000)∧(0≤s.sectors∧s.sectors≤4000)∧(0≤s.pages∧s.pages≤1000)∧(0≤s.frames∧s.frames≤100):=by
 unfold G8 Re Q7 I9 at h
 simp only[Bool.and_eq_true,decide_eq_true_eq] at h
 omega
theorem Nx{n:Int}(h:0≤n∧n≤1000000000):(Lib.itoa n).length≤32:=Dd n (by omega) (by omega)
theorem Cu{s:Site}(h:G8 s=true):(Lib.join (A8 s) [32]).length≤300:=by
 obtain⟨h1,h2,h3,h4,h5,h6⟩:=Abk h
 have l1:=Nx (n:=s.carrier) (by omega)
 have l2:=Nx (n:=s.first) (by omega)
 have l3:=Nx (n:=s.count) (by omega)
 have l4:=Nx (n:=s.sectors) (by omega)
 have l5:=Nx (n:=s.pages) (by omega)
 have l6:=Nx (n:=s.frames) (by omega)
 unfold A8
 simp[Lib.join]
 omega
theorem S6{k:Int}(h:1≤k∧k≤64):(Lib.join (Ep k) [32]).length≤300:=by
 have l1:=Nx (n:=k) (by omega)
 unfold Ep
 rw[Agy]
 simp only[List.length_cons,List.length_nil];omega
theorem Dr{n:Nat}{g:Nat→List AV}{l T:List UInt8}(hn:n=T.length)(hg:∀ e,e<n→g e=Dz T e):∀ e,e<n+l.length→Bu n g (Dz l) e=Dz (T++l) e:=by
 intro e he
 subst hn
 unfold Bu
 split
 ·rename_i h
  rw[hg e h]
  unfold Dz
  simp[List.getD_eq_getElem?_getD,List.getElem?_append_left h]
 ·rename_i h
  unfold Dz
  simp[List.getD_eq_getElem?_getD,List.getElem?_append_right (Nat.le_of_not_lt h)]
theorem G9(L:List (List UInt8))(w:List UInt8):D4 (L++[w])=D4 L++(w++[10]):=by unfold D4;simp
theorem Ha{a:Act}(h:Am a=true):E1 a.request:=by
 rcases En h with k|k|k|k|k
 ·exact P7 (Mz k h).2.1
 ·exact short_zero (S0 k h).2.2.1
 ·exact short_zero (M0 k h).2.2.1
 ·exact short_zero (Pf k h).2.2.1
 ·exact short_zero (cC k h).2.1
theorem Ahf{A:List Act}{y:AV}(h:Bl [y,slE 17 Act.enc A]){i:Nat}(hi:i<A.length):Bl [.agg (A.getD i default).enc]:=by
 obtain⟨_,⟨_,h2⟩,_⟩:=h
 exact⟨(h2 i hi).2,True.intro⟩
noncomputable section
set_option maxRecDepth 100000
attribute [local irreducible] inK Utf8.decode Utf8.encode Lib.itoa Pl.worth Pl.allDig
attribute [local irreducible] Lib.join Br Aa
def hSc(n0:Nat)(T:List UInt8):List Blk:=.dead:: .var [.ptr 1 0,.osl n0 1 0 T.length none] (some 152)::(List.replicate (n0 - 2) .dead++[.row 1 T.length (Dz T) (some 5)])
def LSc(s:Setup)(A:List Act):LoopSpec:={
 α:=Nat × List UInt8
 keep:=[6,7,59,60,61]
 vals x:=[.ptr 1 0,.fn 100 [.ptr 1 0],slE 17 Act.enc A,.int .i64 A.length,.int .i64 x.1]
 heap x:=hSc (4+25*s.sites.length) x.2
 ok x:=x.1≤A.length∧x.2=D4 (C1 s++(A.take x.1).map Au)∧x.2.length≤2000+x.1*1000001
 μ x:=A.length - x.1 }
def Ahg:PC:=PC.of (fun x:Setup × List Act=>[.agg x.1.enc,slE 17 Act.enc x.2]) (fun x=>Et x.1=true∧x.2.length≤10000∧∀ i,i<x.2.length→Am (x.2.getD i default)=true) (fun x=>.tup [.str (sS (scW x.1 x.2)),.int .i64 0])
def C6:PT:=D1 [(34,Us),(36,Sz),(46,Iw),(62,Nf),(99,Af6)]
theorem D7{W:World}(hW:Tabs W):Dj (Fw W) Tryz.prog C6:=(Ae Tryz.call34 (nT hW) (Ae Tryz.call36 (cB hW) (Ae Tryz.call46 (Ei hW) (Ae Tryz.call62 (Jx hW) (Ae Tryz.call99 (vV hW) A6)))))
def N5:FuncId→Option Ctr:=Av C6 [(102,Kg),(182,Ie)]
theorem N6{W:World}(hW:Tabs W):Ad (Fw W) Tryz.prog N5:=(Ab Tryz.call102 Oy (Ab Tryz.call182 Qk (A7 (D7 hW))))
def M2:List (FuncId × Ctr):=(101,inl TY N5 C6 (fun _=>false) (fun _ _ _=>none) Tryz.f101)::[(102,Kg),(182,Ie)]
def M3:FuncId→Option Ctr:=Av C6 M2
theorem M4{W:World}(hW:Tabs W):Ad (Fw W) Tryz.prog M3:=Ab Tryz.call101 (Af rfl Aq (D7 hW) (N6 hW) Tryz.func101 (fun _ _ _=>none)) (N6 hW)
def Uv:List (FuncId × Ctr):=(100,inl TY M3 C6 (fun _=>false) (fun _ _ _=>none) Tryz.f100)::M2
def C8:FuncId→Option Ctr:=Av C6 Uv
theorem Ge{W:World}(hW:Tabs W):Ad (Fw W) Tryz.prog C8:=Ab Tryz.call100 (Af rfl Aq (D7 hW) (M4 hW) Tryz.func100 (fun _ _ _=>none)) (M4 hW)
def Wo:Setup × List Act→Nat→Option LR:=fun x i=>cond (Nat.beq i 9) (some (.unroll 5)) (cond (Nat.beq i 14) (some (.inv (LSc x.1 x.2))) (none))
set_option maxHeartbeats 4000000 in
theorem Wp{W:World}(hW:Tabs W):GoodP (Fw W) Tryz.prog 39 Ahg:=by
 have hD:=D7 hW
 have hC0:∀ x:Setup × List Act,Ad (Fw W) Tryz.prog C8:=fun x=>(Ge hW)
 refine Ax (D:=C6) (C:=fun x=>C8) (wr:=(fun _=>false)) rfl Aq hD hC0 Tryz.func39 (Wo) (fun _=>rfl) ?_
 rintro⟨⟨l,k⟩,A⟩ hf hp
 have hfa:=fun i hi=>Ahf hf (A:=A) (i:=i) hi
 clear hf
 obtain⟨hp,hA,hm⟩:=hp
 have hp0:=hp
 have hA2:A.length≤10000:=hA
 have hm2:∀ i,i<A.length→Am (A.getD i default)=true:=hm
 obtain⟨⟨hl1,hl2⟩,⟨hk1,hk2⟩,hs,hn⟩:=K0 hp
 have hjn:=S6 ⟨hk1,hk2⟩
 rcases l with _|⟨a,_|⟨b,_|⟨c,_|⟨d,_|⟨e,l⟩⟩⟩⟩⟩
 ·exact absurd hl1 (by decide)
 ·have hja:=Cu (hs a (by simp))
  (conv=>whnf)
  (repeat' ((first
   |with_reducible exact⟨⟩
   |((with_reducible refine aI ?_ ?_);focus (simp only[Ag,ty5,Ap,List.length_append,List.length_cons,List.length_nil,List.toList_toArray];first|omega|(refine⟨?_,?_⟩<;>omega)))
   |(split<;>rename_i hh<;>(try simp only[wS] at hh))
   |with_reducible refine lnI fun hln=>?_
   |fail)<;>(conv=>whnf)))
  all_goals try (exfalso;omega)
  refine⟨(⟨[a],k⟩:Setup),hp0,?_,?_⟩
  ·exact Aj _
  (conv=>whnf)
  (repeat' ((first
   |with_reducible exact⟨⟩
   |(with_reducible refine Ac ?_)
   |((with_reducible refine aI ?_ ?_);focus (first|with_reducible exact⟨⟩|with_reducible rfl))
   |(split<;>rename_i hh<;>(try simp only[wS] at hh))
   |with_reducible refine iA ?_ ?_
   |fail)<;>(conv=>whnf)))
  all_goals (try (show _=_;simp only[wQ]))
  all_goals try (exact absurd (show false=true by assumption) Bool.false_ne_true)
  refine⟨⟨by omega,fun e he=>by rcases(by omega:e=0∨e=1) with rfl|rfl<;>rfl⟩,?_⟩
  refine⟨((Ep k,[32]):List (List UInt8) × List UInt8),⟨Nat.le_trans hjn (by decide),(nB rfl)⟩,?_,?_⟩
  ·(conv=>whnf)
   (repeat' ((first|with_reducible exact⟨⟩|((with_reducible refine aI ?_ ?_);focus (exact tA))|with_reducible refine iA ?_ ?_|fail)<;>(conv=>whnf)))
   all_goals (try simp only[wQ])
   exact⟨fun h=>h,fun e he=>by have he:e<2:=he;rcases(by omega:e=0∨e=1) with rfl|rfl<;>rfl⟩
  (conv=>whnf)
  (repeat' ((first
   |(with_reducible refine Ac ?_)
   |(exact absurd hh (by rw[List.length_append];exact Nat.succ_ne_zero _))
   |((with_reducible refine aI ?_ ?_);focus (simp only[Ag,ty5,Ap,List.length_append,List.length_cons,List.length_nil,List.toList_toArray];first|omega|(refine⟨?_,?_⟩<;>omega)))
   |((with_reducible refine aI ?_ ?_);focus (first|with_reducible exact⟨⟩|exact tO|decide))
   |(split<;>rename_i hh<;>(try simp only[wS] at hh))
   |with_reducible refine lnI fun hln=>?_
   |fail)<;>(conv=>whnf)))
  refine⟨⟨by omega,fun e he=>by rcases(by omega:e=0∨e=1∨e=2∨e=3∨e=4∨e=5∨e=6) with rfl|rfl|rfl|rfl|rfl|rfl|rfl<;>rfl⟩,?_⟩
  refine⟨((A8 a,[32]):List (List UInt8) × List UInt8),⟨Nat.le_trans hja (by decide),(nB rfl)⟩,?_,?_⟩
  ·(conv=>whnf)
   (repeat' ((first|with_reducible exact⟨⟩|((with_reducible refine aI ?_ ?_);focus (exact tA))|with_reducible refine iA ?_ ?_|fail)<;>(conv=>whnf)))
   all_goals (try simp only[wQ])
   exact⟨fun h=>h,fun e he=>by have he:e<7:=he;rcases(by omega:e=0∨e=1∨e=2∨e=3∨e=4∨e=5∨e=6) with rfl|rfl|rfl|rfl|rfl|rfl|rfl<;>rfl⟩
  (conv=>whnf)
  (repeat' ((first
   |(with_reducible refine Ac ?_)
   |((with_reducible refine aI ?_ ?_);focus (simp only[Ag,ty5,Ap,List.length_append,List.length_cons,List.length_nil,List.toList_toArray];first|omega|(refine⟨?_,?_⟩<;>omega)))
   |((with_reducible refine aI ?_ ?_);focus (refine⟨Nat.le_refl _,?_,fun e he=>rfl⟩;simp only[Ag,ty5,Ap,List.length_append,List.length_cons,List.length_nil,List.toList_toArray];first|omega|(refine⟨?_,?_⟩<;>omega)))
   |((with_reducible refine aI ?_ ?_);focus (first|with_reducible rfl|exact tK|decide))
   |with_reducible refine lnI fun hln=>?_
   |fail)<;>(conv=>whnf)))
  have hT:D4 (C1 ⟨[a],k⟩++(A.take 0).map Au)=((Lib.join (Ep k) [32]++[10])++(Lib.join (A8 a) [32]++[10])):=by unfold C1 D4;simp
  refine⟨?_,fun(x:Nat × List UInt8) hx=>?_⟩
  ·(conv=>whnf)
   refine⟨((0,((Lib.join (Ep k) [32]++[10])++(Lib.join (A8 a) [32]++[10]))):Nat × List UInt8),[28],?_,⟨⟨rfl,(nB rfl),rfl⟩,?_,?_⟩⟩
   ·exact⟨Nat.zero_le _,hT.symm,by show((Lib.join (Ep k) [32]++[10])++(Lib.join (A8 a) [32]++[10])).length≤_;simp only[List.length_append,List.length_cons,List.length_nil];omega⟩
   ·exact tL
   ·(conv=>whnf)
    (repeat' ((first|with_reducible exact⟨⟩|((with_reducible refine aI ?_ ?_);focus (exact tA))|with_reducible refine iA ?_ ?_|with_reducible refine iL ?_ ?_|with_reducible refine iB ?_ ?_|fail)<;>(conv=>whnf)))
    all_goals (try simp only[wQ])
    ·exact⟨by simp only[List.length_append],.inl True.intro⟩
    ·exact⟨⟨rfl,Nat.le_of_eq (by simp only[List.length_append]),fun e he=>⟨Dr rfl (fun _ _=>rfl) e (by simpa only[List.length_append] using he),rfl⟩⟩,rfl⟩
  ·obtain⟨i,T⟩:=x
   obtain⟨h1,h2,h3⟩:=hx
   change i≤A.length at h1
   change T=D4 (C1 ⟨[a],k⟩++(A.take i).map Au) at h2
   change T.length≤2000+i*1000001 at h3
   by_cases hi:i<A.length
   ·have hmi:=hm2 i hi
    have hsh:=Ha hmi
    have hst:(A.take (i+1)).map Au=(A.take i).map Au++[Au (A.getD i default)]:=by rw[List.take_add_one,List.getElem?_eq_getElem hi,List.map_append,List.getD_eq_getElem?_getD,List.getElem?_eq_getElem hi];rfl
    have hal:=S4 (hfa i hi) hmi
    (conv=>whnf)
    (repeat' ((first
     |with_reducible exact⟨⟩
     |((with_reducible refine aI ?_ ?_);focus (simp only[Ag,ty5,Ap,List.length_append,List.length_cons,List.length_nil,List.toList_toArray];first|omega|(refine⟨?_,?_⟩<;>omega)))
     |(split<;>rename_i hh<;>(try simp only[wS] at hh))
     |fail)<;>(conv=>whnf)))
    all_goals try (exfalso;omega)
    refine⟨(A.getD i default:Act),hsh,?_,?_⟩
    ·exact Aj _
    (conv=>whnf)
    (repeat' ((first
     |with_reducible exact⟨⟩
     |((with_reducible refine aI ?_ ?_);focus (with_reducible rfl))
     |(split<;>rename_i hh<;>(try simp only[wS] at hh))
     |with_reducible refine iA ?_ ?_
     |fail)<;>(conv=>whnf)))
    all_goals (try (show _=_;simp only[wQ]))
    all_goals try (exact absurd (hmi.symm.trans (by assumption)) Bool.true_eq_false.mp)
    refine⟨(A.getD i default:Act),hsh,?_,?_⟩
    ·exact Aj _
    (conv=>whnf)
    (repeat' ((first
     |(with_reducible refine Ac ?_)
     |fail)<;>(conv=>whnf)))
    refine⟨⟨by omega,fun e he=>by obtain rfl:e=0:=(by omega);rfl⟩,?_⟩
    refine⟨(([Au (A.getD i default)],[32]):List (List UInt8) × List UInt8),⟨by show(Lib.join [Au (A.getD i default)] [32]).length≤_;rw[Lib.join_one];omega,(nB rfl)⟩,?_,?_⟩
    ·(conv=>whnf)
     (repeat' ((first|with_reducible exact⟨⟩|((with_reducible refine aI ?_ ?_);focus (exact tA))|with_reducible refine iA ?_ ?_|fail)<;>(conv=>whnf)))
     all_goals (try simp only[wQ])
     exact⟨fun h=>h,fun e he=>by have he:e<1:=he;obtain rfl:e=0:=(by omega);rfl⟩
    have hj1:(Lib.join [Au (A.getD i default)] [32]).length≤1000000:=by rw[Lib.join_one];exact hal
    (conv=>whnf)
    (repeat' ((first
     |(with_reducible refine Ac ?_)
     |((with_reducible refine aI ?_ ?_);focus (simp only[Ag,ty5,Ap,List.length_append,List.length_cons,List.length_nil,List.toList_toArray];first|omega|(refine⟨?_,?_⟩<;>omega)))
     |((with_reducible refine aI ?_ ?_);focus (refine⟨Nat.le_refl _,?_,fun e he=>rfl⟩;simp only[Ag,ty5,Ap,List.length_append,List.length_cons,List.length_nil,List.toList_toArray];first|omega|(refine⟨?_,?_⟩<;>omega)))
     |((with_reducible refine aI ?_ ?_);focus (first|with_reducible rfl|exact tK|decide))
     |with_reducible refine lnI fun hln=>?_
     |fail)<;>(conv=>whnf)))
    (conv=>whnf)
    refine⟨((i+1,T++(Lib.join [Au (A.getD i default)] [32]++[10])):Nat × List UInt8),[32],?_,⟨⟨rfl,(nB rfl),rfl⟩,?_,?_⟩⟩
    ·refine⟨⟨show i+1≤A.length by omega,?_,?_⟩,show A.length - (i+1)<A.length - i by omega⟩
     ·show T++(Lib.join [Au (A.getD i default)] [32]++[10])=D4 (C1 ⟨[a],k⟩++(A.take (i+1)).map Au)
      rw[hst,h2,Lib.join_one,←G9,List.append_assoc]
     ·show(T++(Lib.join [Au (A.getD i default)] [32]++[10])).length≤2000+(i+1)*1000001
      rw[List.length_append,List.length_append];simp only[List.length_cons,List.length_nil];omega
    ·exact tL
    ·(conv=>whnf)
     (repeat' ((first|with_reducible exact⟨⟩|((with_reducible refine aI ?_ ?_);focus (exact tA))|with_reducible refine iA ?_ ?_|with_reducible refine iL ?_ ?_|with_reducible refine iB ?_ ?_|fail)<;>(conv=>whnf)))
     all_goals (try simp only[wQ])
     ·exact⟨by simp only[List.length_append],.inl True.intro⟩
     ·exact⟨⟨(by first|rfl|exact True.intro),Nat.le_of_eq (by simp only[List.length_append]),fun e he=>⟨Dr rfl (fun _ _=>rfl) e (by simpa only[List.length_append] using he),rfl⟩⟩,rfl⟩
   ·have hie:i=A.length:=by omega
    have hfin:bytesOf T.length (Dz T)=scW ⟨[a],k⟩ A:=by unfold scW scL;rw[show bytesOf T.length (Dz T)=T from El T,h2,hie,List.take_length]
    have hpos:0<T.length:=by rw[h2];unfold C1 D4;simp;omega
    (conv=>whnf)
    (repeat' ((first
     |((with_reducible refine aI ?_ ?_);focus (simp only[Ag,ty5,Ap,List.length_append,List.length_cons,List.length_nil,List.toList_toArray];first|omega|(refine⟨?_,?_⟩<;>omega)))
     |(split<;>rename_i hh<;>(try simp only[wS] at hh))
     |fail)<;>(conv=>whnf)))
    all_goals try (exfalso;omega)
    refine⟨⟨rfl,hpos,Nat.le_refl _,fun e he=>rfl⟩,?_⟩
    (conv=>whnf)
    (repeat' ((first
     |with_reducible exact⟨⟩
     |((with_reducible refine aI ?_ ?_);focus (with_reducible rfl))
     |with_reducible refine iA ?_ ?_
     |fail)<;>(conv=>whnf)))
    all_goals (try (show _=_;simp only[wQ]))
    all_goals first|exact hfin|rfl|skip
 ·have hja:=Cu (hs a (by simp))
  have hjb:=Cu (hs b (by simp))
  (conv=>whnf)
  (repeat' ((first
   |with_reducible exact⟨⟩
   |((with_reducible refine aI ?_ ?_);focus (simp only[Ag,ty5,Ap,List.length_append,List.length_cons,List.length_nil,List.toList_toArray];first|omega|(refine⟨?_,?_⟩<;>omega)))
   |(split<;>rename_i hh<;>(try simp only[wS] at hh))
   |with_reducible refine lnI fun hln=>?_
   |fail)<;>(conv=>whnf)))
  all_goals try (exfalso;omega)
  refine⟨(⟨[a,b],k⟩:Setup),hp0,?_,?_⟩
  ·exact Aj _
  (conv=>whnf)
  (repeat' ((first
   |with_reducible exact⟨⟩
   |(with_reducible refine Ac ?_)
   |((with_reducible refine aI ?_ ?_);focus (first|with_reducible exact⟨⟩|with_reducible rfl))
   |(split<;>rename_i hh<;>(try simp only[wS] at hh))
   |with_reducible refine iA ?_ ?_
   |fail)<;>(conv=>whnf)))
  all_goals (try (show _=_;simp only[wQ]))
  all_goals try (exact absurd (show false=true by assumption) Bool.false_ne_true)
  refine⟨⟨by omega,fun e he=>by rcases(by omega:e=0∨e=1) with rfl|rfl<;>rfl⟩,?_⟩
  refine⟨((Ep k,[32]):List (List UInt8) × List UInt8),⟨Nat.le_trans hjn (by decide),(nB rfl)⟩,?_,?_⟩
  ·(conv=>whnf)
   (repeat' ((first|with_reducible exact⟨⟩|((with_reducible refine aI ?_ ?_);focus (exact tA))|with_reducible refine iA ?_ ?_|fail)<;>(conv=>whnf)))
   all_goals (try simp only[wQ])
   exact⟨fun h=>h,fun e he=>by have he:e<2:=he;rcases(by omega:e=0∨e=1) with rfl|rfl<;>rfl⟩
  (conv=>whnf)
  (repeat' ((first
   |(with_reducible refine Ac ?_)
   |(exact absurd hh (by rw[List.length_append];exact Nat.succ_ne_zero _))
   |((with_reducible refine aI ?_ ?_);focus (simp only[Ag,ty5,Ap,List.length_append,List.length_cons,List.length_nil,List.toList_toArray];first|omega|(refine⟨?_,?_⟩<;>omega)))
   |((with_reducible refine aI ?_ ?_);focus (first|with_reducible exact⟨⟩|exact tO|decide))
   |(split<;>rename_i hh<;>(try simp only[wS] at hh))
   |with_reducible refine lnI fun hln=>?_
   |fail)<;>(conv=>whnf)))
  refine⟨⟨by omega,fun e he=>by rcases(by omega:e=0∨e=1∨e=2∨e=3∨e=4∨e=5∨e=6) with rfl|rfl|rfl|rfl|rfl|rfl|rfl<;>rfl⟩,?_⟩
  refine⟨((A8 a,[32]):List (List UInt8) × List UInt8),⟨Nat.le_trans hja (by decide),(nB rfl)⟩,?_,?_⟩
  ·(conv=>whnf)
   (repeat' ((first|with_reducible exact⟨⟩|((with_reducible refine aI ?_ ?_);focus (exact tA))|with_reducible refine iA ?_ ?_|fail)<;>(conv=>whnf)))
   all_goals (try simp only[wQ])
   exact⟨fun h=>h,fun e he=>by have he:e<7:=he;rcases(by omega:e=0∨e=1∨e=2∨e=3∨e=4∨e=5∨e=6) with rfl|rfl|rfl|rfl|rfl|rfl|rfl<;>rfl⟩
  (conv=>whnf)
  (repeat' ((first
   |(with_reducible refine Ac ?_)
   |((with_reducible refine aI ?_ ?_);focus (simp only[Ag,ty5,Ap,List.length_append,List.length_cons,List.length_nil,List.toList_toArray];first|omega|(refine⟨?_,?_⟩<;>omega)))
   |((with_reducible refine aI ?_ ?_);focus (refine⟨Nat.le_refl _,?_,fun e he=>rfl⟩;simp only[Ag,ty5,Ap,List.length_append,List.length_cons,List.length_nil,List.toList_toArray];first|omega|(refine⟨?_,?_⟩<;>omega)))
   |((with_reducible refine aI ?_ ?_);focus (first|with_reducible exact⟨⟩|exact tO|with_reducible rfl|exact tK|decide))
   |with_reducible refine lnI fun hln=>?_
   |fail)<;>(conv=>whnf)))
  refine⟨⟨by omega,fun e he=>by rcases(by omega:e=0∨e=1∨e=2∨e=3∨e=4∨e=5∨e=6) with rfl|rfl|rfl|rfl|rfl|rfl|rfl<;>rfl⟩,?_⟩
  refine⟨((A8 b,[32]):List (List UInt8) × List UInt8),⟨Nat.le_trans hjb (by decide),(nB rfl)⟩,?_,?_⟩
  ·(conv=>whnf)
   (repeat' ((first|with_reducible exact⟨⟩|((with_reducible refine aI ?_ ?_);focus (exact tA))|with_reducible refine iA ?_ ?_|fail)<;>(conv=>whnf)))
   all_goals (try simp only[wQ])
   exact⟨fun h=>h,fun e he=>by have he:e<7:=he;rcases(by omega:e=0∨e=1∨e=2∨e=3∨e=4∨e=5∨e=6) with rfl|rfl|rfl|rfl|rfl|rfl|rfl<;>rfl⟩
  (conv=>whnf)
  (repeat' ((first
   |(with_reducible refine Ac ?_)
   |((with_reducible refine aI ?_ ?_);focus (simp only[Ag,ty5,Ap,List.length_append,List.length_cons,List.length_nil,List.toList_toArray];first|omega|(refine⟨?_,?_⟩<;>omega)))
   |((with_reducible refine aI ?_ ?_);focus (refine⟨Nat.le_refl _,?_,fun e he=>rfl⟩;simp only[Ag,ty5,Ap,List.length_append,List.length_cons,List.length_nil,List.toList_toArray];first|omega|(refine⟨?_,?_⟩<;>omega)))
   |((with_reducible refine aI ?_ ?_);focus (first|with_reducible rfl|exact tK|decide))
   |with_reducible refine lnI fun hln=>?_
   |fail)<;>(conv=>whnf)))
  have hT:D4 (C1 ⟨[a,b],k⟩++(A.take 0).map Au)=(((Lib.join (Ep k) [32]++[10])++(Lib.join (A8 a) [32]++[10]))++(Lib.join (A8 b) [32]++[10])):=by unfold C1 D4;simp
  refine⟨?_,fun(x:Nat × List UInt8) hx=>?_⟩
  ·(conv=>whnf)
   refine⟨((0,(((Lib.join (Ep k) [32]++[10])++(Lib.join (A8 a) [32]++[10]))++(Lib.join (A8 b) [32]++[10]))):Nat × List UInt8),[53],?_,⟨⟨rfl,(nB rfl),rfl⟩,?_,?_⟩⟩
   ·exact⟨Nat.zero_le _,hT.symm,by show(((Lib.join (Ep k) [32]++[10])++(Lib.join (A8 a) [32]++[10]))++(Lib.join (A8 b) [32]++[10])).length≤_;simp only[List.length_append,List.length_cons,List.length_nil];omega⟩
   ·exact tL
   ·(conv=>whnf)
    (repeat' ((first|with_reducible exact⟨⟩|((with_reducible refine aI ?_ ?_);focus (exact tA))|with_reducible refine iA ?_ ?_|with_reducible refine iL ?_ ?_|with_reducible refine iB ?_ ?_|fail)<;>(conv=>whnf)))
    all_goals (try simp only[wQ])
    ·exact⟨by simp only[List.length_append],.inl True.intro⟩
    ·exact⟨⟨rfl,Nat.le_of_eq (by simp only[List.length_append]),fun e he=>⟨Dr (by simp only[List.length_append]) (Dr rfl (fun _ _=>rfl)) e (by simpa only[List.length_append] using he),rfl⟩⟩,rfl⟩
  ·obtain⟨i,T⟩:=x
   obtain⟨h1,h2,h3⟩:=hx
   change i≤A.length at h1
   change T=D4 (C1 ⟨[a,b],k⟩++(A.take i).map Au) at h2
   change T.length≤2000+i*1000001 at h3
   by_cases hi:i<A.length
   ·have hmi:=hm2 i hi
    have hsh:=Ha hmi
    have hst:(A.take (i+1)).map Au=(A.take i).map Au++[Au (A.getD i default)]:=by rw[List.take_add_one,List.getElem?_eq_getElem hi,List.map_append,List.getD_eq_getElem?_getD,List.getElem?_eq_getElem hi];rfl
    have hal:=S4 (hfa i hi) hmi
    (conv=>whnf)
    (repeat' ((first
     |with_reducible exact⟨⟩
     |((with_reducible refine aI ?_ ?_);focus (simp only[Ag,ty5,Ap,List.length_append,List.length_cons,List.length_nil,List.toList_toArray];first|omega|(refine⟨?_,?_⟩<;>omega)))
     |(split<;>rename_i hh<;>(try simp only[wS] at hh))
     |fail)<;>(conv=>whnf)))
    all_goals try (exfalso;omega)
    refine⟨(A.getD i default:Act),hsh,?_,?_⟩
    ·exact Aj _
    (conv=>whnf)
    (repeat' ((first
     |with_reducible exact⟨⟩
     |((with_reducible refine aI ?_ ?_);focus (with_reducible rfl))
     |(split<;>rename_i hh<;>(try simp only[wS] at hh))
     |with_reducible refine iA ?_ ?_
     |fail)<;>(conv=>whnf)))
    all_goals (try (show _=_;simp only[wQ]))
    all_goals try (exact absurd (hmi.symm.trans (by assumption)) Bool.true_eq_false.mp)
    refine⟨(A.getD i default:Act),hsh,?_,?_⟩
    ·exact Aj _
    (conv=>whnf)
    (repeat' ((first
     |(with_reducible refine Ac ?_)
     |fail)<;>(conv=>whnf)))
    refine⟨⟨by omega,fun e he=>by obtain rfl:e=0:=(by omega);rfl⟩,?_⟩
    refine⟨(([Au (A.getD i default)],[32]):List (List UInt8) × List UInt8),⟨by show(Lib.join [Au (A.getD i default)] [32]).length≤_;rw[Lib.join_one];omega,(nB rfl)⟩,?_,?_⟩
    ·(conv=>whnf)
     (repeat' ((first|with_reducible exact⟨⟩|((with_reducible refine aI ?_ ?_);focus (exact tA))|with_reducible refine iA ?_ ?_|fail)<;>(conv=>whnf)))
     all_goals (try simp only[wQ])
     exact⟨fun h=>h,fun e he=>by have he:e<1:=he;obtain rfl:e=0:=(by omega);rfl⟩
    have hj1:(Lib.join [Au (A.getD i default)] [32]).length≤1000000:=by rw[Lib.join_one];exact hal
    (conv=>whnf)
    (repeat' ((first
     |(with_reducible refine Ac ?_)
     |((with_reducible refine aI ?_ ?_);focus (simp only[Ag,ty5,Ap,List.length_append,List.length_cons,List.length_nil,List.toList_toArray];first|omega|(refine⟨?_,?_⟩<;>omega)))
     |((with_reducible refine aI ?_ ?_);focus (refine⟨Nat.le_refl _,?_,fun e he=>rfl⟩;simp only[Ag,ty5,Ap,List.length_append,List.length_cons,List.length_nil,List.toList_toArray];first|omega|(refine⟨?_,?_⟩<;>omega)))
     |((with_reducible refine aI ?_ ?_);focus (first|with_reducible rfl|exact tK|decide))
     |with_reducible refine lnI fun hln=>?_
     |fail)<;>(conv=>whnf)))
    (conv=>whnf)
    refine⟨((i+1,T++(Lib.join [Au (A.getD i default)] [32]++[10])):Nat × List UInt8),[57],?_,⟨⟨rfl,(nB rfl),rfl⟩,?_,?_⟩⟩
    ·refine⟨⟨show i+1≤A.length by omega,?_,?_⟩,show A.length - (i+1)<A.length - i by omega⟩
     ·show T++(Lib.join [Au (A.getD i default)] [32]++[10])=D4 (C1 ⟨[a,b],k⟩++(A.take (i+1)).map Au)
      rw[hst,h2,Lib.join_one,←G9,List.append_assoc]
     ·show(T++(Lib.join [Au (A.getD i default)] [32]++[10])).length≤2000+(i+1)*1000001
      rw[List.length_append,List.length_append];simp only[List.length_cons,List.length_nil];omega
    ·exact tL
    ·(conv=>whnf)
     (repeat' ((first|with_reducible exact⟨⟩|((with_reducible refine aI ?_ ?_);focus (exact tA))|with_reducible refine iA ?_ ?_|with_reducible refine iL ?_ ?_|with_reducible refine iB ?_ ?_|fail)<;>(conv=>whnf)))
     all_goals (try simp only[wQ])
     ·exact⟨by simp only[List.length_append],.inl True.intro⟩
     ·exact⟨⟨(by first|rfl|exact True.intro),Nat.le_of_eq (by simp only[List.length_append]),fun e he=>⟨Dr rfl (fun _ _=>rfl) e (by simpa only[List.length_append] using he),rfl⟩⟩,rfl⟩
   ·have hie:i=A.length:=by omega
    have hfin:bytesOf T.length (Dz T)=scW ⟨[a,b],k⟩ A:=by unfold scW scL;rw[show bytesOf T.length (Dz T)=T from El T,h2,hie,List.take_length]
    have hpos:0<T.length:=by rw[h2];unfold C1 D4;simp;omega
    (conv=>whnf)
    (repeat' ((first
     |((with_reducible refine aI ?_ ?_);focus (simp only[Ag,ty5,Ap,List.length_append,List.length_cons,List.length_nil,List.toList_toArray];first|omega|(refine⟨?_,?_⟩<;>omega)))
     |(split<;>rename_i hh<;>(try simp only[wS] at hh))
     |fail)<;>(conv=>whnf)))
    all_goals try (exfalso;omega)
    refine⟨⟨rfl,hpos,Nat.le_refl _,fun e he=>rfl⟩,?_⟩
    (conv=>whnf)
    (repeat' ((first
     |with_reducible exact⟨⟩
     |((with_reducible refine aI ?_ ?_);focus (with_reducible rfl))
     |with_reducible refine iA ?_ ?_
     |fail)<;>(conv=>whnf)))
    all_goals (try (show _=_;simp only[wQ]))
    all_goals first|exact hfin|rfl|skip
 ·have hja:=Cu (hs a (by simp))
  have hjb:=Cu (hs b (by simp))
  have hjc:=Cu (hs c (by simp))
  (conv=>whnf)
  (repeat' ((first
   |with_reducible exact⟨⟩
   |((with_reducible refine aI ?_ ?_);focus (simp only[Ag,ty5,Ap,List.length_append,List.length_cons,List.length_nil,List.toList_toArray];first|omega|(refine⟨?_,?_⟩<;>omega)))
   |(split<;>rename_i hh<;>(try simp only[wS] at hh))
   |with_reducible refine lnI fun hln=>?_
   |fail)<;>(conv=>whnf)))
  all_goals try (exfalso;omega)
  refine⟨(⟨[a,b,c],k⟩:Setup),hp0,?_,?_⟩
  ·exact Aj _
  (conv=>whnf)
  (repeat' ((first
   |with_reducible exact⟨⟩
   |(with_reducible refine Ac ?_)
   |((with_reducible refine aI ?_ ?_);focus (first|with_reducible exact⟨⟩|with_reducible rfl))
   |(split<;>rename_i hh<;>(try simp only[wS] at hh))
   |with_reducible refine iA ?_ ?_
   |fail)<;>(conv=>whnf)))
  all_goals (try (show _=_;simp only[wQ]))
  all_goals try (exact absurd (show false=true by assumption) Bool.false_ne_true)
  refine⟨⟨by omega,fun e he=>by rcases(by omega:e=0∨e=1) with rfl|rfl<;>rfl⟩,?_⟩
  refine⟨((Ep k,[32]):List (List UInt8) × List UInt8),⟨Nat.le_trans hjn (by decide),(nB rfl)⟩,?_,?_⟩
  ·(conv=>whnf)
   (repeat' ((first|with_reducible exact⟨⟩|((with_reducible refine aI ?_ ?_);focus (exact tA))|with_reducible refine iA ?_ ?_|fail)<;>(conv=>whnf)))
   all_goals (try simp only[wQ])
   exact⟨fun h=>h,fun e he=>by have he:e<2:=he;rcases(by omega:e=0∨e=1) with rfl|rfl<;>rfl⟩
  (conv=>whnf)
  (repeat' ((first
   |(with_reducible refine Ac ?_)
   |(exact absurd hh (by rw[List.length_append];exact Nat.succ_ne_zero _))
   |((with_reducible refine aI ?_ ?_);focus (simp only[Ag,ty5,Ap,List.length_append,List.length_cons,List.length_nil,List.toList_toArray];first|omega|(refine⟨?_,?_⟩<;>omega)))
   |((with_reducible refine aI ?_ ?_);focus (first|with_reducible exact⟨⟩|exact tO|decide))
   |(split<;>rename_i hh<;>(try simp only[wS] at hh))
   |with_reducible refine lnI fun hln=>?_
   |fail)<;>(conv=>whnf)))
  refine⟨⟨by omega,fun e he=>by rcases(by omega:e=0∨e=1∨e=2∨e=3∨e=4∨e=5∨e=6) with rfl|rfl|rfl|rfl|rfl|rfl|rfl<;>rfl⟩,?_⟩
  refine⟨((A8 a,[32]):List (List UInt8) × List UInt8),⟨Nat.le_trans hja (by decide),(nB rfl)⟩,?_,?_⟩
  ·(conv=>whnf)
   (repeat' ((first|with_reducible exact⟨⟩|((with_reducible refine aI ?_ ?_);focus (exact tA))|with_reducible refine iA ?_ ?_|fail)<;>(conv=>whnf)))
   all_goals (try simp only[wQ])
   exact⟨fun h=>h,fun e he=>by have he:e<7:=he;rcases(by omega:e=0∨e=1∨e=2∨e=3∨e=4∨e=5∨e=6) with rfl|rfl|rfl|rfl|rfl|rfl|rfl<;>rfl⟩
  (conv=>whnf)
  (repeat' ((first
   |(with_reducible refine Ac ?_)
   |((with_reducible refine aI ?_ ?_);focus (simp only[Ag,ty5,Ap,List.length_append,List.length_cons,List.length_nil,List.toList_toArray];first|omega|(refine⟨?_,?_⟩<;>omega)))
   |((with_reducible refine aI ?_ ?_);focus (refine⟨Nat.le_refl _,?_,fun e he=>rfl⟩;simp only[Ag,ty5,Ap,List.length_append,List.length_cons,List.length_nil,List.toList_toArray];first|omega|(refine⟨?_,?_⟩<;>omega)))
   |((with_reducible refine aI ?_ ?_);focus (first|with_reducible exact⟨⟩|exact tO|with_reducible rfl|exact tK|decide))
   |with_reducible refine lnI fun hln=>?_
   |fail)<;>(conv=>whnf)))
  refine⟨⟨by omega,fun e he=>by rcases(by omega:e=0∨e=1∨e=2∨e=3∨e=4∨e=5∨e=6) with rfl|rfl|rfl|rfl|rfl|rfl|rfl<;>rfl⟩,?_⟩
  refine⟨((A8 b,[32]):List (List UInt8) × List UInt8),⟨Nat.le_trans hjb (by decide),(nB rfl)⟩,?_,?_⟩
  ·(conv=>whnf)
   (repeat' ((first|with_reducible exact⟨⟩|((with_reducible refine aI ?_ ?_);focus (exact tA))|with_reducible refine iA ?_ ?_|fail)<;>(conv=>whnf)))
   all_goals (try simp only[wQ])
   exact⟨fun h=>h,fun e he=>by have he:e<7:=he;rcases(by omega:e=0∨e=1∨e=2∨e=3∨e=4∨e=5∨e=6) with rfl|rfl|rfl|rfl|rfl|rfl|rfl<;>rfl⟩
  (conv=>whnf)
  (repeat' ((first
   |(with_reducible refine Ac ?_)
   |((with_reducible refine aI ?_ ?_);focus (simp only[Ag,ty5,Ap,List.length_append,List.length_cons,List.length_nil,List.toList_toArray];first|omega|(refine⟨?_,?_⟩<;>omega)))
   |((with_reducible refine aI ?_ ?_);focus (refine⟨Nat.le_refl _,?_,fun e he=>rfl⟩;simp only[Ag,ty5,Ap,List.length_append,List.length_cons,List.length_nil,List.toList_toArray];first|omega|(refine⟨?_,?_⟩<;>omega)))
   |((with_reducible refine aI ?_ ?_);focus (first|with_reducible exact⟨⟩|exact tO|with_reducible rfl|exact tK|decide))
   |with_reducible refine lnI fun hln=>?_
   |fail)<;>(conv=>whnf)))
  refine⟨⟨by omega,fun e he=>by rcases(by omega:e=0∨e=1∨e=2∨e=3∨e=4∨e=5∨e=6) with rfl|rfl|rfl|rfl|rfl|rfl|rfl<;>rfl⟩,?_⟩
  refine⟨((A8 c,[32]):List (List UInt8) × List UInt8),⟨Nat.le_trans hjc (by decide),(nB rfl)⟩,?_,?_⟩
  ·(conv=>whnf)
   (repeat' ((first|with_reducible exact⟨⟩|((with_reducible refine aI ?_ ?_);focus (exact tA))|with_reducible refine iA ?_ ?_|fail)<;>(conv=>whnf)))
   all_goals (try simp only[wQ])
   exact⟨fun h=>h,fun e he=>by have he:e<7:=he;rcases(by omega:e=0∨e=1∨e=2∨e=3∨e=4∨e=5∨e=6) with rfl|rfl|rfl|rfl|rfl|rfl|rfl<;>rfl⟩
  (conv=>whnf)
  (repeat' ((first
   |(with_reducible refine Ac ?_)
   |((with_reducible refine aI ?_ ?_);focus (simp only[Ag,ty5,Ap,List.length_append,List.length_cons,List.length_nil,List.toList_toArray];first|omega|(refine⟨?_,?_⟩<;>omega)))
   |((with_reducible refine aI ?_ ?_);focus (refine⟨Nat.le_refl _,?_,fun e he=>rfl⟩;simp only[Ag,ty5,Ap,List.length_append,List.length_cons,List.length_nil,List.toList_toArray];first|omega|(refine⟨?_,?_⟩<;>omega)))
   |((with_reducible refine aI ?_ ?_);focus (first|with_reducible rfl|exact tK|decide))
   |with_reducible refine lnI fun hln=>?_
   |fail)<;>(conv=>whnf)))
  have hT:D4 (C1 ⟨[a,b,c],k⟩++(A.take 0).map Au)=((((Lib.join (Ep k) [32]++[10])++(Lib.join (A8 a) [32]++[10]))++(Lib.join (A8 b) [32]++[10]))++(Lib.join (A8 c) [32]++[10])):=by unfold C1 D4;simp
  refine⟨?_,fun(x:Nat × List UInt8) hx=>?_⟩
  ·(conv=>whnf)
   refine⟨((0,((((Lib.join (Ep k) [32]++[10])++(Lib.join (A8 a) [32]++[10]))++(Lib.join (A8 b) [32]++[10]))++(Lib.join (A8 c) [32]++[10]))):Nat × List UInt8),[78],?_,⟨⟨rfl,(nB rfl),rfl⟩,?_,?_⟩⟩
   ·exact⟨Nat.zero_le _,hT.symm,by show((((Lib.join (Ep k) [32]++[10])++(Lib.join (A8 a) [32]++[10]))++(Lib.join (A8 b) [32]++[10]))++(Lib.join (A8 c) [32]++[10])).length≤_;simp only[List.length_append,List.length_cons,List.length_nil];omega⟩
   ·exact tL
   ·(conv=>whnf)
    (repeat' ((first|with_reducible exact⟨⟩|((with_reducible refine aI ?_ ?_);focus (exact tA))|with_reducible refine iA ?_ ?_|with_reducible refine iL ?_ ?_|with_reducible refine iB ?_ ?_|fail)<;>(conv=>whnf)))
    all_goals (try simp only[wQ])
    ·exact⟨by simp only[List.length_append],.inl True.intro⟩
    ·exact⟨⟨rfl,Nat.le_of_eq (by simp only[List.length_append]),fun e he=>⟨Dr (by simp only[List.length_append]) (Dr (by simp only[List.length_append]) (Dr rfl (fun _ _=>rfl))) e (by simpa only[List.length_append] using he),rfl⟩⟩,rfl⟩
  ·obtain⟨i,T⟩:=x
   obtain⟨h1,h2,h3⟩:=hx
   change i≤A.length at h1
   change T=D4 (C1 ⟨[a,b,c],k⟩++(A.take i).map Au) at h2
   change T.length≤2000+i*1000001 at h3
   by_cases hi:i<A.length
   ·have hmi:=hm2 i hi
    have hsh:=Ha hmi
    have hst:(A.take (i+1)).map Au=(A.take i).map Au++[Au (A.getD i default)]:=by rw[List.take_add_one,List.getElem?_eq_getElem hi,List.map_append,List.getD_eq_getElem?_getD,List.getElem?_eq_getElem hi];rfl
    have hal:=S4 (hfa i hi) hmi
    (conv=>whnf)
    (repeat' ((first
     |with_reducible exact⟨⟩
     |((with_reducible refine aI ?_ ?_);focus (simp only[Ag,ty5,Ap,List.length_append,List.length_cons,List.length_nil,List.toList_toArray];first|omega|(refine⟨?_,?_⟩<;>omega)))
     |(split<;>rename_i hh<;>(try simp only[wS] at hh))
     |fail)<;>(conv=>whnf)))
    all_goals try (exfalso;omega)
    refine⟨(A.getD i default:Act),hsh,?_,?_⟩
    ·exact Aj _
    (conv=>whnf)
    (repeat' ((first
     |with_reducible exact⟨⟩
     |((with_reducible refine aI ?_ ?_);focus (with_reducible rfl))
     |(split<;>rename_i hh<;>(try simp only[wS] at hh))
     |with_reducible refine iA ?_ ?_
     |fail)<;>(conv=>whnf)))
    all_goals (try (show _=_;simp only[wQ]))
    all_goals try (exact absurd (hmi.symm.trans (by assumption)) Bool.true_eq_false.mp)
    refine⟨(A.getD i default:Act),hsh,?_,?_⟩
    ·exact Aj _
    (conv=>whnf)
    (repeat' ((first
     |(with_reducible refine Ac ?_)
     |fail)<;>(conv=>whnf)))
    refine⟨⟨by omega,fun e he=>by obtain rfl:e=0:=(by omega);rfl⟩,?_⟩
    refine⟨(([Au (A.getD i default)],[32]):List (List UInt8) × List UInt8),⟨by show(Lib.join [Au (A.getD i default)] [32]).length≤_;rw[Lib.join_one];omega,(nB rfl)⟩,?_,?_⟩
    ·(conv=>whnf)
     (repeat' ((first|with_reducible exact⟨⟩|((with_reducible refine aI ?_ ?_);focus (exact tA))|with_reducible refine iA ?_ ?_|fail)<;>(conv=>whnf)))
     all_goals (try simp only[wQ])
     exact⟨fun h=>h,fun e he=>by have he:e<1:=he;obtain rfl:e=0:=(by omega);rfl⟩
    have hj1:(Lib.join [Au (A.getD i default)] [32]).length≤1000000:=by rw[Lib.join_one];exact hal
    (conv=>whnf)
    (repeat' ((first
     |(with_reducible refine Ac ?_)
     |((with_reducible refine aI ?_ ?_);focus (simp only[Ag,ty5,Ap,List.length_append,List.length_cons,List.length_nil,List.toList_toArray];first|omega|(refine⟨?_,?_⟩<;>omega)))
     |((with_reducible refine aI ?_ ?_);focus (refine⟨Nat.le_refl _,?_,fun e he=>rfl⟩;simp only[Ag,ty5,Ap,List.length_append,List.length_cons,List.length_nil,List.toList_toArray];first|omega|(refine⟨?_,?_⟩<;>omega)))
     |((with_reducible refine aI ?_ ?_);focus (first|with_reducible rfl|exact tK|decide))
     |with_reducible refine lnI fun hln=>?_
     |fail)<;>(conv=>whnf)))
    (conv=>whnf)
    refine⟨((i+1,T++(Lib.join [Au (A.getD i default)] [32]++[10])):Nat × List UInt8),[82],?_,⟨⟨rfl,(nB rfl),rfl⟩,?_,?_⟩⟩
    ·refine⟨⟨show i+1≤A.length by omega,?_,?_⟩,show A.length - (i+1)<A.length - i by omega⟩
     ·show T++(Lib.join [Au (A.getD i default)] [32]++[10])=D4 (C1 ⟨[a,b,c],k⟩++(A.take (i+1)).map Au)
      rw[hst,h2,Lib.join_one,←G9,List.append_assoc]
     ·show(T++(Lib.join [Au (A.getD i default)] [32]++[10])).length≤2000+(i+1)*1000001
      rw[List.length_append,List.length_append];simp only[List.length_cons,List.length_nil];omega
    ·exact tL
    ·(conv=>whnf)
     (repeat' ((first|with_reducible exact⟨⟩|((with_reducible refine aI ?_ ?_);focus (exact tA))|with_reducible refine iA ?_ ?_|with_reducible refine iL ?_ ?_|with_reducible refine iB ?_ ?_|fail)<;>(conv=>whnf)))
     all_goals (try simp only[wQ])
     ·exact⟨by simp only[List.length_append],.inl True.intro⟩
     ·exact⟨⟨(by first|rfl|exact True.intro),Nat.le_of_eq (by simp only[List.length_append]),fun e he=>⟨Dr rfl (fun _ _=>rfl) e (by simpa only[List.length_append] using he),rfl⟩⟩,rfl⟩
   ·have hie:i=A.length:=by omega
    have hfin:bytesOf T.length (Dz T)=scW ⟨[a,b,c],k⟩ A:=by unfold scW scL;rw[show bytesOf T.length (Dz T)=T from El T,h2,hie,List.take_length]
    have hpos:0<T.length:=by rw[h2];unfold C1 D4;simp;omega
    (conv=>whnf)
    (repeat' ((first
     |((with_reducible refine aI ?_ ?_);focus (simp only[Ag,ty5,Ap,List.length_append,List.length_cons,List.length_nil,List.toList_toArray];first|omega|(refine⟨?_,?_⟩<;>omega)))
     |(split<;>rename_i hh<;>(try simp only[wS] at hh))
     |fail)<;>(conv=>whnf)))
    all_goals try (exfalso;omega)
    refine⟨⟨rfl,hpos,Nat.le_refl _,fun e he=>rfl⟩,?_⟩
    (conv=>whnf)
    (repeat' ((first
     |with_reducible exact⟨⟩
     |((with_reducible refine aI ?_ ?_);focus (with_reducible rfl))
     |with_reducible refine iA ?_ ?_
     |fail)<;>(conv=>whnf)))
    all_goals (try (show _=_;simp only[wQ]))
    all_goals first|exact hfin|rfl|skip
 ·have hja:=Cu (hs a (by simp))
  have hjb:=Cu (hs b (by simp))
  have hjc:=Cu (hs c (by simp))
  have hjd:=Cu (hs d (by simp))
  (conv=>whnf)
  (repeat' ((first
   |with_reducible exact⟨⟩
   |((with_reducible refine aI ?_ ?_);focus (simp only[Ag,ty5,Ap,List.length_append,List.length_cons,List.length_nil,List.toList_toArray];first|omega|(refine⟨?_,?_⟩<;>omega)))
   |(split<;>rename_i hh<;>(try simp only[wS] at hh))
   |with_reducible refine lnI fun hln=>?_
   |fail)<;>(conv=>whnf)))
  all_goals try (exfalso;omega)
  refine⟨(⟨[a,b,c,d],k⟩:Setup),hp0,?_,?_⟩
  ·exact Aj _
  (conv=>whnf)
  (repeat' ((first
   |with_reducible exact⟨⟩
   |(with_reducible refine Ac ?_)
   |((with_reducible refine aI ?_ ?_);focus (first|with_reducible exact⟨⟩|with_reducible rfl))
   |(split<;>rename_i hh<;>(try simp only[wS] at hh))
   |with_reducible refine iA ?_ ?_
   |fail)<;>(conv=>whnf)))
  all_goals (try (show _=_;simp only[wQ]))
  all_goals try (exact absurd (show false=true by assumption) Bool.false_ne_true)
  refine⟨⟨by omega,fun e he=>by rcases(by omega:e=0∨e=1) with rfl|rfl<;>rfl⟩,?_⟩
  refine⟨((Ep k,[32]):List (List UInt8) × List UInt8),⟨Nat.le_trans hjn (by decide),(nB rfl)⟩,?_,?_⟩
  ·(conv=>whnf)
   (repeat' ((first|with_reducible exact⟨⟩|((with_reducible refine aI ?_ ?_);focus (exact tA))|with_reducible refine iA ?_ ?_|fail)<;>(conv=>whnf)))
   all_goals (try simp only[wQ])
   exact⟨fun h=>h,fun e he=>by have he:e<2:=he;rcases(by omega:e=0∨e=1) with rfl|rfl<;>rfl⟩
  (conv=>whnf)
  (repeat' ((first
   |(with_reducible refine Ac ?_)
   |(exact absurd hh (by rw[List.length_append];exact Nat.succ_ne_zero _))
   |((with_reducible refine aI ?_ ?_);focus (simp only[Ag,ty5,Ap,List.length_append,List.length_cons,List.length_nil,List.toList_toArray];first|omega|(refine⟨?_,?_⟩<;>omega)))
   |((with_reducible refine aI ?_ ?_);focus (first|with_reducible exact⟨⟩|exact tO|decide))
   |(split<;>rename_i hh<;>(try simp only[wS] at hh))
   |with_reducible refine lnI fun hln=>?_
   |fail)<;>(conv=>whnf)))
  refine⟨⟨by omega,fun e he=>by rcases(by omega:e=0∨e=1∨e=2∨e=3∨e=4∨e=5∨e=6) with rfl|rfl|rfl|rfl|rfl|rfl|rfl<;>rfl⟩,?_⟩
  refine⟨((A8 a,[32]):List (List UInt8) × List UInt8),⟨Nat.le_trans hja (by decide),(nB rfl)⟩,?_,?_⟩
  ·(conv=>whnf)
   (repeat' ((first|with_reducible exact⟨⟩|((with_reducible refine aI ?_ ?_);focus (exact tA))|with_reducible refine iA ?_ ?_|fail)<;>(conv=>whnf)))
   all_goals (try simp only[wQ])
   exact⟨fun h=>h,fun e he=>by have he:e<7:=he;rcases(by omega:e=0∨e=1∨e=2∨e=3∨e=4∨e=5∨e=6) with rfl|rfl|rfl|rfl|rfl|rfl|rfl<;>rfl⟩
  (conv=>whnf)
  (repeat' ((first
   |(with_reducible refine Ac ?_)
   |((with_reducible refine aI ?_ ?_);focus (simp only[Ag,ty5,Ap,List.length_append,List.length_cons,List.length_nil,List.toList_toArray];first|omega|(refine⟨?_,?_⟩<;>omega)))
   |((with_reducible refine aI ?_ ?_);focus (refine⟨Nat.le_refl _,?_,fun e he=>rfl⟩;simp only[Ag,ty5,Ap,List.length_append,List.length_cons,List.length_nil,List.toList_toArray];first|omega|(refine⟨?_,?_⟩<;>omega)))
   |((with_reducible refine aI ?_ ?_);focus (first|with_reducible exact⟨⟩|exact tO|with_reducible rfl|exact tK|decide))
   |with_reducible refine lnI fun hln=>?_
   |fail)<;>(conv=>whnf)))
  refine⟨⟨by omega,fun e he=>by rcases(by omega:e=0∨e=1∨e=2∨e=3∨e=4∨e=5∨e=6) with rfl|rfl|rfl|rfl|rfl|rfl|rfl<;>rfl⟩,?_⟩
  refine⟨((A8 b,[32]):List (List UInt8) × List UInt8),⟨Nat.le_trans hjb (by decide),(nB rfl)⟩,?_,?_⟩
  ·(conv=>whnf)
   (repeat' ((first|with_reducible exact⟨⟩|((with_reducible refine aI ?_ ?_);focus (exact tA))|with_reducible refine iA ?_ ?_|fail)<;>(conv=>whnf)))
   all_goals (try simp only[wQ])
   exact⟨fun h=>h,fun e he=>by have he:e<7:=he;rcases(by omega:e=0∨e=1∨e=2∨e=3∨e=4∨e=5∨e=6) with rfl|rfl|rfl|rfl|rfl|rfl|rfl<;>rfl⟩
  (conv=>whnf)
  (repeat' ((first
   |(with_reducible refine Ac ?_)
   |((with_reducible refine aI ?_ ?_);focus (simp only[Ag,ty5,Ap,List.length_append,List.length_cons,List.length_nil,List.toList_toArray];first|omega|(refine⟨?_,?_⟩<;>omega)))
   |((with_reducible refine aI ?_ ?_);focus (refine⟨Nat.le_refl _,?_,fun e he=>rfl⟩;simp only[Ag,ty5,Ap,List.length_append,List.length_cons,List.length_nil,List.toList_toArray];first|omega|(refine⟨?_,?_⟩<;>omega)))
   |((with_reducible refine aI ?_ ?_);focus (first|with_reducible exact⟨⟩|exact tO|with_reducible rfl|exact tK|decide))
   |with_reducible refine lnI fun hln=>?_
   |fail)<;>(conv=>whnf)))
  refine⟨⟨by omega,fun e he=>by rcases(by omega:e=0∨e=1∨e=2∨e=3∨e=4∨e=5∨e=6) with rfl|rfl|rfl|rfl|rfl|rfl|rfl<;>rfl⟩,?_⟩
  refine⟨((A8 c,[32]):List (List UInt8) × List UInt8),⟨Nat.le_trans hjc (by decide),(nB rfl)⟩,?_,?_⟩
  ·(conv=>whnf)
   (repeat' ((first|with_reducible exact⟨⟩|((with_reducible refine aI ?_ ?_);focus (exact tA))|with_reducible refine iA ?_ ?_|fail)<;>(conv=>whnf)))
   all_goals (try simp only[wQ])
   exact⟨fun h=>h,fun e he=>by have he:e<7:=he;rcases(by omega:e=0∨e=1∨e=2∨e=3∨e=4∨e=5∨e=6) with rfl|rfl|rfl|rfl|rfl|rfl|rfl<;>rfl⟩
  (conv=>whnf)
  (repeat' ((first
   |(with_reducible refine Ac ?_)
   |((with_reducible refine aI ?_ ?_);focus (simp only[Ag,ty5,Ap,List.length_append,List.length_cons,List.length_nil,List.toList_toArray];first|omega|(refine⟨?_,?_⟩<;>omega)))
   |((with_reducible refine aI ?_ ?_);focus (refine⟨Nat.le_refl _,?_,fun e he=>rfl⟩;simp only[Ag,ty5,Ap,List.length_append,List.length_cons,List.length_nil,List.toList_toArray];first|omega|(refine⟨?_,?_⟩<;>omega)))
   |((with_reducible refine aI ?_ ?_);focus (first|with_reducible exact⟨⟩|exact tO|with_reducible rfl|exact tK|decide))
   |with_reducible refine lnI fun hln=>?_
   |fail)<;>(conv=>whnf)))
  refine⟨⟨by omega,fun e he=>by rcases(by omega:e=0∨e=1∨e=2∨e=3∨e=4∨e=5∨e=6) with rfl|rfl|rfl|rfl|rfl|rfl|rfl<;>rfl⟩,?_⟩
  refine⟨((A8 d,[32]):List (List UInt8) × List UInt8),⟨Nat.le_trans hjd (by decide),(nB rfl)⟩,?_,?_⟩
  ·(conv=>whnf)
   (repeat' ((first|with_reducible exact⟨⟩|((with_reducible refine aI ?_ ?_);focus (exact tA))|with_reducible refine iA ?_ ?_|fail)<;>(conv=>whnf)))
   all_goals (try simp only[wQ])
   exact⟨fun h=>h,fun e he=>by have he:e<7:=he;rcases(by omega:e=0∨e=1∨e=2∨e=3∨e=4∨e=5∨e=6) with rfl|rfl|rfl|rfl|rfl|rfl|rfl<;>rfl⟩
  (conv=>whnf)
  (repeat' ((first
   |(with_reducible refine Ac ?_)
   |((with_reducible refine aI ?_ ?_);focus (simp only[Ag,ty5,Ap,List.length_append,List.length_cons,List.length_nil,List.toList_toArray];first|omega|(refine⟨?_,?_⟩<;>omega)))
   |((with_reducible refine aI ?_ ?_);focus (refine⟨Nat.le_refl _,?_,fun e he=>rfl⟩;simp only[Ag,ty5,Ap,List.length_append,List.length_cons,List.length_nil,List.toList_toArray];first|omega|(refine⟨?_,?_⟩<;>omega)))
   |((with_reducible refine aI ?_ ?_);focus (first|with_reducible rfl|exact tK|decide))
   |with_reducible refine lnI fun hln=>?_
   |fail)<;>(conv=>whnf)))
  have hT:D4 (C1 ⟨[a,b,c,d],k⟩++(A.take 0).map Au)=(((((Lib.join (Ep k) [32]++[10])++(Lib.join (A8 a) [32]++[10]))++(Lib.join (A8 b) [32]++[10]))++(Lib.join (A8 c) [32]++[10]))++(Lib.join (A8 d) [32]++[10])):=by unfold C1 D4;simp
  refine⟨?_,fun(x:Nat × List UInt8) hx=>?_⟩
  ·(conv=>whnf)
   refine⟨((0,(((((Lib.join (Ep k) [32]++[10])++(Lib.join (A8 a) [32]++[10]))++(Lib.join (A8 b) [32]++[10]))++(Lib.join (A8 c) [32]++[10]))++(Lib.join (A8 d) [32]++[10]))):Nat × List UInt8),[103],?_,⟨⟨rfl,(nB rfl),rfl⟩,?_,?_⟩⟩
   ·exact⟨Nat.zero_le _,hT.symm,by show(((((Lib.join (Ep k) [32]++[10])++(Lib.join (A8 a) [32]++[10]))++(Lib.join (A8 b) [32]++[10]))++(Lib.join (A8 c) [32]++[10]))++(Lib.join (A8 d) [32]++[10])).length≤_;simp only[List.length_append,List.length_cons,List.length_nil];omega⟩
   ·exact tL
   ·(conv=>whnf)
    (repeat' ((first|with_reducible exact⟨⟩|((with_reducible refine aI ?_ ?_);focus (exact tA))|with_reducible refine iA ?_ ?_|with_reducible refine iL ?_ ?_|with_reducible refine iB ?_ ?_|fail)<;>(conv=>whnf)))
    all_goals (try simp only[wQ])
    ·exact⟨by simp only[List.length_append],.inl True.intro⟩
    ·exact⟨⟨rfl,Nat.le_of_eq (by simp only[List.length_append]),fun e he=>⟨Dr (by simp only[List.length_append]) (Dr (by simp only[List.length_append]) (Dr (by simp only[List.length_append]) (Dr rfl (fun _ _=>rfl)))) e (by simpa only[List.length_append] using he),rfl⟩⟩,rfl⟩
  ·obtain⟨i,T⟩:=x
   obtain⟨h1,h2,h3⟩:=hx
   change i≤A.length at h1
   change T=D4 (C1 ⟨[a,b,c,d],k⟩++(A.take i).map Au) at h2
   change T.length≤2000+i*1000001 at h3
   by_cases hi:i<A.length
   ·have hmi:=hm2 i hi
    have hsh:=Ha hmi
    have hst:(A.take (i+1)).map Au=(A.take i).map Au++[Au (A.getD i default)]:=by rw[List.take_add_one,List.getElem?_eq_getElem hi,List.map_append,List.getD_eq_getElem?_getD,List.getElem?_eq_getElem hi];rfl
    have hal:=S4 (hfa i hi) hmi
    (conv=>whnf)
    (repeat' ((first
     |with_reducible exact⟨⟩
     |((with_reducible refine aI ?_ ?_);focus (simp only[Ag,ty5,Ap,List.length_append,List.length_cons,List.length_nil,List.toList_toArray];first|omega|(refine⟨?_,?_⟩<;>omega)))
     |(split<;>rename_i hh<;>(try simp only[wS] at hh))
     |fail)<;>(conv=>whnf)))
    all_goals try (exfalso;omega)
    refine⟨(A.getD i default:Act),hsh,?_,?_⟩
    ·exact Aj _
    (conv=>whnf)
    (repeat' ((first
     |with_reducible exact⟨⟩
     |((with_reducible refine aI ?_ ?_);focus (with_reducible rfl))
     |(split<;>rename_i hh<;>(try simp only[wS] at hh))
     |with_reducible refine iA ?_ ?_
     |fail)<;>(conv=>whnf)))
    all_goals (try (show _=_;simp only[wQ]))
    all_goals try (exact absurd (hmi.symm.trans (by assumption)) Bool.true_eq_false.mp)
    refine⟨(A.getD i default:Act),hsh,?_,?_⟩
    ·exact Aj _
    (conv=>whnf)
    (repeat' ((first
     |(with_reducible refine Ac ?_)
     |fail)<;>(conv=>whnf)))
    refine⟨⟨by omega,fun e he=>by obtain rfl:e=0:=(by omega);rfl⟩,?_⟩
    refine⟨(([Au (A.getD i default)],[32]):List (List UInt8) × List UInt8),⟨by show(Lib.join [Au (A.getD i default)] [32]).length≤_;rw[Lib.join_one];omega,(nB rfl)⟩,?_,?_⟩
    ·(conv=>whnf)
     (repeat' ((first|with_reducible exact⟨⟩|((with_reducible refine aI ?_ ?_);focus (exact tA))|with_reducible refine iA ?_ ?_|fail)<;>(conv=>whnf)))
     all_goals (try simp only[wQ])
     exact⟨fun h=>h,fun e he=>by have he:e<1:=he;obtain rfl:e=0:=(by omega);rfl⟩
    have hj1:(Lib.join [Au (A.getD i default)] [32]).length≤1000000:=by rw[Lib.join_one];exact hal
    (conv=>whnf)
    (repeat' ((first
     |(with_reducible refine Ac ?_)
     |((with_reducible refine aI ?_ ?_);focus (simp only[Ag,ty5,Ap,List.length_append,List.length_cons,List.length_nil,List.toList_toArray];first|omega|(refine⟨?_,?_⟩<;>omega)))
     |((with_reducible refine aI ?_ ?_);focus (refine⟨Nat.le_refl _,?_,fun e he=>rfl⟩;simp only[Ag,ty5,Ap,List.length_append,List.length_cons,List.length_nil,List.toList_toArray];first|omega|(refine⟨?_,?_⟩<;>omega)))
     |((with_reducible refine aI ?_ ?_);focus (first|with_reducible rfl|exact tK|decide))
     |with_reducible refine lnI fun hln=>?_
     |fail)<;>(conv=>whnf)))
    (conv=>whnf)
    refine⟨((i+1,T++(Lib.join [Au (A.getD i default)] [32]++[10])):Nat × List UInt8),[107],?_,⟨⟨rfl,(nB rfl),rfl⟩,?_,?_⟩⟩
    ·refine⟨⟨show i+1≤A.length by omega,?_,?_⟩,show A.length - (i+1)<A.length - i by omega⟩
     ·show T++(Lib.join [Au (A.getD i default)] [32]++[10])=D4 (C1 ⟨[a,b,c,d],k⟩++(A.take (i+1)).map Au)
      rw[hst,h2,Lib.join_one,←G9,List.append_assoc]
     ·show(T++(Lib.join [Au (A.getD i default)] [32]++[10])).length≤2000+(i+1)*1000001
      rw[List.length_append,List.length_append];simp only[List.length_cons,List.length_nil];omega
    ·exact tL
    ·(conv=>whnf)
     (repeat' ((first|with_reducible exact⟨⟩|((with_reducible refine aI ?_ ?_);focus (exact tA))|with_reducible refine iA ?_ ?_|with_reducible refine iL ?_ ?_|with_reducible refine iB ?_ ?_|fail)<;>(conv=>whnf)))
     all_goals (try simp only[wQ])
     ·exact⟨by simp only[List.length_append],.inl True.intro⟩
     ·exact⟨⟨(by first|rfl|exact True.intro),Nat.le_of_eq (by simp only[List.length_append]),fun e he=>⟨Dr rfl (fun _ _=>rfl) e (by simpa only[List.length_append] using he),rfl⟩⟩,rfl⟩
   ·have hie:i=A.length:=by omega
    have hfin:bytesOf T.length (Dz T)=scW ⟨[a,b,c,d],k⟩ A:=by unfold scW scL;rw[show bytesOf T.length (Dz T)=T from El T,h2,hie,List.take_length]
    have hpos:0<T.length:=by rw[h2];unfold C1 D4;simp;omega
    (conv=>whnf)
    (repeat' ((first
     |((with_reducible refine aI ?_ ?_);focus (simp only[Ag,ty5,Ap,List.length_append,List.length_cons,List.length_nil,List.toList_toArray];first|omega|(refine⟨?_,?_⟩<;>omega)))
     |(split<;>rename_i hh<;>(try simp only[wS] at hh))
     |fail)<;>(conv=>whnf)))
    all_goals try (exfalso;omega)
    refine⟨⟨rfl,hpos,Nat.le_refl _,fun e he=>rfl⟩,?_⟩
    (conv=>whnf)
    (repeat' ((first
     |with_reducible exact⟨⟩
     |((with_reducible refine aI ?_ ?_);focus (with_reducible rfl))
     |with_reducible refine iA ?_ ?_
     |fail)<;>(conv=>whnf)))
    all_goals (try (show _=_;simp only[wQ]))
    all_goals first|exact hfin|rfl|skip
 ·simp only[List.length_cons] at hl2;omega
end
end Go.Vc.Z
