/- script.Script: the script of a setup and many acts of one kind. -/
import Derived.Test.YtpmpclbdnakniaaGreatDoorV45
set_option linter.all false
set_option linter.unusedVariables false
set_option linter.unusedSimpArgs false
namespace Go.Vc.Z
open Go Go.Vc Go.Proofs Go.RowKit Go.Pl Go.Lib
abbrev Bp(b:Bool):Act:=⟨5,0,As,0,[],b⟩
abbrev Qq(b:Bool):List AV:=[.int .i64 5,.int .i64 0,.str [],.int .i64 0,.int .i64 0,.int .u64 0,.int .i64 0,.int .i64 0,.str [],.nilsl,.nilsl,.int .i64 0,.int .i64 0,.int .i64 0,.int .i64 0,.nilsl,.bool b]
theorem M5(b:Bool):Am (Bp b)=true:=by
 unfold Am
 have:Dp As As=true:=A0.2 rfl
 simp[this]
theorem J2(b:Bool):(Au (Bp b)).length≤8:=by
 rw[Ajw (a:=Bp b) rfl (M5 b)];cases b<;>decide
noncomputable section
set_option maxRecDepth 100000
attribute [local irreducible] inK Utf8.decode Utf8.encode Lib.itoa Pl.worth Pl.allDig
attribute [local irreducible] Lib.join Br Aa
def Av5(s:Setup)(is:Bool)(m:Nat):LoopSpec:={
 α:=Nat × List UInt8
 keep:=[6,7,59,60,61]
 vals x:=[.ptr 1 0,.fn 100 [.ptr 1 0],(.sl false 17 m (fun _=>Qq is)),.int .i64 m,.int .i64 x.1]
 heap x:=hSc (4+25*s.sites.length) x.2
 ok x:=x.1≤m∧x.2=D4 (C1 s++List.replicate x.1 (Au (Bp is)))∧x.2.length≤2000+x.1*1000001
 μ x:=m - x.1 }
def Ado:PC:=PC.of (fun x:Setup × Bool × Nat=>[.agg x.1.enc,.sl false 17 x.2.2 (fun _=>Qq x.2.1)]) (fun x=>Et x.1=true∧x.2.2≤10000) (fun x=>.tup [.str (sS (scW x.1 (List.replicate x.2.2 (Bp x.2.1)))),.int .i64 0])
def Adp:Setup × Bool × Nat→Nat→Option LR:=fun x i=>cond (Nat.beq i 9) (some (.unroll 5)) (cond (Nat.beq i 14) (some (.inv (Av5 x.1 x.2.1 x.2.2))) (none))
set_option maxHeartbeats 4000000 in
theorem Adq{W:World}(hW:Tabs W):GoodP (Fw W) Tryz.prog 39 Ado:=by
 have hD:=D7 hW
 have hC0:∀ x:Setup × Bool × Nat,Ad (Fw W) Tryz.prog C8:=fun x=>(Ge hW)
 refine Ax (D:=C6) (C:=fun x=>C8) (wr:=(fun _=>false)) rfl Aq hD hC0 Tryz.func39 (Adp) (fun _=>rfl) ?_
 rintro⟨⟨l,k⟩,is,m⟩ hf hp
 clear hf
 obtain⟨hp,hm⟩:=hp
 have hp0:=hp
 have hA2:m≤10000:=hm
 obtain⟨⟨hl1,hl2⟩,⟨hk1,hk2⟩,hs,hn⟩:=K0 hp
 have hjn:=S6 ⟨hk1,hk2⟩
 rcases l with _|⟨a,_|⟨b,_|⟨c,_|⟨d,_|⟨e,l⟩⟩⟩⟩⟩
 ·exact absurd hl1 (by decide)
 ·have hja:=Cu (hs a (by simp))
  (conv=>whnf)
  (repeat' ((first
   |with_reducible exact⟨⟩
   |((with_reducible refine aI ?_ ?_);focus (simp only[Ag,ty5,Ap,List.length_append,List.length_cons,List.length_nil,List.toList_toArray];first|omega|(refine⟨?_,?_⟩<;>omega)))
   |(split<;>rename_i hh<;>(try simp only[wS] at hh))
   |with_reducible refine lnI fun hln=>?_
   |fail)<;>(conv=>whnf)))
  all_goals try (exfalso;omega)
  refine⟨(⟨[a],k⟩:Setup),hp0,?_,?_⟩
  ·exact Aj _
  (conv=>whnf)
  (repeat' ((first
   |with_reducible exact⟨⟩
   |(with_reducible refine Ac ?_)
   |((with_reducible refine aI ?_ ?_);focus (first|with_reducible exact⟨⟩|with_reducible rfl))
   |(split<;>rename_i hh<;>(try simp only[wS] at hh))
   |with_reducible refine iA ?_ ?_
   |fail)<;>(conv=>whnf)))
  all_goals (try (show _=_;simp only[wQ]))
  all_goals try (exact absurd (show false=true by assumption) Bool.false_ne_true)
  refine⟨⟨by omega,fun e he=>by rcases(by omega:e=0∨e=1) with rfl|rfl<;>rfl⟩,?_⟩
  refine⟨((Ep k,[32]):List (List UInt8) × List UInt8),⟨Nat.le_trans hjn (by decide),(nB rfl)⟩,?_,?_⟩
  ·(conv=>whnf)
   (repeat' ((first|with_reducible exact⟨⟩|((with_reducible refine aI ?_ ?_);focus (exact tA))|with_reducible refine iA ?_ ?_|fail)<;>(conv=>whnf)))
   all_goals (try simp only[wQ])
   exact⟨fun h=>h,fun e he=>by have he:e<2:=he;rcases(by omega:e=0∨e=1) with rfl|rfl<;>rfl⟩
  (conv=>whnf)
  (repeat' ((first
   |(with_reducible refine Ac ?_)
   |(exact absurd hh (by rw[List.length_append];exact Nat.succ_ne_zero _))
   |((with_reducible refine aI ?_ ?_);focus (simp only[Ag,ty5,Ap,List.length_append,List.length_cons,List.length_nil,List.toList_toArray];first|omega|(refine⟨?_,?_⟩<;>omega)))
   |((with_reducible refine aI ?_ ?_);focus (first|with_reducible exact⟨⟩|exact tO|decide))
   |(split<;>rename_i hh<;>(try simp only[wS] at hh))
   |with_reducible refine lnI fun hln=>?_
   |fail)<;>(conv=>whnf)))
  refine⟨⟨by omega,fun e he=>by rcases(by omega:e=0∨e=1∨e=2∨e=3∨e=4∨e=5∨e=6) with rfl|rfl|rfl|rfl|rfl|rfl|rfl<;>rfl⟩,?_⟩
  refine⟨((A8 a,[32]):List (List UInt8) × List UInt8),⟨Nat.le_trans hja (by decide),(nB rfl)⟩,?_,?_⟩
  ·(conv=>whnf)
   (repeat' ((first|with_reducible exact⟨⟩|((with_reducible refine aI ?_ ?_);focus (exact tA))|with_reducible refine iA ?_ ?_|fail)<;>(conv=>whnf)))
   all_goals (try simp only[wQ])
   exact⟨fun h=>h,fun e he=>by have he:e<7:=he;rcases(by omega:e=0∨e=1∨e=2∨e=3∨e=4∨e=5∨e=6) with rfl|rfl|rfl|rfl|rfl|rfl|rfl<;>rfl⟩
  (conv=>whnf)
  (repeat' ((first
   |(with_reducible refine Ac ?_)
   |((with_reducible refine aI ?_ ?_);focus (simp only[Ag,ty5,Ap,List.length_append,List.length_cons,List.length_nil,List.toList_toArray];first|omega|(refine⟨?_,?_⟩<;>omega)))
   |((with_reducible refine aI ?_ ?_);focus (refine⟨Nat.le_refl _,?_,fun e he=>rfl⟩;simp only[Ag,ty5,Ap,List.length_append,List.length_cons,List.length_nil,List.toList_toArray];first|omega|(refine⟨?_,?_⟩<;>omega)))
   |((with_reducible refine aI ?_ ?_);focus (first|with_reducible rfl|exact tK|decide))
   |with_reducible refine lnI fun hln=>?_
   |fail)<;>(conv=>whnf)))
  have hT:D4 (C1 ⟨[a],k⟩++List.replicate 0 (Au (Bp is)))=((Lib.join (Ep k) [32]++[10])++(Lib.join (A8 a) [32]++[10])):=by unfold C1 D4;simp
  refine⟨?_,fun(x:Nat × List UInt8) hx=>?_⟩
  ·(conv=>whnf)
   refine⟨((0,((Lib.join (Ep k) [32]++[10])++(Lib.join (A8 a) [32]++[10]))):Nat × List UInt8),[28],?_,⟨⟨rfl,(nB rfl),rfl⟩,?_,?_⟩⟩
   ·exact⟨Nat.zero_le _,hT.symm,by show((Lib.join (Ep k) [32]++[10])++(Lib.join (A8 a) [32]++[10])).length≤_;simp only[List.length_append,List.length_cons,List.length_nil];omega⟩
   ·exact tL
   ·(conv=>whnf)
    (repeat' ((first|with_reducible exact⟨⟩|((with_reducible refine aI ?_ ?_);focus (exact tA))|with_reducible refine iA ?_ ?_|with_reducible refine iL ?_ ?_|with_reducible refine iB ?_ ?_|fail)<;>(conv=>whnf)))
    all_goals (try simp only[wQ])
    ·exact⟨by simp only[List.length_append],.inl True.intro⟩
    ·exact⟨⟨rfl,Nat.le_of_eq (by simp only[List.length_append]),fun e he=>⟨Dr rfl (fun _ _=>rfl) e (by simpa only[List.length_append] using he),rfl⟩⟩,rfl⟩
  ·obtain⟨i,T⟩:=x
   obtain⟨h1,h2,h3⟩:=hx
   change i≤m at h1
   change T=D4 (C1 ⟨[a],k⟩++List.replicate i (Au (Bp is))) at h2
   change T.length≤2000+i*1000001 at h3
   by_cases hi:i<m
   ·have hmi:=M5 is
    have hsh:=Ha hmi
    have hst:List.replicate (i+1) (Au (Bp is))=List.replicate i (Au (Bp is))++[Au (Bp is)]:=List.replicate_succ'
    have hal:(Au (Bp is)).length≤1000000:=Nat.le_trans (J2 is) (by decide)
    (conv=>whnf)
    (repeat' ((first
     |with_reducible exact⟨⟩
     |((with_reducible refine aI ?_ ?_);focus (simp only[Ag,ty5,Ap,List.length_append,List.length_cons,List.length_nil,List.toList_toArray];first|omega|(refine⟨?_,?_⟩<;>omega)))
     |(split<;>rename_i hh<;>(try simp only[wS] at hh))
     |fail)<;>(conv=>whnf)))
    all_goals try (exfalso;omega)
    refine⟨(Bp is:Act),hsh,?_,?_⟩
    ·exact tL
    (conv=>whnf)
    (repeat' ((first
     |with_reducible exact⟨⟩
     |((with_reducible refine aI ?_ ?_);focus (with_reducible rfl))
     |(split<;>rename_i hh<;>(try simp only[wS] at hh))
     |with_reducible refine iA ?_ ?_
     |fail)<;>(conv=>whnf)))
    all_goals (try (show _=_;simp only[wQ]))
    all_goals try (exact absurd (hmi.symm.trans (by assumption)) Bool.true_eq_false.mp)
    refine⟨(Bp is:Act),hsh,?_,?_⟩
    ·exact tL
    (conv=>whnf)
    (repeat' ((first
     |(with_reducible refine Ac ?_)
     |fail)<;>(conv=>whnf)))
    refine⟨⟨by omega,fun e he=>by obtain rfl:e=0:=(by omega);rfl⟩,?_⟩
    refine⟨(([Au (Bp is)],[32]):List (List UInt8) × List UInt8),⟨by show(Lib.join [Au (Bp is)] [32]).length≤_;rw[Lib.join_one];omega,(nB rfl)⟩,?_,?_⟩
    ·(conv=>whnf)
     (repeat' ((first|with_reducible exact⟨⟩|((with_reducible refine aI ?_ ?_);focus (exact tA))|with_reducible refine iA ?_ ?_|fail)<;>(conv=>whnf)))
     all_goals (try simp only[wQ])
     exact⟨fun h=>h,fun e he=>by have he:e<1:=he;obtain rfl:e=0:=(by omega);rfl⟩
    have hj1:(Lib.join [Au (Bp is)] [32]).length≤1000000:=by rw[Lib.join_one];exact hal
    (conv=>whnf)
    (repeat' ((first
     |(with_reducible refine Ac ?_)
     |((with_reducible refine aI ?_ ?_);focus (simp only[Ag,ty5,Ap,List.length_append,List.length_cons,List.length_nil,List.toList_toArray];first|omega|(refine⟨?_,?_⟩<;>omega)))
     |((with_reducible refine aI ?_ ?_);focus (refine⟨Nat.le_refl _,?_,fun e he=>rfl⟩;simp only[Ag,ty5,Ap,List.length_append,List.length_cons,List.length_nil,List.toList_toArray];first|omega|(refine⟨?_,?_⟩<;>omega)))
     |((with_reducible refine aI ?_ ?_);focus (first|with_reducible rfl|exact tK|decide))
     |with_reducible refine lnI fun hln=>?_
     |fail)<;>(conv=>whnf)))
    (conv=>whnf)
    refine⟨((i+1,T++(Lib.join [Au (Bp is)] [32]++[10])):Nat × List UInt8),[32],?_,⟨⟨rfl,(nB rfl),rfl⟩,?_,?_⟩⟩
    ·refine⟨⟨show i+1≤m by omega,?_,?_⟩,show m - (i+1)<m - i by omega⟩
     ·show T++(Lib.join [Au (Bp is)] [32]++[10])=D4 (C1 ⟨[a],k⟩++List.replicate (i+1) (Au (Bp is)))
      rw[hst,h2,Lib.join_one,←G9,List.append_assoc]
     ·show(T++(Lib.join [Au (Bp is)] [32]++[10])).length≤2000+(i+1)*1000001
      rw[List.length_append,List.length_append];simp only[List.length_cons,List.length_nil];omega
    ·exact tL
    ·(conv=>whnf)
     (repeat' ((first|with_reducible exact⟨⟩|((with_reducible refine aI ?_ ?_);focus (exact tA))|with_reducible refine iA ?_ ?_|with_reducible refine iL ?_ ?_|with_reducible refine iB ?_ ?_|fail)<;>(conv=>whnf)))
     all_goals (try simp only[wQ])
     ·exact⟨by simp only[List.length_append],.inl True.intro⟩
     ·exact⟨⟨(by first|rfl|exact True.intro),Nat.le_of_eq (by simp only[List.length_append]),fun e he=>⟨Dr rfl (fun _ _=>rfl) e (by simpa only[List.length_append] using he),rfl⟩⟩,rfl⟩
   ·have hie:i=m:=by omega
    have hfin:bytesOf T.length (Dz T)=scW ⟨[a],k⟩ (List.replicate m (Bp is)):=by unfold scW scL;rw[show bytesOf T.length (Dz T)=T from El T,h2,hie,List.map_replicate]
    have hpos:0<T.length:=by rw[h2];unfold C1 D4;simp;omega
    (conv=>whnf)
    (repeat' ((first
     |((with_reducible refine aI ?_ ?_);focus (simp only[Ag,ty5,Ap,List.length_append,List.length_cons,List.length_nil,List.toList_toArray];first|omega|(refine⟨?_,?_⟩<;>omega)))
     |(split<;>rename_i hh<;>(try simp only[wS] at hh))
     |fail)<;>(conv=>whnf)))
    all_goals try (exfalso;omega)
    refine⟨⟨rfl,hpos,Nat.le_refl _,fun e he=>rfl⟩,?_⟩
    (conv=>whnf)
    (repeat' ((first
     |with_reducible exact⟨⟩
     |((with_reducible refine aI ?_ ?_);focus (with_reducible rfl))
     |with_reducible refine iA ?_ ?_
     |fail)<;>(conv=>whnf)))
    all_goals (try (show _=_;simp only[wQ]))
    all_goals first|exact hfin|rfl|skip
 ·have hja:=Cu (hs a (by simp))
  have hjb:=Cu (hs b (by simp))
  (conv=>whnf)
  (repeat' ((first
   |with_reducible exact⟨⟩
   |((with_reducible refine aI ?_ ?_);focus (simp only[Ag,ty5,Ap,List.length_append,List.length_cons,List.length_nil,List.toList_toArray];first|omega|(refine⟨?_,?_⟩<;>omega)))
   |(split<;>rename_i hh<;>(try simp only[wS] at hh))
   |with_reducible refine lnI fun hln=>?_
   |fail)<;>(conv=>whnf)))
  all_goals try (exfalso;omega)
  refine⟨(⟨[a,b],k⟩:Setup),hp0,?_,?_⟩
  ·exact Aj _
  (conv=>whnf)
  (repeat' ((first
   |with_reducible exact⟨⟩
   |(with_reducible refine Ac ?_)
   |((with_reducible refine aI ?_ ?_);focus (first|with_reducible exact⟨⟩|with_reducible rfl))
   |(split<;>rename_i hh<;>(try simp only[wS] at hh))
   |with_reducible refine iA ?_ ?_
   |fail)<;>(conv=>whnf)))
  all_goals (try (show _=_;simp only[wQ]))
  all_goals try (exact absurd (show false=true by assumption) Bool.false_ne_true)
  refine⟨⟨by omega,fun e he=>by rcases(by omega:e=0∨e=1) with rfl|rfl<;>rfl⟩,?_⟩
  refine⟨((Ep k,[32]):List (List UInt8) × List UInt8),⟨Nat.le_trans hjn (by decide),(nB rfl)⟩,?_,?_⟩
  ·(conv=>whnf)
   (repeat' ((first|with_reducible exact⟨⟩|((with_reducible refine aI ?_ ?_);focus (exact tA))|with_reducible refine iA ?_ ?_|fail)<;>(conv=>whnf)))
   all_goals (try simp only[wQ])
   exact⟨fun h=>h,fun e he=>by have he:e<2:=he;rcases(by omega:e=0∨e=1) with rfl|rfl<;>rfl⟩
  (conv=>whnf)
  (repeat' ((first
   |(with_reducible refine Ac ?_)
   |(exact absurd hh (by rw[List.length_append];exact Nat.succ_ne_zero _))
   |((with_reducible refine aI ?_ ?_);focus (simp only[Ag,ty5,Ap,List.length_append,List.length_cons,List.length_nil,List.toList_toArray];first|omega|(refine⟨?_,?_⟩<;>omega)))
   |((with_reducible refine aI ?_ ?_);focus (first|with_reducible exact⟨⟩|exact tO|decide))
   |(split<;>rename_i hh<;>(try simp only[wS] at hh))
   |with_reducible refine lnI fun hln=>?_
   |fail)<;>(conv=>whnf)))
  refine⟨⟨by omega,fun e he=>by rcases(by omega:e=0∨e=1∨e=2∨e=3∨e=4∨e=5∨e=6) with rfl|rfl|rfl|rfl|rfl|rfl|rfl<;>rfl⟩,?_⟩
  refine⟨((A8 a,[32]):List (List UInt8) × List UInt8),⟨Nat.le_trans hja (by decide),(nB rfl)⟩,?_,?_⟩
  ·(conv=>whnf)
   (repeat' ((first|with_reducible exact⟨⟩|((with_reducible refine aI ?_ ?_);focus (exact tA))|with_reducible refine iA ?_ ?_|fail)<;>(conv=>whnf)))
   all_goals (try simp only[wQ])
   exact⟨fun h=>h,fun e he=>by have he:e<7:=he;rcases(by omega:e=0∨e=1∨e=2∨e=3∨e=4∨e=5∨e=6) with rfl|rfl|rfl|rfl|rfl|rfl|rfl<;>rfl⟩
  (conv=>whnf)
  (repeat' ((first
   |(with_reducible refine Ac ?_)
   |((with_reducible refine aI ?_ ?_);focus (simp only[Ag,ty5,Ap,List.length_append,List.length_cons,List.length_nil,List.toList_toArray];first|omega|(refine⟨?_,?_⟩<;>omega)))
   |((with_reducible refine aI ?_ ?_);focus (refine⟨Nat.le_refl _,?_,fun e he=>rfl⟩;simp only[Ag,ty5,Ap,List.length_append,List.length_cons,List.length_nil,List.toList_toArray];first|omega|(refine⟨?_,?_⟩<;>omega)))
   |((with_reducible refine aI ?_ ?_);focus (first|with_reducible exact⟨⟩|exact tO|with_reducible rfl|exact tK|decide))
   |with_reducible refine lnI fun hln=>?_
   |fail)<;>(conv=>whnf)))
  refine⟨⟨by omega,fun e he=>by rcases(by omega:e=0∨e=1∨e=2∨e=3∨e=4∨e=5∨e=6) with rfl|rfl|rfl|rfl|rfl|rfl|rfl<;>rfl⟩,?_⟩
  refine⟨((A8 b,[32]):List (List UInt8) × List UInt8),⟨Nat.le_trans hjb (by decide),(nB rfl)⟩,?_,?_⟩
  ·(conv=>whnf)
   (repeat' ((first|with_reducible exact⟨⟩|((with_reducible refine aI ?_ ?_);focus (exact tA))|with_reducible refine iA ?_ ?_|fail)<;>(conv=>whnf)))
   all_goals (try simp only[wQ])
   exact⟨fun h=>h,fun e he=>by have he:e<7:=he;rcases(by omega:e=0∨e=1∨e=2∨e=3∨e=4∨e=5∨e=6) with rfl|rfl|rfl|rfl|rfl|rfl|rfl<;>rfl⟩
  (conv=>whnf)
  (repeat' ((first
   |(with_reducible refine Ac ?_)
   |((with_reducible refine aI ?_ ?_);focus (simp only[Ag,ty5,Ap,List.length_append,List.length_cons,List.length_nil,List.toList_toArray];first|omega|(refine⟨?_,?_⟩<;>omega)))
   |((with_reducible refine aI ?_ ?_);focus (refine⟨Nat.le_refl _,?_,fun e he=>rfl⟩;simp only[Ag,ty5,Ap,List.length_append,List.length_cons,List.length_nil,List.toList_toArray];first|omega|(refine⟨?_,?_⟩<;>omega)))
   |((with_reducible refine aI ?_ ?_);focus (first|with_reducible rfl|exact tK|decide))
   |with_reducible refine lnI fun hln=>?_
   |fail)<;>(conv=>whnf)))
  have hT:D4 (C1 ⟨[a,b],k⟩++List.replicate 0 (Au (Bp is)))=(((Lib.join (Ep k) [32]++[10])++(Lib.join (A8 a) [32]++[10]))++(Lib.join (A8 b) [32]++[10])):=by unfold C1 D4;simp
  refine⟨?_,fun(x:Nat × List UInt8) hx=>?_⟩
  ·(conv=>whnf)
   refine⟨((0,(((Lib.join (Ep k) [32]++[10])++(Lib.join (A8 a) [32]++[10]))++(Lib.join (A8 b) [32]++[10]))):Nat × List UInt8),[53],?_,⟨⟨rfl,(nB rfl),rfl⟩,?_,?_⟩⟩
   ·exact⟨Nat.zero_le _,hT.symm,by show(((Lib.join (Ep k) [32]++[10])++(Lib.join (A8 a) [32]++[10]))++(Lib.join (A8 b) [32]++[10])).length≤_;simp only[List.length_append,List.length_cons,List.length_nil];omega⟩
   ·exact tL
   ·(conv=>whnf)
    (repeat' ((first|with_reducible exact⟨⟩|((with_reducible refine aI ?_ ?_);focus (exact tA))|with_reducible refine iA ?_ ?_|with_reducible refine iL ?_ ?_|with_reducible refine iB ?_ ?_|fail)<;>(conv=>whnf)))
    all_goals (try simp only[wQ])
    ·exact⟨by simp only[List.length_append],.inl True.intro⟩
    ·exact⟨⟨rfl,Nat.le_of_eq (by simp only[List.length_append]),fun e he=>⟨Dr (by simp only[List.length_append]) (Dr rfl (fun _ _=>rfl)) e (by simpa only[List.length_append] using he),rfl⟩⟩,rfl⟩
  ·obtain⟨i,T⟩:=x
   obtain⟨h1,h2,h3⟩:=hx
   change i≤m at h1
   change T=D4 (C1 ⟨[a,b],k⟩++List.replicate i (Au (Bp is))) at h2
   change T.length≤2000+i*1000001 at h3
   by_cases hi:i<m
   ·have hmi:=M5 is
    have hsh:=Ha hmi
    have hst:List.replicate (i+1) (Au (Bp is))=List.replicate i (Au (Bp is))++[Au (Bp is)]:=List.replicate_succ'
    have hal:(Au (Bp is)).length≤1000000:=Nat.le_trans (J2 is) (by decide)
    (conv=>whnf)
    (repeat' ((first
     |with_reducible exact⟨⟩
     |((with_reducible refine aI ?_ ?_);focus (simp only[Ag,ty5,Ap,List.length_append,List.length_cons,List.length_nil,List.toList_toArray];first|omega|(refine⟨?_,?_⟩<;>omega)))
     |(split<;>rename_i hh<;>(try simp only[wS] at hh))
     |fail)<;>(conv=>whnf)))
    all_goals try (exfalso;omega)
    refine⟨(Bp is:Act),hsh,?_,?_⟩
    ·exact tL
    (conv=>whnf)
    (repeat' ((first
     |with_reducible exact⟨⟩
     |((with_reducible refine aI ?_ ?_);focus (with_reducible rfl))
     |(split<;>rename_i hh<;>(try simp only[wS] at hh))
     |with_reducible refine iA ?_ ?_
     |fail)<;>(conv=>whnf)))
    all_goals (try (show _=_;simp only[wQ]))
    all_goals try (exact absurd (hmi.symm.trans (by assumption)) Bool.true_eq_false.mp)
    refine⟨(Bp is:Act),hsh,?_,?_⟩
    ·exact tL
    (conv=>whnf)
    (repeat' ((first
     |(with_reducible refine Ac ?_)
     |fail)<;>(conv=>whnf)))
    refine⟨⟨by omega,fun e he=>by obtain rfl:e=0:=(by omega);rfl⟩,?_⟩
    refine⟨(([Au (Bp is)],[32]):List (List UInt8) × List UInt8),⟨by show(Lib.join [Au (Bp is)] [32]).length≤_;rw[Lib.join_one];omega,(nB rfl)⟩,?_,?_⟩
    ·(conv=>whnf)
     (repeat' ((first|with_reducible exact⟨⟩|((with_reducible refine aI ?_ ?_);focus (exact tA))|with_reducible refine iA ?_ ?_|fail)<;>(conv=>whnf)))
     all_goals (try simp only[wQ])
     exact⟨fun h=>h,fun e he=>by have he:e<1:=he;obtain rfl:e=0:=(by omega);rfl⟩
    have hj1:(Lib.join [Au (Bp is)] [32]).length≤1000000:=by rw[Lib.join_one];exact hal
    (conv=>whnf)
    (repeat' ((first
     |(with_reducible refine Ac ?_)
     |((with_reducible refine aI ?_ ?_);focus (simp only[Ag,ty5,Ap,List.length_append,List.length_cons,List.length_nil,List.toList_toArray];first|omega|(refine⟨?_,?_⟩<;>omega)))
     |((with_reducible refine aI ?_ ?_);focus (refine⟨Nat.le_refl _,?_,fun e he=>rfl⟩;simp only[Ag,ty5,Ap,List.length_append,List.length_cons,List.length_nil,List.toList_toArray];first|omega|(refine⟨?_,?_⟩<;>omega)))
     |((with_reducible refine aI ?_ ?_);focus (first|with_reducible rfl|exact tK|decide))
     |with_reducible refine lnI fun hln=>?_
     |fail)<;>(conv=>whnf)))
    (conv=>whnf)
    refine⟨((i+1,T++(Lib.join [Au (Bp is)] [32]++[10])):Nat × List UInt8),[57],?_,⟨⟨rfl,(nB rfl),rfl⟩,?_,?_⟩⟩
    ·refine⟨⟨show i+1≤m by omega,?_,?_⟩,show m - (i+1)<m - i by omega⟩
     ·show T++(Lib.join [Au (Bp is)] [32]++[10])=D4 (C1 ⟨[a,b],k⟩++List.replicate (i+1) (Au (Bp is)))
      rw[hst,h2,Lib.join_one,←G9,List.append_assoc]
     ·show(T++(Lib.join [Au (Bp is)] [32]++[10])).length≤2000+(i+1)*1000001
      rw[List.length_append,List.length_append];simp only[List.length_cons,List.length_nil];omega
    ·exact tL
    ·(conv=>whnf)
     (repeat' ((first|with_reducible exact⟨⟩|((with_reducible refine aI ?_ ?_);focus (exact tA))|with_reducible refine iA ?_ ?_|with_reducible refine iL ?_ ?_|with_reducible refine iB ?_ ?_|fail)<;>(conv=>whnf)))
     all_goals (try simp only[wQ])
     ·exact⟨by simp only[List.length_append],.inl True.intro⟩
     ·exact⟨⟨(by first|rfl|exact True.intro),Nat.le_of_eq (by simp only[List.length_append]),fun e he=>⟨Dr rfl (fun _ _=>rfl) e (by simpa only[List.length_append] using he),rfl⟩⟩,rfl⟩
   ·have hie:i=m:=by omega
    have hfin:bytesOf T.length (Dz T)=scW ⟨[a,b],k⟩ (List.replicate m (Bp is)):=by unfold scW scL;rw[show bytesOf T.length (Dz T)=T from El T,h2,hie,List.map_replicate]
    have hpos:0<T.length:=by rw[h2];unfold C1 D4;simp;omega
    (conv=>whnf)
    (repeat' ((first
     |((with_reducible refine aI ?_ ?_);focus (simp only[Ag,ty5,Ap,List.length_append,List.length_cons,List.length_nil,List.toList_toArray];first|omega|(refine⟨?_,?_⟩<;>omega)))
     |(split<;>rename_i hh<;>(try simp only[wS] at hh))
     |fail)<;>(conv=>whnf)))
    all_goals try (exfalso;omega)
    refine⟨⟨rfl,hpos,Nat.le_refl _,fun e he=>rfl⟩,?_⟩
    (conv=>whnf)
    (repeat' ((first
     |with_reducible exact⟨⟩
     |((with_reducible refine aI ?_ ?_);focus (with_reducible rfl))
     |with_reducible refine iA ?_ ?_
     |fail)<;>(conv=>whnf)))
    all_goals (try (show _=_;simp only[wQ]))
    all_goals first|exact hfin|rfl|skip
 ·have hja:=Cu (hs a (by simp))
  have hjb:=Cu (hs b (by simp))
  have hjc:=Cu (hs c (by simp))
  (conv=>whnf)
  (repeat' ((first
   |with_reducible exact⟨⟩
   |((with_reducible refine aI ?_ ?_);focus (simp only[Ag,ty5,Ap,List.length_append,List.length_cons,List.length_nil,List.toList_toArray];first|omega|(refine⟨?_,?_⟩<;>omega)))
   |(split<;>rename_i hh<;>(try simp only[wS] at hh))
   |with_reducible refine lnI fun hln=>?_
   |fail)<;>(conv=>whnf)))
  all_goals try (exfalso;omega)
  refine⟨(⟨[a,b,c],k⟩:Setup),hp0,?_,?_⟩
  ·exact Aj _
  (conv=>whnf)
  (repeat' ((first
   |with_reducible exact⟨⟩
   |(with_reducible refine Ac ?_)
   |((with_reducible refine aI ?_ ?_);focus (first|with_reducible exact⟨⟩|with_reducible rfl))
   |(split<;>rename_i hh<;>(try simp only[wS] at hh))
   |with_reducible refine iA ?_ ?_
   |fail)<;>(conv=>whnf)))
  all_goals (try (show _=_;simp only[wQ]))
  all_goals try (exact absurd (show false=true by assumption) Bool.false_ne_true)
  refine⟨⟨by omega,fun e he=>by rcases(by omega:e=0∨e=1) with rfl|rfl<;>rfl⟩,?_⟩
  refine⟨((Ep k,[32]):List (List UInt8) × List UInt8),⟨Nat.le_trans hjn (by decide),(nB rfl)⟩,?_,?_⟩
  ·(conv=>whnf)
   (repeat' ((first|with_reducible exact⟨⟩|((with_reducible refine aI ?_ ?_);focus (exact tA))|with_reducible refine iA ?_ ?_|fail)<;>(conv=>whnf)))
   all_goals (try simp only[wQ])
   exact⟨fun h=>h,fun e he=>by have he:e<2:=he;rcases(by omega:e=0∨e=1) with rfl|rfl<;>rfl⟩
  (conv=>whnf)
  (repeat' ((first
   |(with_reducible refine Ac ?_)
   |(exact absurd hh (by rw[List.length_append];exact Nat.succ_ne_zero _))
   |((with_reducible refine aI ?_ ?_);focus (simp only[Ag,ty5,Ap,List.length_append,List.length_cons,List.length_nil,List.toList_toArray];first|omega|(refine⟨?_,?_⟩<;>omega)))
   |((with_reducible refine aI ?_ ?_);focus (first|with_reducible exact⟨⟩|exact tO|decide))
   |(split<;>rename_i hh<;>(try simp only[wS] at hh))
   |with_reducible refine lnI fun hln=>?_
   |fail)<;>(conv=>whnf)))
  refine⟨⟨by omega,fun e he=>by rcases(by omega:e=0∨e=1∨e=2∨e=3∨e=4∨e=5∨e=6) with rfl|rfl|rfl|rfl|rfl|rfl|rfl<;>rfl⟩,?_⟩
  refine⟨((A8 a,[32]):List (List UInt8) × List UInt8),⟨Nat.le_trans hja (by decide),(nB rfl)⟩,?_,?_⟩
  ·(conv=>whnf)
   (repeat' ((first|with_reducible exact⟨⟩|((with_reducible refine aI ?_ ?_);focus (exact tA))|with_reducible refine iA ?_ ?_|fail)<;>(conv=>whnf)))
   all_goals (try simp only[wQ])
   exact⟨fun h=>h,fun e he=>by have he:e<7:=he;rcases(by omega:e=0∨e=1∨e=2∨e=3∨e=4∨e=5∨e=6) with rfl|rfl|rfl|rfl|rfl|rfl|rfl<;>rfl⟩
  (conv=>whnf)
  (repeat' ((first
   |(with_reducible refine Ac ?_)
   |((with_reducible refine aI ?_ ?_);focus (simp only[Ag,ty5,Ap,List.length_append,List.length_cons,List.length_nil,List.toList_toArray];first|omega|(refine⟨?_,?_⟩<;>omega)))
   |((with_reducible refine aI ?_ ?_);focus (refine⟨Nat.le_refl _,?_,fun e he=>rfl⟩;simp only[Ag,ty5,Ap,List.length_append,List.length_cons,List.length_nil,List.toList_toArray];first|omega|(refine⟨?_,?_⟩<;>omega)))
   |((with_reducible refine aI ?_ ?_);focus (first|with_reducible exact⟨⟩|exact tO|with_reducible rfl|exact tK|decide))
   |with_reducible refine lnI fun hln=>?_
   |fail)<;>(conv=>whnf)))
  refine⟨⟨by omega,fun e he=>by rcases(by omega:e=0∨e=1∨e=2∨e=3∨e=4∨e=5∨e=6) with rfl|rfl|rfl|rfl|rfl|rfl|rfl<;>rfl⟩,?_⟩
  refine⟨((A8 b,[32]):List (List UInt8) × List UInt8),⟨Nat.le_trans hjb (by decide),(nB rfl)⟩,?_,?_⟩
  ·(conv=>whnf)
   (repeat' ((first|with_reducible exact⟨⟩|((with_reducible refine aI ?_ ?_);focus (exact tA))|with_reducible refine iA ?_ ?_|fail)<;>(conv=>whnf)))
   all_goals (try simp only[wQ])
   exact⟨fun h=>h,fun e he=>by have he:e<7:=he;rcases(by omega:e=0∨e=1∨e=2∨e=3∨e=4∨e=5∨e=6) with rfl|rfl|rfl|rfl|rfl|rfl|rfl<;>rfl⟩
  (conv=>whnf)
  (repeat' ((first
   |(with_reducible refine Ac ?_)
   |((with_reducible refine aI ?_ ?_);focus (simp only[Ag,ty5,Ap,List.length_append,List.length_cons,List.length_nil,List.toList_toArray];first|omega|(refine⟨?_,?_⟩<;>omega)))
   |((with_reducible refine aI ?_ ?_);focus (refine⟨Nat.le_refl _,?_,fun e he=>rfl⟩;simp only[Ag,ty5,Ap,List.length_append,List.length_cons,List.length_nil,List.toList_toArray];first|omega|(refine⟨?_,?_⟩<;>omega)))
   |((with_reducible refine aI ?_ ?_);focus (first|with_reducible exact⟨⟩|exact tO|with_reducible rfl|exact tK|decide))
   |with_reducible refine lnI fun hln=>?_
   |fail)<;>(conv=>whnf)))
  refine⟨⟨by omega,fun e he=>by rcases(by omega:e=0∨e=1∨e=2∨e=3∨e=4∨e=5∨e=6) with rfl|rfl|rfl|rfl|rfl|rfl|rfl<;>rfl⟩,?_⟩
  refine⟨((A8 c,[32]):List (List UInt8) × List UInt8),⟨Nat.le_trans hjc (by decide),(nB rfl)⟩,?_,?_⟩
  ·(conv=>whnf)
   (repeat' ((first|with_reducible exact⟨⟩|((with_reducible refine aI ?_ ?_);focus (exact tA))|with_reducible refine iA ?_ ?_|fail)<;>(conv=>whnf)))
   all_goals (try simp only[wQ])
   exact⟨fun h=>h,fun e he=>by have he:e<7:=he;rcases(by omega:e=0∨e=1∨e=2∨e=3∨e=4∨e=5∨e=6) with rfl|rfl|rfl|rfl|rfl|rfl|rfl<;>rfl⟩
  (conv=>whnf)
  (repeat' ((first
   |(with_reducible refine Ac ?_)
   |((with_reducible refine aI ?_ ?_);focus (simp only[Ag,ty5,Ap,List.length_append,List.length_cons,List.length_nil,List.toList_toArray];first|omega|(refine⟨?_,?_⟩<;>omega)))
   |((with_reducible refine aI ?_ ?_);focus (refine⟨Nat.le_refl _,?_,fun e he=>rfl⟩;simp only[Ag,ty5,Ap,List.length_append,List.length_cons,List.length_nil,List.toList_toArray];first|omega|(refine⟨?_,?_⟩<;>omega)))
   |((with_reducible refine aI ?_ ?_);focus (first|with_reducible rfl|exact tK|decide))
   |with_reducible refine lnI fun hln=>?_
   |fail)<;>(conv=>whnf)))
  have hT:D4 (C1 ⟨[a,b,c],k⟩++List.replicate 0 (Au (Bp is)))=((((Lib.join (Ep k) [32]++[10])++(Lib.join (A8 a) [32]++[10]))++(Lib.join (A8 b) [32]++[10]))++(Lib.join (A8 c) [32]++[10])):=by unfold C1 D4;simp
  refine⟨?_,fun(x:Nat × List UInt8) hx=>?_⟩
  ·(conv=>whnf)
   refine⟨((0,((((Lib.join (Ep k) [32]++[10])++(Lib.join (A8 a) [32]++[10]))++(Lib.join (A8 b) [32]++[10]))++(Lib.join (A8 c) [32]++[10]))):Nat × List UInt8),[78],?_,⟨⟨rfl,(nB rfl),rfl⟩,?_,?_⟩⟩
   ·exact⟨Nat.zero_le _,hT.symm,by show((((Lib.join (Ep k) [32]++[10])++(Lib.join (A8 a) [32]++[10]))++(Lib.join (A8 b) [32]++[10]))++(Lib.join (A8 c) [32]++[10])).length≤_;simp only[List.length_append,List.length_cons,List.length_nil];omega⟩
   ·exact tL
   ·(conv=>whnf)
    (repeat' ((first|with_reducible exact⟨⟩|((with_reducible refine aI ?_ ?_);focus (exact tA))|with_reducible refine iA ?_ ?_|with_reducible refine iL ?_ ?_|with_reducible refine iB ?_ ?_|fail)<;>(conv=>whnf)))
    all_goals (try simp only[wQ])
    ·exact⟨by simp only[List.length_append],.inl True.intro⟩
    ·exact⟨⟨rfl,Nat.le_of_eq (by simp only[List.length_append]),fun e he=>⟨Dr (by simp only[List.length_append]) (Dr (by simp only[List.length_append]) (Dr rfl (fun _ _=>rfl))) e (by simpa only[List.length_append] using he),rfl⟩⟩,rfl⟩
  ·obtain⟨i,T⟩:=x
   obtain⟨h1,h2,h3⟩:=hx
   change i≤m at h1
   change T=D4 (C1 ⟨[a,b,c],k⟩++List.replicate i (Au (Bp is))) at h2
   change T.length≤2000+i*1000001 at h3
   by_cases hi:i<m
   ·have hmi:=M5 is
    have hsh:=Ha hmi
    have hst:List.replicate (i+1) (Au (Bp is))=List.replicate i (Au (Bp is))++[Au (Bp is)]:=List.replicate_succ'
    have hal:(Au (Bp is)).length≤1000000:=Nat.le_trans (J2 is) (by decide)
    (conv=>whnf)
    (repeat' ((first
     |with_reducible exact⟨⟩
     |((with_reducible refine aI ?_ ?_);focus (simp only[Ag,ty5,Ap,List.length_append,List.length_cons,List.length_nil,List.toList_toArray];first|omega|(refine⟨?_,?_⟩<;>omega)))
     |(split<;>rename_i hh<;>(try simp only[wS] at hh))
     |fail)<;>(conv=>whnf)))
    all_goals try (exfalso;omega)
    refine⟨(Bp is:Act),hsh,?_,?_⟩
    ·exact tL
    (conv=>whnf)
    (repeat' ((first
     |with_reducible exact⟨⟩
     |((with_reducible refine aI ?_ ?_);focus (with_reducible rfl))
     |(split<;>rename_i hh<;>(try simp only[wS] at hh))
     |with_reducible refine iA ?_ ?_
     |fail)<;>(conv=>whnf)))
    all_goals (try (show _=_;simp only[wQ]))
    all_goals try (exact absurd (hmi.symm.trans (by assumption)) Bool.true_eq_false.mp)
    refine⟨(Bp is:Act),hsh,?_,?_⟩
    ·exact tL
    (conv=>whnf)
    (repeat' ((first
     |(with_reducible refine Ac ?_)
     |fail)<;>(conv=>whnf)))
    refine⟨⟨by omega,fun e he=>by obtain rfl:e=0:=(by omega);rfl⟩,?_⟩
    refine⟨(([Au (Bp is)],[32]):List (List UInt8) × List UInt8),⟨by show(Lib.join [Au (Bp is)] [32]).length≤_;rw[Lib.join_one];omega,(nB rfl)⟩,?_,?_⟩
    ·(conv=>whnf)
     (repeat' ((first|with_reducible exact⟨⟩|((with_reducible refine aI ?_ ?_);focus (exact tA))|with_reducible refine iA ?_ ?_|fail)<;>(conv=>whnf)))
     all_goals (try simp only[wQ])
     exact⟨fun h=>h,fun e he=>by have he:e<1:=he;obtain rfl:e=0:=(by omega);rfl⟩
    have hj1:(Lib.join [Au (Bp is)] [32]).length≤1000000:=by rw[Lib.join_one];exact hal
    (conv=>whnf)
    (repeat' ((first
     |(with_reducible refine Ac ?_)
     |((with_reducible refine aI ?_ ?_);focus (simp only[Ag,ty5,Ap,List.length_append,List.length_cons,List.length_nil,List.toList_toArray];first|omega|(refine⟨?_,?_⟩<;>omega)))
     |((with_reducible refine aI ?_ ?_);focus (refine⟨Nat.le_refl _,?_,fun e he=>rfl⟩;simp only[Ag,ty5,Ap,List.length_append,List.length_cons,List.length_nil,List.toList_toArray];first|omega|(refine⟨?_,?_⟩<;>omega)))
     |((with_reducible refine aI ?_ ?_);focus (first|with_reducible rfl|exact tK|decide))
     |with_reducible refine lnI fun hln=>?_
     |fail)<;>(conv=>whnf)))
    (conv=>whnf)
    refine⟨((i+1,T++(Lib.join [Au (Bp is)] [32]++[10])):Nat × List UInt8),[82],?_,⟨⟨rfl,(nB rfl),rfl⟩,?_,?_⟩⟩
    ·refine⟨⟨show i+1≤m by omega,?_,?_⟩,show m - (i+1)<m - i by omega⟩
     ·show T++(Lib.join [Au (Bp is)] [32]++[10])=D4 (C1 ⟨[a,b,c],k⟩++List.replicate (i+1) (Au (Bp is)))
      rw[hst,h2,Lib.join_one,←G9,List.append_assoc]
     ·show(T++(Lib.join [Au (Bp is)] [32]++[10])).length≤2000+(i+1)*1000001
      rw[List.length_append,List.length_append];simp only[List.length_cons,List.length_nil];omega
    ·exact tL
    ·(conv=>whnf)
     (repeat' ((first|with_reducible exact⟨⟩|((with_reducible refine aI ?_ ?_);focus (exact tA))|with_reducible refine iA ?_ ?_|with_reducible refine iL ?_ ?_|with_reducible refine iB ?_ ?_|fail)<;>(conv=>whnf)))
     all_goals (try simp only[wQ])
     ·exact⟨by simp only[List.length_append],.inl True.intro⟩
     ·exact⟨⟨(by first|rfl|exact True.intro),Nat.le_of_eq (by simp only[List.length_append]),fun e he=>⟨Dr rfl (fun _ _=>rfl) e (by simpa only[List.length_append] using he),rfl⟩⟩,rfl⟩
   ·have hie:i=m:=by omega
    have hfin:bytesOf T.length (Dz T)=scW ⟨[a,b,c],k⟩ (List.replicate m (Bp is)):=by unfold scW scL;rw[show bytesOf T.length (Dz T)=T from El T,h2,hie,List.map_replicate]
    have hpos:0<T.length:=by rw[h2];unfold C1 D4;simp;omega
    (conv=>whnf)
    (repeat' ((first
     |((with_reducible refine aI ?_ ?_);focus (simp only[Ag,ty5,Ap,List.length_append,List.length_cons,List.length_nil,List.toList_toArray];first|omega|(refine⟨?_,?_⟩<;>omega)))
     |(split<;>rename_i hh<;>(try simp only[wS] at hh))
     |fail)<;>(conv=>whnf)))
    all_goals try (exfalso;omega)
    refine⟨⟨rfl,hpos,Nat.le_refl _,fun e he=>rfl⟩,?_⟩
    (conv=>whnf)
    (repeat' ((first
     |with_reducible exact⟨⟩
     |((with_reducible refine aI ?_ ?_);focus (with_reducible rfl))
     |with_reducible refine iA ?_ ?_
     |fail)<;>(conv=>whnf)))
    all_goals (try (show _=_;simp only[wQ]))
    all_goals first|exact hfin|rfl|skip
 ·have hja:=Cu (hs a (by simp))
  have hjb:=Cu (hs b (by simp))
  have hjc:=Cu (hs c (by simp))
  have hjd:=Cu (hs d (by simp))
  (conv=>whnf)
  (repeat' ((first
   |with_reducible exact⟨⟩
   |((with_reducible refine aI ?_ ?_);focus (simp only[Ag,ty5,Ap,List.length_append,List.length_cons,List.length_nil,List.toList_toArray];first|omega|(refine⟨?_,?_⟩<;>omega)))
   |(split<;>rename_i hh<;>(try simp only[wS] at hh))
   |with_reducible refine lnI fun hln=>?_
   |fail)<;>(conv=>whnf)))
  all_goals try (exfalso;omega)
  refine⟨(⟨[a,b,c,d],k⟩:Setup),hp0,?_,?_⟩
  ·exact Aj _
  (conv=>whnf)
  (repeat' ((first
   |with_reducible exact⟨⟩
   |(with_reducible refine Ac ?_)
   |((with_reducible refine aI ?_ ?_);focus (first|with_reducible exact⟨⟩|with_reducible rfl))
   |(split<;>rename_i hh<;>(try simp only[wS] at hh))
   |with_reducible refine iA ?_ ?_
   |fail)<;>(conv=>whnf)))
  all_goals (try (show _=_;simp only[wQ]))
  all_goals try (exact absurd (show false=true by assumption) Bool.false_ne_true)
  refine⟨⟨by omega,fun e he=>by rcases(by omega:e=0∨e=1) with rfl|rfl<;>rfl⟩,?_⟩
  refine⟨((Ep k,[32]):List (List UInt8) × List UInt8),⟨Nat.le_trans hjn (by decide),(nB rfl)⟩,?_,?_⟩
  ·(conv=>whnf)
   (repeat' ((first|with_reducible exact⟨⟩|((with_reducible refine aI ?_ ?_);focus (exact tA))|with_reducible refine iA ?_ ?_|fail)<;>(conv=>whnf)))
   all_goals (try simp only[wQ])
   exact⟨fun h=>h,fun e he=>by have he:e<2:=he;rcases(by omega:e=0∨e=1) with rfl|rfl<;>rfl⟩
  (conv=>whnf)
  (repeat' ((first
   |(with_reducible refine Ac ?_)
   |(exact absurd hh (by rw[List.length_append];exact Nat.succ_ne_zero _))
   |((with_reducible refine aI ?_ ?_);focus (simp only[Ag,ty5,Ap,List.length_append,List.length_cons,List.length_nil,List.toList_toArray];first|omega|(refine⟨?_,?_⟩<;>omega)))
   |((with_reducible refine aI ?_ ?_);focus (first|with_reducible exact⟨⟩|exact tO|decide))
   |(split<;>rename_i hh<;>(try simp only[wS] at hh))
   |with_reducible refine lnI fun hln=>?_
   |fail)<;>(conv=>whnf)))
  refine⟨⟨by omega,fun e he=>by rcases(by omega:e=0∨e=1∨e=2∨e=3∨e=4∨e=5∨e=6) with rfl|rfl|rfl|rfl|rfl|rfl|rfl<;>rfl⟩,?_⟩
  refine⟨((A8 a,[32]):List (List UInt8) × List UInt8),⟨Nat.le_trans hja (by decide),(nB rfl)⟩,?_,?_⟩
  ·(conv=>whnf)
   (repeat' ((first|with_reducible exact⟨⟩|((with_reducible refine aI ?_ ?_);focus (exact tA))|with_reducible refine iA ?_ ?_|fail)<;>(conv=>whnf)))
   all_goals (try simp only[wQ])
   exact⟨fun h=>h,fun e he=>by have he:e<7:=he;rcases(by omega:e=0∨e=1∨e=2∨e=3∨e=4∨e=5∨e=6) with rfl|rfl|rfl|rfl|rfl|rfl|rfl<;>rfl⟩
  (conv=>whnf)
  (repeat' ((first
   |(with_reducible refine Ac ?_)
   |((with_reducible refine aI ?_ ?_);focus (simp only[Ag,ty5,Ap,List.length_append,List.length_cons,List.length_nil,List.toList_toArray];first|omega|(refine⟨?_,?_⟩<;>omega)))
   |((with_reducible refine aI ?_ ?_);focus (refine⟨Nat.le_refl _,?_,fun e he=>rfl⟩;simp only[Ag,ty5,Ap,List.length_append,List.length_cons,List.length_nil,List.toList_toArray];first|omega|(refine⟨?_,?_⟩<;>omega)))
   |((with_reducible refine aI ?_ ?_);focus (first|with_reducible exact⟨⟩|exact tO|with_reducible rfl|exact tK|decide))
   |with_reducible refine lnI fun hln=>?_
   |fail)<;>(conv=>whnf)))
  refine⟨⟨by omega,fun e he=>by rcases(by omega:e=0∨e=1∨e=2∨e=3∨e=4∨e=5∨e=6) with rfl|rfl|rfl|rfl|rfl|rfl|rfl<;>rfl⟩,?_⟩
  refine⟨((A8 b,[32]):List (List UInt8) × List UInt8),⟨Nat.le_trans hjb (by decide),(nB rfl)⟩,?_,?_⟩
  ·(conv=>whnf)
   (repeat' ((first|with_reducible exact⟨⟩|((with_reducible refine aI ?_ ?_);focus (exact tA))|with_reducible refine iA ?_ ?_|fail)<;>(conv=>whnf)))
   all_goals (try simp only[wQ])
   exact⟨fun h=>h,fun e he=>by have he:e<7:=he;rcases(by omega:e=0∨e=1∨e=2∨e=3∨e=4∨e=5∨e=6) with rfl|rfl|rfl|rfl|rfl|rfl|rfl<;>rfl⟩
  (conv=>whnf)
  (repeat' ((first
   |(with_reducible refine Ac ?_)
   |((with_reducible refine aI ?_ ?_);focus (simp only[Ag,ty5,Ap,List.length_append,List.length_cons,List.length_nil,List.toList_toArray];first|omega|(refine⟨?_,?_⟩<;>omega)))
   |((with_reducible refine aI ?_ ?_);focus (refine⟨Nat.le_refl _,?_,fun e he=>rfl⟩;simp only[Ag,ty5,Ap,List.length_append,List.length_cons,List.length_nil,List.toList_toArray];first|omega|(refine⟨?_,?_⟩<;>omega)))
   |((with_reducible refine aI ?_ ?_);focus (first|with_reducible exact⟨⟩|exact tO|with_reducible rfl|exact tK|decide))
   |with_reducible refine lnI fun hln=>?_
   |fail)<;>(conv=>whnf)))
  refine⟨⟨by omega,fun e he=>by rcases(by omega:e=0∨e=1∨e=2∨e=3∨e=4∨e=5∨e=6) with rfl|rfl|rfl|rfl|rfl|rfl|rfl<;>rfl⟩,?_⟩
  refine⟨((A8 c,[32]):List (List UInt8) × List UInt8),⟨Nat.le_trans hjc (by decide),(nB rfl)⟩,?_,?_⟩
  ·(conv=>whnf)
   (repeat' ((first|with_reducible exact⟨⟩|((with_reducible refine aI ?_ ?_);focus (exact tA))|with_reducible refine iA ?_ ?_|fail)<;>(conv=>whnf)))
   all_goals (try simp only[wQ])
   exact⟨fun h=>h,fun e he=>by have he:e<7:=he;rcases(by omega:e=0∨e=1∨e=2∨e=3∨e=4∨e=5∨e=6) with rfl|rfl|rfl|rfl|rfl|rfl|rfl<;>rfl⟩
  (conv=>whnf)
  (repeat' ((first
   |(with_reducible refine Ac ?_)
   |((with_reducible refine aI ?_ ?_);focus (simp only[Ag,ty5,Ap,List.length_append,List.length_cons,List.length_nil,List.toList_toArray];first|omega|(refine⟨?_,?_⟩<;>omega)))
   |((with_reducible refine aI ?_ ?_);focus (refine⟨Nat.le_refl _,?_,fun e he=>rfl⟩;simp only[Ag,ty5,Ap,List.length_append,List.length_cons,List.length_nil,List.toList_toArray];first|omega|(refine⟨?_,?_⟩<;>omega)))
   |((with_reducible refine aI ?_ ?_);focus (first|with_reducible exact⟨⟩|exact tO|with_reducible rfl|exact tK|decide))
   |with_reducible refine lnI fun hln=>?_
   |fail)<;>(conv=>whnf)))
  refine⟨⟨by omega,fun e he=>by rcases(by omega:e=0∨e=1∨e=2∨e=3∨e=4∨e=5∨e=6) with rfl|rfl|rfl|rfl|rfl|rfl|rfl<;>rfl⟩,?_⟩
  refine⟨((A8 d,[32]):List (List UInt8) × List UInt8),⟨Nat.le_trans hjd (by decide),(nB rfl)⟩,?_,?_⟩
  ·(conv=>whnf)
   (repeat' ((first|with_reducible exact⟨⟩|((with_reducible refine aI ?_ ?_);focus (exact tA))|with_reducible refine iA ?_ ?_|fail)<;>(conv=>whnf)))
   all_goals (try simp only[wQ])
   exact⟨fun h=>h,fun e he=>by have he:e<7:=he;rcases(by omega:e=0∨e=1∨e=2∨e=3∨e=4∨e=5∨e=6) with rfl|rfl|rfl|rfl|rfl|rfl|rfl<;>rfl⟩
  (conv=>whnf)
  (repeat' ((first
   |(with_reducible refine Ac ?_)
   |((with_reducible refine aI ?_ ?_);focus (simp only[Ag,ty5,Ap,List.length_append,List.length_cons,List.length_nil,List.toList_toArray];first|omega|(refine⟨?_,?_⟩<;>omega)))
   |((with_reducible refine aI ?_ ?_);focus (refine⟨Nat.le_refl _,?_,fun e he=>rfl⟩;simp only[Ag,ty5,Ap,List.length_append,List.length_cons,List.length_nil,List.toList_toArray];first|omega|(refine⟨?_,?_⟩<;>omega)))
   |((with_reducible refine aI ?_ ?_);focus (first|with_reducible rfl|exact tK|decide))
   |with_reducible refine lnI fun hln=>?_
   |fail)<;>(conv=>whnf)))
  have hT:D4 (C1 ⟨[a,b,c,d],k⟩++List.replicate 0 (Au (Bp is)))=(((((Lib.join (Ep k) [32]++[10])++(Lib.join (A8 a) [32]++[10]))++(Lib.join (A8 b) [32]++[10]))++(Lib.join (A8 c) [32]++[10]))++(Lib.join (A8 d) [32]++[10])):=by unfold C1 D4;simp
  refine⟨?_,fun(x:Nat × List UInt8) hx=>?_⟩
  ·(conv=>whnf)
   refine⟨((0,(((((Lib.join (Ep k) [32]++[10])++(Lib.join (A8 a) [32]++[10]))++(Lib.join (A8 b) [32]++[10]))++(Lib.join (A8 c) [32]++[10]))++(Lib.join (A8 d) [32]++[10]))):Nat × List UInt8),[103],?_,⟨⟨rfl,(nB rfl),rfl⟩,?_,?_⟩⟩
   ·exact⟨Nat.zero_le _,hT.symm,by show(((((Lib.join (Ep k) [32]++[10])++(Lib.join (A8 a) [32]++[10]))++(Lib.join (A8 b) [32]++[10]))++(Lib.join (A8 c) [32]++[10]))++(Lib.join (A8 d) [32]++[10])).length≤_;simp only[List.length_append,List.length_cons,List.length_nil];omega⟩
   ·exact tL
   ·(conv=>whnf)
    (repeat' ((first|with_reducible exact⟨⟩|((with_reducible refine aI ?_ ?_);focus (exact tA))|with_reducible refine iA ?_ ?_|with_reducible refine iL ?_ ?_|with_reducible refine iB ?_ ?_|fail)<;>(conv=>whnf)))
    all_goals (try simp only[wQ])
    ·exact⟨by simp only[List.length_append],.inl True.intro⟩
    ·exact⟨⟨rfl,Nat.le_of_eq (by simp only[List.length_append]),fun e he=>⟨Dr (by simp only[List.length_append]) (Dr (by simp only[List.length_append]) (Dr (by simp only[List.length_append]) (Dr rfl (fun _ _=>rfl)))) e (by simpa only[List.length_append] using he),rfl⟩⟩,rfl⟩
  ·obtain⟨i,T⟩:=x
   obtain⟨h1,h2,h3⟩:=hx
   change i≤m at h1
   change T=D4 (C1 ⟨[a,b,c,d],k⟩++List.replicate i (Au (Bp is))) at h2
   change T.length≤2000+i*1000001 at h3
   by_cases hi:i<m
   ·have hmi:=M5 is
    have hsh:=Ha hmi
    have hst:List.replicate (i+1) (Au (Bp is))=List.replicate i (Au (Bp is))++[Au (Bp is)]:=List.replicate_succ'
    have hal:(Au (Bp is)).length≤1000000:=Nat.le_trans (J2 is) (by decide)
    (conv=>whnf)
    (repeat' ((first
     |with_reducible exact⟨⟩
     |((with_reducible refine aI ?_ ?_);focus (simp only[Ag,ty5,Ap,List.length_append,List.length_cons,List.length_nil,List.toList_toArray];first|omega|(refine⟨?_,?_⟩<;>omega)))
     |(split<;>rename_i hh<;>(try simp only[wS] at hh))
     |fail)<;>(conv=>whnf)))
    all_goals try (exfalso;omega)
    refine⟨(Bp is:Act),hsh,?_,?_⟩
    ·exact tL
    (conv=>whnf)
    (repeat' ((first
     |with_reducible exact⟨⟩
     |((with_reducible refine aI ?_ ?_);focus (with_reducible rfl))
     |(split<;>rename_i hh<;>(try simp only[wS] at hh))
     |with_reducible refine iA ?_ ?_
     |fail)<;>(conv=>whnf)))
    all_goals (try (show _=_;simp only[wQ]))
    all_goals try (exact absurd (hmi.symm.trans (by assumption)) Bool.true_eq_false.mp)
    refine⟨(Bp is:Act),hsh,?_,?_⟩
    ·exact tL
    (conv=>whnf)
    (repeat' ((first
     |(with_reducible refine Ac ?_)
     |fail)<;>(conv=>whnf)))
    refine⟨⟨by omega,fun e he=>by obtain rfl:e=0:=(by omega);rfl⟩,?_⟩
    refine⟨(([Au (Bp is)],[32]):List (List UInt8) × List UInt8),⟨by show(Lib.join [Au (Bp is)] [32]).length≤_;rw[Lib.join_one];omega,(nB rfl)⟩,?_,?_⟩
    ·(conv=>whnf)
     (repeat' ((first|with_reducible exact⟨⟩|((with_reducible refine aI ?_ ?_);focus (exact tA))|with_reducible refine iA ?_ ?_|fail)<;>(conv=>whnf)))
     all_goals (try simp only[wQ])
     exact⟨fun h=>h,fun e he=>by have he:e<1:=he;obtain rfl:e=0:=(by omega);rfl⟩
    have hj1:(Lib.join [Au (Bp is)] [32]).length≤1000000:=by rw[Lib.join_one];exact hal
    (conv=>whnf)
    (repeat' ((first
     |(with_reducible refine Ac ?_)
     |((with_reducible refine aI ?_ ?_);focus (simp only[Ag,ty5,Ap,List.length_append,List.length_cons,List.length_nil,List.toList_toArray];first|omega|(refine⟨?_,?_⟩<;>omega)))
     |((with_reducible refine aI ?_ ?_);focus (refine⟨Nat.le_refl _,?_,fun e he=>rfl⟩;simp only[Ag,ty5,Ap,List.length_append,List.length_cons,List.length_nil,List.toList_toArray];first|omega|(refine⟨?_,?_⟩<;>omega)))
     |((with_reducible refine aI ?_ ?_);focus (first|with_reducible rfl|exact tK|decide))
     |with_reducible refine lnI fun hln=>?_
     |fail)<;>(conv=>whnf)))
    (conv=>whnf)
    refine⟨((i+1,T++(Lib.join [Au (Bp is)] [32]++[10])):Nat × List UInt8),[107],?_,⟨⟨rfl,(nB rfl),rfl⟩,?_,?_⟩⟩
    ·refine⟨⟨show i+1≤m by omega,?_,?_⟩,show m - (i+1)<m - i by omega⟩
     ·show T++(Lib.join [Au (Bp is)] [32]++[10])=D4 (C1 ⟨[a,b,c,d],k⟩++List.replicate (i+1) (Au (Bp is)))
      rw[hst,h2,Lib.join_one,←G9,List.append_assoc]
     ·show(T++(Lib.join [Au (Bp is)] [32]++[10])).length≤2000+(i+1)*1000001
      rw[List.length_append,List.length_append];simp only[List.length_cons,List.length_nil];omega
    ·exact tL
    ·(conv=>whnf)
     (repeat' ((first|with_reducible exact⟨⟩|((with_reducible refine aI ?_ ?_);focus (exact tA))|with_reducible refine iA ?_ ?_|with_reducible refine iL ?_ ?_|with_reducible refine iB ?_ ?_|fail)<;>(conv=>whnf)))
     all_goals (try simp only[wQ])
     ·exact⟨by simp only[List.length_append],.inl True.intro⟩
     ·exact⟨⟨(by first|rfl|exact True.intro),Nat.le_of_eq (by simp only[List.length_append]),fun e he=>⟨Dr rfl (fun _ _=>rfl) e (by simpa only[List.length_append] using he),rfl⟩⟩,rfl⟩
   ·have hie:i=m:=by omega
    have hfin:bytesOf T.length (Dz T)=scW ⟨[a,b,c,d],k⟩ (List.replicate m (Bp is)):=by unfold scW scL;rw[show bytesOf T.length (Dz T)=T from El T,h2,hie,List.map_replicate]
    have hpos:0<T.length:=by rw[h2];unfold C1 D4;simp;omega
    (conv=>whnf)
    (repeat' ((first
     |((with_reducible refine aI ?_ ?_);focus (simp only[Ag,ty5,Ap,List.length_append,List.length_cons,List.length_nil,List.toList_toArray];first|omega|(refine⟨?_,?_⟩<;>omega)))
     |(split<;>rename_i hh<;>(try simp only[wS] at hh))
     |fail)<;>(conv=>whnf)))
    all_goals try (exfalso;omega)
    refine⟨⟨rfl,hpos,Nat.le_refl _,fun e he=>rfl⟩,?_⟩
    (conv=>whnf)
    (repeat' ((first
     |with_reducible exact⟨⟩
     |((with_reducible refine aI ?_ ?_);focus (with_reducible rfl))
     |with_reducible refine iA ?_ ?_
     |fail)<;>(conv=>whnf)))
    all_goals (try (show _=_;simp only[wQ]))
    all_goals first|exact hfin|rfl|skip
 ·simp only[List.length_cons] at hl2;omega
def zG:PC:=PC.of (fun x:Setup × Bool × Nat=>[.agg x.1.enc,.sl false 17 x.2.2 (fun _=>Qq x.2.1)]) (fun x=>10000<x.2.2) (fun _=>.tup [.str [],.int .i64 3])
def zH:Setup × Bool × Nat→Nat→Option LR:=fun x i=>cond (Nat.beq i 9) (some (.unroll 5)) (cond (Nat.beq i 14) (some (.unroll 1)) (none))
set_option maxHeartbeats 4000000 in
theorem zI{W:World}(hW:Tabs W):GoodP (Fw W) Tryz.prog 39 zG:=by
 have hD:=D7 hW
 have hC0:∀ x:Setup × Bool × Nat,Ad (Fw W) Tryz.prog C8:=fun x=>(Ge hW)
 refine Ax (D:=C6) (C:=fun x=>C8) (wr:=(fun _=>false)) rfl Aq hD hC0 Tryz.func39 (zH) (fun _=>rfl) ?_
 rintro⟨s,is,m⟩ hf hp
 clear hf
 have hp2:10000<m:=hp
 (conv=>whnf)
 (repeat' ((first
  |with_reducible exact⟨⟩
  |((with_reducible refine aI ?_ ?_);focus (with_reducible rfl))
  |(split<;>rename_i hh<;>(try simp only[wS] at hh))
  |with_reducible refine lnI fun hln=>?_
  |with_reducible refine iA ?_ ?_
  |fail)<;>(conv=>whnf)))
 all_goals first|rfl|(exfalso;omega)
def Ahj:PC:=PC.of (fun x:Setup × Bool × Nat × List UInt8 × Int=>[.agg x.1.enc,.sl false 17 x.2.2.1 (fun _=>Qq x.2.1)]) (fun x=>((Et x.1=true∧x.2.2.1≤10000)∧x.2.2.2=(scW x.1 (List.replicate x.2.2.1 (Bp x.2.1)),0))∨(10000<x.2.2.1∧x.2.2.2=([],3))) (fun x=>.tup [.str (sS x.2.2.2.1),.int .i64 x.2.2.2.2])
theorem Aot{W:World}(hW:Tabs W):GoodP (Fw W) Tryz.prog 39 Ahj:=by
 intro S w cs vs Q hs hv hT
 obtain⟨x,h1,h2,h3⟩:=hT
 have h4:Q (.tup [.str (sS x.2.2.2.1),.int .i64 x.2.2.2.2]):=h3
 rcases h1 with ⟨h1,e⟩|⟨h1,e⟩
 ·refine Adq hW S w cs vs Q hs hv ⟨(x.1,x.2.1,x.2.2.1),h1,h2,?_⟩
  rw[e] at h4;exact h4
 ·refine zI hW S w cs vs Q hs hv ⟨(x.1,x.2.1,x.2.2.1),h1,h2,?_⟩
  rw[e,Ap] at h4;exact h4
end
end Go.Vc.Z
