/- The law ScriptWhole: true. -/
import Derived.Test.YtpmpclbdnakniaaGreatDoorV47
import Derived.Test.YtpmpclbdnakniaaGreatDoorV48
import Derived.Test.YtpmpclbdnakniaaGreatDoorV40
set_option linter.all false
set_option linter.unusedVariables false
set_option linter.unusedSimpArgs false
namespace Go.Vc.Z
open Go Go.Vc Go.Proofs Go.RowKit Go.Pl Go.Lib
@[irreducible] noncomputable def oR(s:Setup)(A:List Act):Bool:=(A.take 31).all (fun a=> !E2 a)&&decide (s.sites.length≤10)&&decide (A.length≤30)
theorem Axx{s:Setup}{A:List Act}{i:Nat}(h1:i<A.length)(h2:i≤30)(h:E2 (A.getD i default)=true):oR s A=false:=by
 unfold oR
 have:(A.take 31).all (fun a=> !E2 a)=false:=by
  rw[List.all_eq_false]
  refine⟨A.getD i default,?_,by rw[h];simp⟩
  rw[List.getD_eq_getElem?_getD,List.getElem?_eq_getElem h1]
  exact List.mem_take_iff_getElem.2 ⟨i,by omega,rfl⟩
 rw[this];rfl
theorem Asw{s:Setup}{A:List Act}{i:Nat}(hi:i=A.length∨i=31)(hl:i≤A.length)(h:∀ j,j<i→E2 (A.getD j default)=false):oR s A=(decide (s.sites.length≤10)&&decide (A.length≤30)):=by
 unfold oR
 by_cases hA:A.length≤30
 ·have:(A.take 31).all (fun a=> !E2 a)=true:=by
   rw[List.all_eq_true]
   intro a ha
   obtain⟨j,hj,rfl⟩:=List.getElem_of_mem (List.mem_of_mem_take ha)
   have:=h j (by omega)
   rw[List.getD_eq_getElem?_getD,List.getElem?_eq_getElem hj] at this
   show(!E2 A[j])=true
   rw[show E2 A[j]=false from this];rfl
  rw[this,Bool.true_and]
 ·rw[decide_eq_false hA,Bool.and_false,Bool.and_false]
theorem Alb{s:Setup}{A:List Act}(h:oR s A=true):A.length≤30∧∀ i,i<A.length→D5 (A.getD i default).request:=by
 unfold oR at h
 simp only[Bool.and_eq_true,decide_eq_true_eq,List.all_eq_true] at h
 obtain⟨⟨h1,h2⟩,h3⟩:=h
 refine⟨h3,fun i hi=>?_⟩
 have hm:=h1 (A.getD i default) (by rw[List.getD_eq_getElem?_getD,List.getElem?_eq_getElem hi,List.take_of_length_le (by omega)];exact List.getElem_mem _)
 have hm:E2 (A.getD i default)=false:=by simpa using hm
 unfold E2 Abz at hm
 simp only[Bool.or_eq_false_iff,decide_eq_false_iff_not] at hm
 obtain⟨_,hm⟩:=hm
 exact⟨by omega,by omega⟩
theorem Aja{m:Nat}:∀ {L:List (List UInt8)},(∀ w ∈ L,w.length≤m)→(Jp L).length≤(m+1)*L.length
 |[],_=>by unfold Jp;exact Nat.zero_le _
 |l::L,h=>by
  have ih:=Aja (L:=L) (fun w hw=>h w (List.mem_cons_of_mem _ hw))
  have hl:=h l (by simp)
  unfold Jp at ih ⊢
  rw[List.flatMap_cons,List.length_append,List.length_append,List.length_cons]
  simp only[List.length_cons,List.length_nil,Nat.mul_add,Nat.mul_one]
  omega
theorem Alc{s:Setup}{A:List Act}(hs:Dt s=true)(h:∀ i,i<A.length→(Bt (A.getD i default)).length≤1000000):∀ w ∈ scL s A,w.length≤1000000:=fun w hw=>by
 obtain⟨l,k⟩:=s
 obtain⟨_,hk,hsi,_⟩:=Np hs
 unfold scL Jw at hw
 rcases List.mem_append.1 hw with hw|hw
 ·rcases List.mem_cons.1 hw with rfl|hw
  ·exact Nat.le_trans (nL hk) (by decide)
  ·obtain⟨x,hx,rfl⟩:=List.mem_map.1 hw
   exact Nat.le_trans (aN (hsi x hx)) (by decide)
 ·obtain⟨x,hx,rfl⟩:=List.mem_map.1 hw
  obtain⟨j,hj,rfl⟩:=List.getElem_of_mem hx
  have:=h j hj
  rwa[List.getD_eq_getElem?_getD,List.getElem?_eq_getElem hj] at this
theorem Aps{L:List (List UInt8)}{m:Nat}(h:∀ w ∈ L,w.length≤m)(i:Nat):(L.getD i []).length≤m:=by
 rw[List.getD_eq_getElem?_getD]
 cases hx:L[i]? with
 |none=>exact Nat.zero_le _
 |some w=>exact h w (List.mem_of_getElem? hx)
theorem Ae5{A:List Act}{i:Nat}(hi:i<A.length):(A.take (i+1)).all Af=((A.take i).all Af&&Af (A.getD i default)):=by
 rw[Wx hi,List.all_append,List.all_cons,List.all_nil,Bool.and_true]
noncomputable section
set_option maxRecDepth 100000
attribute [local irreducible] inK Utf8.decode Utf8.encode Lib.itoa Pl.worth Pl.allDig
attribute [local irreducible] Lib.join Bw Aa scL
def A41(s:Setup)(A:List Act):LoopSpec:={
 α:=Nat
 keep:=[1,2,3,7]
 vals i:=[slE 17 Act.enc A,.int .i64 30,.ptr 0 0,.int .i64 i]
 heap _:=[.var s.enc]
 ok i:=i≤A.length∧i≤31∧∀ j,j<i→E2 (A.getD j default)=false
 μ i:=A.length - i }
def Av9:PC:=PC.of (fun x:Setup × List Act=>[.agg x.1.enc,slE 17 Act.enc x.2,.int .i64 30]) (fun _=>True) (fun x=>.bool (sB (oR x.1 x.2)))
def Jn:PT:=C2 [(33,xM)]
theorem Oz{W:World}(hW:Fz W):Cl (Fw W) Tryz.prog Jn:=(Ab Tryz.call33 (Wv hW.1) As)
def Jo:FuncId→Option Ctr:=Aw Jn []
theorem Yx{W:World}(hW:Fz W):Ad (Fw W) Tryz.prog Jo:=(Au (Oz hW))
def Yy:Setup × List Act→Nat→Option LR:=fun x i=>cond (Nat.beq i 2) (some (.inv (A41 x.1 x.2))) (none)
set_option maxHeartbeats 2000000 in
theorem Yz{W:World}(hW:Fz W):GoodP (Fw W) Tryz.prog 38 Av9:=by
 have hD:=Oz hW
 have hC0:∀ x:Setup × List Act,Ad (Fw W) Tryz.prog Jo:=fun x=>(Yx hW)
 refine Ar (D:=Jn) (C:=fun x=>Jo) (wr:=(fun _=>false)) rfl Ap hD hC0 Tryz.func38 (Yy) (fun _=>rfl) ?_
 rintro⟨⟨l,k⟩,A⟩ hf hp
 clear hf hp
 (conv=>whnf)
 refine⟨?_,fun(i:Nat) hi=>?_⟩
 ·(conv=>whnf)
  refine⟨(0:Nat),[],?_,⟨⟨rfl,(nB rfl),rfl⟩,?_,?_⟩⟩
  ·exact⟨Nat.zero_le _,by decide,fun j hj=>absurd hj (Nat.not_lt_zero _)⟩
  ·exact tL
  ·exact tL
 ·obtain⟨h1,h2,h3⟩:=hi
  change i≤A.length at h1
  change i≤31 at h2
  change ∀ j,j<i→E2 (A.getD j default)=false at h3
  by_cases hi:i<A.length∧i≤30
  ·have hmm:E2 (A.getD i default)=true→false=oR ⟨l,k⟩ A:=fun h=>(Axx hi.1 hi.2 h).symm
   obtain⟨hi1,hi2⟩:=hi
   (conv=>whnf)
   (repeat' ((first
    |((with_reducible refine aI ?_ ?_);focus (((with_reducible refine⟨?_,?_⟩)<;>first|with_reducible assumption|omega)))
    |(split<;>rename_i hh<;>(try simp only[wS] at hh))
    |with_reducible refine lnI fun hln=>?_
    |fail)<;>(conv=>whnf)))
   all_goals (try (show _=_;simp only[wQ]))
   all_goals try (exfalso;omega)
   refine⟨(A.getD i default:Act),True.intro,?_,?_⟩
   ·exact Ac _
   (conv=>whnf)
   (repeat' ((first
    |((with_reducible refine aI ?_ ?_);focus (exact tK))
    |(split<;>rename_i hh<;>(try simp only[wS] at hh))
    |fail)<;>(conv=>whnf)))
   all_goals (try (show _=_;simp only[wQ]))
   ·exact hmm (by assumption)
   ·have hmi:E2 (A.getD i default)=false:=by assumption
    (conv=>whnf)
    refine⟨(i+1:Nat),[],?_,⟨⟨rfl,(nB rfl),rfl⟩,?_,?_⟩⟩
    ·refine⟨⟨show i+1≤A.length by omega,show i+1≤31 by omega,fun j hj=>?_⟩,show A.length - (i+1)<A.length - i by omega⟩
     rcases Nat.lt_or_ge j i with h|h
     ·exact h3 j h
     ·obtain rfl:j=i:=by have hj:j<i+1:=hj;omega
      exact hmi
    ·exact tL
    ·exact tL
  ·have hfe:oR ⟨l,k⟩ A=(decide (l.length≤10)&&decide (A.length≤30)):=Asw (s:=⟨l,k⟩) (by omega) h1 h3
   (conv=>whnf)
   (repeat' ((first
    |((with_reducible refine aI ?_ ?_);focus (omega))
    |(split<;>rename_i hh<;>(try simp only[wS] at hh))
    |with_reducible refine lnI fun hln=>?_
    |fail)<;>(conv=>whnf)))
   all_goals (try (show _=_;simp only[wQ]))
   all_goals first|(exfalso;omega)|(rw[hfe,decide_eq_true (by omega:l.length≤10),Bool.true_and,cond_true,Ca,Bool.eq_iff_iff,decide_eq_true_eq,decide_eq_true_eq];omega)|(rw[hfe,decide_eq_false (by omega: ¬l.length≤10)];rfl)|skip
def LWm(s:Setup)(A:List Act)(t:List UInt8)(e:Int):LoopSpec:={
 α:=Nat × Bool
 keep:=[1,2,5,6,7,8]
 vals y:=[slE 17 Act.enc A,.ptr 0 0,.str t,.int .i64 e,.bool y.2,.int .i64 y.1]
 heap _:=[.var s.enc]
 ok y:=y.1≤A.length∧y.2=(Dt s&&(A.take y.1).all Af)
 μ y:=A.length - y.1 }
def LWs(A:List Act):LoopSpec:={
 α:=Nat
 keep:=[1,10,12]
 vals i:=[slE 17 Act.enc A,slE 17 Act.enc A,.int .i64 i]
 heap _:=[.dead,.dead,.dead,.dead]
 ok i:=i≤A.length
 μ i:=A.length - i }
def Apt:PC:=PC.of (fun x:Setup × List Act × List UInt8 × Int=>[.agg x.1.enc,slE 17 Act.enc x.2.1]) (fun x=>Lh x.1 x.2.1=x.2.2) (fun _=>.bool (sB true))
def Ek:PT:=C2 [(12,Ahr),(32,Ai4),(35,xK),(38,Av9),(39,Apl),(40,Um),(41,App),(42,Apr),(43,xU)]
theorem Hc{W:World}(hW:Fz W):Cl (Fw W) Tryz.prog Ek:=(Ab Tryz.call12 (Aoh hW.1) (Ab Tryz.call32 (Wt hW.1) (Ab Tryz.call35 (Yq hW.1) (Ab Tryz.call38 (Yz hW) (Ab Tryz.call39 (Rq hW.1) (Ab Tryz.call40 (Ags hW.1) (Ab Tryz.call41 (Yw hW) (Ab Tryz.call42 (Tu hW.1) (Ab Tryz.call43 (Qm hW.1) As)))))))))
def El:FuncId→Option Ctr:=Aw Ek []
theorem N2{W:World}(hW:Fz W):Ad (Fw W) Tryz.prog El:=(Au (Hc hW))
def N3:Setup × List Act × List UInt8 × Int→Nat→Option LR:=fun x i=>cond (Nat.beq i 6) (some (.inv (LWm x.1 x.2.1 x.2.2.1 x.2.2.2))) (cond (Nat.beq i 15) (some (.inv (LWs x.2.1))) (none))
set_option maxHeartbeats 4000000 in
theorem N4{W:World}(hW:Fz W):GoodP (Fw W) Tryz.prog 8 Apt:=by
 have hD:=Hc hW
 have hC0:∀ x:Setup × List Act × List UInt8 × Int,Ad (Fw W) Tryz.prog El:=fun x=>(N2 hW)
 refine Ar (D:=Ek) (C:=fun x=>El) (wr:=(fun _=>false)) rfl Ap hD hC0 Tryz.func8 (N3) (fun _=>rfl) ?_
 rintro⟨s,A,t,er⟩ hf hp
 have hfa:=fun i hi=>nM hf (A:=A) (i:=i) hi
 clear hf
 change Lh s A=(t,er) at hp
 by_cases hfew:oR s A=true
 ·obtain⟨hA,hsh⟩:=Alb hfew
  have hssame:=cO s
  have hpre:∀ i,i<A.length→D5 (A.getD i default).request:=hsh
  by_cases hmay:Dt s=true∧∀ i,i<A.length→Af (A.getD i default)=true
  ·obtain⟨hset,hm⟩:=hmay
   obtain⟨ht,rfl⟩:=Prod.mk.inj (hp.symm.trans (nN (by omega) hset hm))
   have hal:=dY.2 hm
   have hls:∀ i,i<A.length→(Bt (A.getD i default)).length≤1000000:=fun i hi=>nJ (hfa i hi) (hm i hi)
   have hsc:Kx t s A:=by unfold Kx;exact⟨hset,by omega,fun i hi=>⟨hm i hi,Apg (hfa i hi)⟩,ht⟩
   have hsl:=Alc hset hls
   have hW:Aa 10 (Jk t)=scL s A:=by rw[ht];exact Ai7 s A
   have hlen:∀ i,((Aa 10 (Jk t)).getD i []).length≤1000000:=fun i=>by rw[hW];exact Aps hsl i
   have htl:t.length≤100000000:=by
    have h1:=Aja hsl
    have h2:(scL s A).length≤40:=by
     obtain⟨l,k⟩:=s
     have:=(Np hset).1
     rw[Ai8];omega
    have h3:(scW s A).length=(Jp (scL s A)).length:=by unfold scW;rfl
    rw[ht,h3]
    exact Nat.le_trans h1 (Nat.le_trans (Nat.mul_le_mul_left _ h2) (by decide))
   have hsame:∀ a:Act,cM a a=true:=fun a=>xL.2 rfl
   (conv=>whnf)
   refine⟨((s,A):Setup × List Act),True.intro,?_,?_⟩
   ·exact Ac _
   (conv=>whnf)
   (repeat' ((first
    |((with_reducible refine aI ?_ ?_);focus (with_reducible exact⟨⟩))
    |(split<;>rename_i hh<;>(try simp only[wS] at hh))
    |fail)<;>(conv=>whnf)))
   refine⟨((s,A,t,0):Setup × List Act × List UInt8 × Int),⟨hpre,hp⟩,?_,?_⟩
   ·exact Ac _
    all_goals skip
   (conv=>whnf)
   refine⟨s,True.intro,?_,?_⟩
   ·exact Ac _
    all_goals skip
   (conv=>whnf)
   refine⟨?_,fun(y:Nat × Bool) hy=>?_⟩
   ·(conv=>whnf)
    refine⟨((0,Dt s):Nat × Bool),[],?_,⟨⟨rfl,(nB rfl),rfl⟩,?_,?_⟩⟩
    ·exact⟨Nat.zero_le _,by simp⟩
    ·(conv=>whnf)
     (repeat' ((first|with_reducible exact⟨⟩|((with_reducible refine aI ?_ ?_);focus (exact tA))|with_reducible refine iA ?_ ?_|fail)<;>(conv=>whnf)))
     all_goals (try simp only[wQ])
     all_goals (try first|omega|exact⟨fun h=>h,fun _ _=>True.intro⟩)
     all_goals skip
    ·(conv=>whnf)
     (repeat' ((first|with_reducible exact⟨⟩|((with_reducible refine aI ?_ ?_);focus (exact tA))|with_reducible refine iA ?_ ?_|with_reducible refine iL ?_ ?_|with_reducible refine iB ?_ ?_|fail)<;>(conv=>whnf)))
     all_goals (try simp only[wQ])
     all_goals (try first|rfl|exact⟨fun h=>h,fun _ _=>True.intro⟩)
     all_goals skip
   ·obtain⟨i,b⟩:=y
    obtain⟨h1,h2⟩:=hy
    change i≤A.length at h1
    change b=(Dt s&&(A.take i).all Af) at h2
    obtain rfl:b=true:=by
     rw[h2,hset,Bool.true_and,List.all_eq_true]
     exact fun a ha=>List.all_eq_true.1 hal a (List.mem_of_mem_take ha)
    by_cases hi:i<A.length
    ·have hmi:=hm i hi
     have hst:=Ae5 hi
     (conv=>whnf)
     (repeat' ((first
      |((with_reducible refine aI ?_ ?_);focus (((with_reducible refine⟨?_,?_⟩)<;>first|with_reducible assumption|omega)))
      |(split<;>rename_i hh<;>(try simp only[wS] at hh))
      |with_reducible refine lnI fun hln=>?_
      |fail)<;>(conv=>whnf)))
     all_goals try (exfalso;omega)
     refine⟨(A.getD i default:Act),True.intro,?_,?_⟩
     ·exact Ac _
      all_goals skip
     (conv=>whnf)
     (repeat' ((first
      |((with_reducible refine aI ?_ ?_);focus (exact tK))
      |fail)<;>(conv=>whnf)))
     (conv=>whnf)
     refine⟨((i+1,true):Nat × Bool),[],?_,⟨⟨rfl,(nB rfl),rfl⟩,?_,?_⟩⟩
     ·exact⟨⟨show i+1≤A.length by omega,show true=(Dt s&&(A.take (i+1)).all Af) by rw[hst,←Bool.and_assoc,←h2,hmi];rfl⟩,show A.length - (i+1)<A.length - i by omega⟩
     ·(conv=>whnf)
      (repeat' ((first|with_reducible exact⟨⟩|((with_reducible refine aI ?_ ?_);focus (exact tA))|with_reducible refine iA ?_ ?_|fail)<;>(conv=>whnf)))
      all_goals (try simp only[wQ])
      all_goals (try first|omega|exact⟨fun h=>h,fun _ _=>True.intro⟩)
      all_goals exact hmi
     ·exact tL
    ·(conv=>whnf)
     (repeat' ((first
      |((with_reducible refine aI ?_ ?_);focus (omega))
      |(split<;>rename_i hh<;>(try simp only[wS] at hh))
      |with_reducible refine lnI fun hln=>?_
      |fail)<;>(conv=>whnf)))
     all_goals try (exfalso;omega)
     refine⟨(⟨s,A,0,t,Aa 10 (Jk t)⟩:ScO),⟨by unfold Ag0;exact .inl ⟨rfl,hsc⟩,rfl,hlen,htl⟩,?_,?_⟩
     ·exact Ac _
      all_goals skip
     (conv=>whnf)
     refine⟨((s,A):Setup × List Act),⟨hset,by show A.length≤10000;omega,hm⟩,?_,?_⟩
     ·exact Ac _
      all_goals skip
     (conv=>whnf)
     (repeat' ((first
      |(exact absurd ht hh)
      |(split<;>rename_i hh<;>(try simp only[wS] at hh))
      |fail)<;>(conv=>whnf)))
     refine⟨((s,s):Setup × Setup),True.intro,?_,?_⟩
     ·exact Ac _
      all_goals skip
     (conv=>whnf)
     (repeat' ((first
      |(exact absurd (hssame.symm.trans (by with_reducible assumption)) Bool.true_eq_false.mp)
      |(split<;>rename_i hh<;>(try simp only[wS] at hh))
      |with_reducible refine lnI fun hln=>?_
      |fail)<;>(conv=>whnf)))
     all_goals (try (show _=_;simp only[wQ]))
     all_goals try (exfalso;first|omega|exact absurd True.intro (by assumption)|exact absurd rfl (by assumption))
     refine⟨?_,fun(i:Nat) hi=>?_⟩
     ·(conv=>whnf)
      refine⟨(0:Nat),[],?_,⟨⟨rfl,(nB rfl),rfl⟩,?_,?_⟩⟩
      ·exact Nat.zero_le _
      ·exact tL
      ·exact tL
     ·change i≤A.length at hi
      by_cases hlt:i<A.length
      ·(conv=>whnf)
       (repeat' ((first
        |((with_reducible refine aI ?_ ?_);focus (first|with_reducible exact⟨⟩|exact tO|((with_reducible refine⟨?_,?_⟩)<;>first|with_reducible assumption|omega)))
        |(split<;>rename_i hh<;>(try simp only[wS] at hh))
        |with_reducible refine lnI fun hln=>?_
        |fail)<;>(conv=>whnf)))
       all_goals try (exfalso;omega)
       refine⟨((A.getD i default,A.getD i default):Act × Act),True.intro,?_,?_⟩
       ·exact Ac _
        all_goals skip
       have hsame:=hsame (A.getD i default)
       (conv=>whnf)
       (repeat' ((first
        |(exact absurd (hsame.symm.trans (by with_reducible assumption)) Bool.true_eq_false.mp)
        |((with_reducible refine aI ?_ ?_);focus (exact tK))
        |(split<;>rename_i hh<;>(try simp only[wS] at hh))
        |fail)<;>(conv=>whnf)))
       (conv=>whnf)
       refine⟨(i+1:Nat),[],?_,⟨⟨rfl,(nB rfl),rfl⟩,?_,?_⟩⟩
       ·exact⟨show i+1≤A.length by omega,show A.length - (i+1)<A.length - i by omega⟩
       ·exact tL
       ·exact tL
      ·(conv=>whnf)
       (repeat' ((first
        |((with_reducible refine aI ?_ ?_);focus (first|with_reducible exact⟨⟩|exact tO|omega))
        |(split<;>rename_i hh<;>(try simp only[wS] at hh))
        |with_reducible refine lnI fun hln=>?_
        |fail)<;>(conv=>whnf)))
       all_goals first|(exfalso;omega)|rfl|skip
  ·have hz:Lh s A=([],2):=by
    by_cases hset:Dt s=true
    ·by_cases hm:∃ i,i<A.length∧¬Af (A.getD i default)=true
     ·obtain⟨i,hi,hm⟩:=hm
      exact xQ (by omega) hi hm
     ·exact absurd ⟨hset,fun i hi=>Classical.byContradiction fun h=>hm ⟨i,hi,h⟩⟩ hmay
    ·exact xP (by omega) hset
   obtain⟨rfl,rfl⟩:=Prod.mk.inj (hp.symm.trans hz)
   have hb:(Dt s&&A.all Af)=false:=by
    rw[Bool.eq_false_iff];intro h
    rw[Bool.and_eq_true] at h
    exact hmay ⟨h.1,dY.1 h.2⟩
   (conv=>whnf)
   refine⟨((s,A):Setup × List Act),True.intro,?_,?_⟩
   ·exact Ac _
   (conv=>whnf)
   (repeat' ((first
    |((with_reducible refine aI ?_ ?_);focus (with_reducible exact⟨⟩))
    |(split<;>rename_i hh<;>(try simp only[wS] at hh))
    |fail)<;>(conv=>whnf)))
   refine⟨((s,A,[],2):Setup × List Act × List UInt8 × Int),⟨hpre,hz⟩,?_,?_⟩
   ·exact Ac _
    all_goals skip
   (conv=>whnf)
   refine⟨s,True.intro,?_,?_⟩
   ·exact Ac _
    all_goals skip
   (conv=>whnf)
   refine⟨?_,fun(y:Nat × Bool) hy=>?_⟩
   ·(conv=>whnf)
    refine⟨((0,Dt s):Nat × Bool),[],?_,⟨⟨rfl,(nB rfl),rfl⟩,?_,?_⟩⟩
    ·exact⟨Nat.zero_le _,by simp⟩
    ·(conv=>whnf)
     (repeat' ((first|with_reducible exact⟨⟩|((with_reducible refine aI ?_ ?_);focus (exact tA))|with_reducible refine iA ?_ ?_|fail)<;>(conv=>whnf)))
     all_goals (try simp only[wQ])
     all_goals (try first|omega|exact⟨fun h=>h,fun _ _=>True.intro⟩)
     all_goals skip
    ·(conv=>whnf)
     (repeat' ((first|with_reducible exact⟨⟩|((with_reducible refine aI ?_ ?_);focus (exact tA))|with_reducible refine iA ?_ ?_|with_reducible refine iL ?_ ?_|with_reducible refine iB ?_ ?_|fail)<;>(conv=>whnf)))
     all_goals (try simp only[wQ])
     all_goals (try first|rfl|exact⟨fun h=>h,fun _ _=>True.intro⟩)
     all_goals skip
   ·obtain⟨i,b⟩:=y
    obtain⟨h1,h2⟩:=hy
    change i≤A.length at h1
    change b=(Dt s&&(A.take i).all Af) at h2
    by_cases hi:i<A.length
    ·have hst:=Ae5 hi
     rcases b with _|_
     ·(conv=>whnf)
      (repeat' ((first
       |((with_reducible refine aI ?_ ?_);focus (first|with_reducible exact⟨⟩|exact tK))
       |(split<;>rename_i hh<;>(try simp only[wS] at hh))
       |with_reducible refine lnI fun hln=>?_
       |fail)<;>(conv=>whnf)))
      all_goals (try (show _=_;simp only[wQ]))
      all_goals try (exfalso;omega)
      (conv=>whnf)
      refine⟨((i+1,false):Nat × Bool),[],?_,⟨⟨rfl,(nB rfl),rfl⟩,?_,?_⟩⟩
      ·exact⟨⟨show i+1≤A.length by omega,show false=(Dt s&&(A.take (i+1)).all Af) by rw[hst,←Bool.and_assoc,←h2];rfl⟩,show A.length - (i+1)<A.length - i by omega⟩
      ·exact tL
      ·exact tL
     ·(conv=>whnf)
      (repeat' ((first
       |((with_reducible refine aI ?_ ?_);focus (((with_reducible refine⟨?_,?_⟩)<;>first|with_reducible assumption|omega)))
       |(split<;>rename_i hh<;>(try simp only[wS] at hh))
       |with_reducible refine lnI fun hln=>?_
       |fail)<;>(conv=>whnf)))
      all_goals try (exfalso;omega)
      refine⟨(A.getD i default:Act),True.intro,?_,?_⟩
      ·exact Ac _
       all_goals skip
      (conv=>whnf)
      (repeat' ((first
       |((with_reducible refine aI ?_ ?_);focus (exact tK))
       |fail)<;>(conv=>whnf)))
      (conv=>whnf)
      refine⟨((i+1,Af (A.getD i default)):Nat × Bool),[],?_,⟨⟨rfl,(nB rfl),rfl⟩,?_,?_⟩⟩
      ·exact⟨⟨show i+1≤A.length by omega,show Af (A.getD i default)=(Dt s&&(A.take (i+1)).all Af) by rw[hst,←Bool.and_assoc,←h2];rfl⟩,show A.length - (i+1)<A.length - i by omega⟩
      ·exact tL
      ·exact tL
    ·obtain rfl:b=false:=by rw[h2,show i=A.length by omega,List.take_length];exact hb
     (conv=>whnf)
     (repeat' ((first
      |((with_reducible refine aI ?_ ?_);focus (first|with_reducible exact⟨⟩|omega))
      |(split<;>rename_i hh<;>(try simp only[wS] at hh))
      |with_reducible refine lnI fun hln=>?_
      |fail)<;>(conv=>whnf)))
     all_goals (try (show _=_;simp only[wQ]))
     all_goals first|(exfalso;omega)|rfl|skip
 ·(conv=>whnf)
  refine⟨((s,A):Setup × List Act),True.intro,?_,?_⟩
  ·exact Ac _
  (conv=>whnf)
  (repeat' ((first
   |((with_reducible refine aI ?_ ?_);focus (with_reducible exact⟨⟩))
   |(split<;>rename_i hh<;>(try simp only[wS] at hh))
   |fail)<;>(conv=>whnf)))
  all_goals first|rfl|exact absurd (by assumption) hfew
def Apu:PC:=PC.of (fun x:Setup × List Act=>[.agg x.1.enc,slE 17 Act.enc x.2]) (fun _=>True) (fun _=>.bool (sB true))
theorem Asx{W:World}(hW:Fz W):GoodP (Fw W) Tryz.prog 8 Apu:=by
 intro S w cs vs Q hs hv hT
 obtain⟨x,_,h2,h3⟩:=hT
 exact N4 hW S w cs vs Q hs hv ⟨(x.1,x.2,Lh x.1 x.2),rfl,h2,h3⟩
end
end Go.Vc.Z
