/- script.ScriptOf: the setup and the acts of a script. -/
import Derived.Test.YtpmpclbdnakniaaGreatDoorV46
import Derived.Test.YtpmpclbdnakniaaGreatDoorV39
set_option linter.all false
set_option linter.unusedVariables false
set_option linter.unusedSimpArgs false
namespace Go.Vc.Z
open Go Go.Vc Go.Proofs Go.RowKit Go.Pl Go.Lib
theorem Axw(s:List UInt8):dD s=(Gk,4)∨∃ a,(Af a=true∧fitA a)∧dD s=(a,0):=by
 by_cases hx:∃ a,Af a=true∧fitA a∧Bt a=s
 ·obtain⟨a,h1,h2,h3⟩:=hx
  subst h3
  exact .inr ⟨a,⟨h1,h2⟩,xJ h1 h2⟩
 ·exact .inl (zX fun a h1 h2 h3=>hx ⟨a,h1,h2,h3⟩)
theorem Yt{P:Act→Prop}{B:List Act}{a:Act}(h:∀ j,j<B.length→P (B.getD j default))(ha:P a):∀ j,j<(B++[a]).length→P ((B++[a]).getD j default):=fun j hj=>by
 rw[List.length_append] at hj
 rcases Nat.lt_or_ge j B.length with h1|h1
 ·rw[List.getD_eq_getElem?_getD,List.getElem?_append_left h1,←List.getD_eq_getElem?_getD];exact h j h1
 ·obtain rfl:j=B.length:=by simp only[List.length_cons,List.length_nil] at hj;omega
  rw[List.getD_eq_getElem?_getD,List.getElem?_append_right (Nat.le_refl _),Nat.sub_self];exact ha
noncomputable section
set_option maxRecDepth 100000
attribute [local irreducible] inK Utf8.decode Utf8.encode Lib.itoa Pl.worth Pl.allDig
attribute [local irreducible] Lib.join Bw Aa scL
def A27:List Site→Blk
 |[]=>.dead
 |c::l=>.row 6 (l.length+1) (fun e=>Site.enc ((c::l).getD e default))
def A28:List Site→AV
 |[]=>.nilsl
 |_::l=>.osl 2 6 0 (l.length+1) none
def A29:List Act→Blk
 |[]=>.dead
 |c::l=>.row 17 (l.length+1) (fun e=>Act.enc ((c::l).getD e default))
def A3a:List Act→AV
 |[]=>.nilsl
 |_::l=>.osl 3 17 0 (l.length+1) none
structure ScO where
 x:Setup
 A:List Act
 e:Int
 t:List UInt8
 W:List (List UInt8)
def LSo(o:ScO):LoopSpec:={
 α:=Nat × List Site × List Act × Int
 keep:=[0,2,5,6,20,21,22]
 vals y:=match y with|(i,_,B,_)=>[.str o.t,.ptr 0 0,.ptr 1 0,A3a B,Arp o.W,.int .i64 o.W.length,.int .i64 i]
 heap y:=match y with|(_,S,B,K)=>[.var [.nilsl,.int .i64 0] (some 78),.var [A28 S,.int .i64 K] (some 78),A27 S,A29 B]
 ok y:=match y with|(i,S,B,K)=>i≤o.W.length∧S.length+B.length≤i∧(∀ j,j<B.length→Af (B.getD j default)=true∧fitA (B.getD j default))∧R2 o.t i S B K
 μ y:=match y with|(i,_)=>o.W.length - i }
def App:PC:=PC.of (fun o:ScO=>[.str o.t]) (fun o=>Ag0 o.t o.x o.A o.e∧Aa 10 (Jk o.t)=o.W∧(∀ i,(o.W.getD i []).length≤1000000)∧o.t.length≤100000000) (fun o=>.tup [.agg o.x.enc,slE 17 Act.enc o.A,.int .i64 o.e])
def Jl:PT:=C2 [(30,Ai3),(39,Apl),(78,lO),(93,Ua),(104,Ai9),(105,Ae4)]
theorem Ox{W:World}(hW:Fz W):Cl (Fw W) Tryz.prog Jl:=(Ab Tryz.call30 (nH hW) (Ab Tryz.call39 (Rq hW.1) (Ab Tryz.call78 (lP hW.1) (Ab Tryz.call93 (Gs hW.1) (Ab Tryz.call104 (Tr hW.1) (Ab Tryz.call105 (oQ hW.1) As))))))
def Jm:FuncId→Option Ctr:=Aw Jl []
theorem Yu{W:World}(hW:Fz W):Ad (Fw W) Tryz.prog Jm:=(Au (Ox hW))
def Yv:ScO→Nat→Option LR:=fun o i=>cond (Nat.beq i 5) (some (.inv (LSo o))) (none)
set_option maxHeartbeats 4000000 in
theorem Yw{W:World}(hW:Fz W):GoodP (Fw W) Tryz.prog 41 App:=by
 have hD:=Ox hW
 have hC0:∀ o:ScO,Ad (Fw W) Tryz.prog Jm:=fun o=>(Yu hW)
 refine Ar (D:=Jl) (C:=fun o=>Jm) (wr:=(fun _=>false)) rfl Ap hD hC0 Tryz.func41 (Yv) (fun _=>rfl) ?_
 rintro⟨x,A,er,t,W⟩ hf hp
 clear hf
 obtain⟨hsc,hW0,hlen,htl0⟩:=hp
 change Ag0 t x A er at hsc
 change Aa 10 (Jk t)=W at hW0
 change ∀ i,(W.getD i []).length≤1000000 at hlen
 change t.length≤100000000 at htl0
 have hWs:dF t W 0:=by rw[←hW0];exact Ak8 t
 have hWl:W.length≤100000001:=by rw[←hW0];have:=Ma 10 (Jk t);have:=xO t;omega
 have hcut:sL (Aa 10 (Jk t))=W:=by rw[Dd];exact hW0
 have htl:(sS (Jk t)).length≤100000000:=by rw[A0];exact Nat.le_trans (xO _) htl0
 (conv=>whnf)
 (repeat' ((first
  |((with_reducible refine aI ?_ ?_);focus (with_reducible rfl))
  |fail)<;>(conv=>whnf)))
 refine⟨((Jk t,10,W):List UInt8 × UInt8 × List (List UInt8)),⟨by rw[A0] at htl;exact htl,hcut⟩,?_,?_⟩
 ·exact tL
 (conv=>whnf)
 (repeat' ((first
  |with_reducible refine lnI fun hln=>?_
  |fail)<;>(conv=>whnf)))
 refine⟨?_,fun(y:Nat × List Site × List Act × Int) hy=>?_⟩
 ·(conv=>whnf)
  refine⟨((0,[],[],0):Nat × List Site × List Act × Int),[],?_,⟨⟨rfl,(nB rfl),rfl⟩,?_,?_⟩⟩
  ·exact⟨Nat.zero_le _,Nat.zero_le _,fun j hj=>absurd hj (Nat.not_lt_zero _),Ak9⟩
  ·exact tL
  ·exact tL
 ·obtain⟨i,S,B,K⟩:=y
  obtain⟨q1,q2,q3,q4⟩:=hy
  change i≤W.length at q1
  change S.length+B.length≤i at q2
  change ∀ j,j<B.length→Af (B.getD j default)=true∧fitA (B.getD j default) at q3
  change R2 t i S B K at q4
  by_cases hi:i<W.length
  ·have hwl:=hlen i
   have hwi:W.getD (Int.toNat (i:Int)) []=W.getD i []:=by rw[Int.toNat_natCast]
   generalize hw:W.getD i []=w at hwl hwi
   have hcl:=Hr 32 w
   generalize hC:Aa 32 w=C at hcl
   have hCW:Aa 32 (W.getD i [])=C:=by rw[hw];exact hC
   have hCl:((0:Nat):Int)<(C.length:Int):=by omega
   by_cases ha:i=0∧C.length=2
   ·obtain⟨rfl,hc2⟩:=ha
    obtain rfl:S=[]:=List.length_eq_zero_iff.1 (by omega)
    obtain rfl:B=[]:=List.length_eq_zero_iff.1 (by omega)
    have hst:=A40 (K:=(Aj (C.getD 1 [])).1) hWs (.inl (by rw[hCW]))
    (conv=>whnf)
    (repeat' ((first
     |((with_reducible refine aI ?_ ?_);focus (((with_reducible refine⟨?_,?_⟩)<;>first|with_reducible assumption|omega)))
     |(split<;>rename_i hh<;>(try simp only[wS] at hh))
     |fail)<;>(conv=>whnf)))
    all_goals try (exfalso;omega)
    refine⟨((w,32,C):List UInt8 × UInt8 × List (List UInt8)),⟨Nat.le_trans hwl (by decide),(Dd _).trans hC⟩,?_,?_⟩
    ·(conv=>whnf)
     (repeat' ((first|with_reducible exact⟨⟩|((with_reducible refine aI ?_ ?_);focus (exact tA))|with_reducible refine iA ?_ ?_|fail)<;>(conv=>whnf)))
     all_goals (try simp only[wQ])
     all_goals (try first|omega)
     all_goals exact hwi
    (conv=>whnf)
    (repeat' ((first
     |((with_reducible refine aI ?_ ?_);focus (first|with_reducible exact⟨⟩|omega|exact tK))
     |(split<;>rename_i hh<;>(try simp only[wS] at hh))
     |with_reducible refine lnI fun hln=>?_
     |fail)<;>(conv=>whnf)))
    all_goals try (exfalso;omega)
    (conv=>whnf)
    refine⟨((1,[],[],(Aj (C.getD 1 [])).1):Nat × List Site × List Act × Int),[],?_,⟨⟨rfl,(nB rfl),rfl⟩,?_,?_⟩⟩
    ·exact⟨⟨show 1≤W.length by omega,Nat.zero_le _,fun j hj=>absurd hj (Nat.not_lt_zero _),hst⟩,show W.length - 1<W.length - 0 by omega⟩
    ·exact tL
    ·exact tL
   ·have h0:1≤i∨¬(Aa 32 (W.getD i [])).length=2:=by rw[hCW];omega
    by_cases hs:C.getD 0 []=[115,105,116,101]∧B=[]
    ·obtain⟨hsw,rfl⟩:=hs
     have hsw2:(Aa 32 (W.getD i [])).getD 0 []=[115,105,116,101]:=by rw[hCW];exact hsw
     rcases hr:Ny (C.drop 1) with ⟨y,b⟩
     rcases b with _|_
     ·obtain⟨rfl,rfl,rfl⟩:=Aaa hsc (A22 hWs (by omega) h0 hsw2 (by rw[hCW,hr]))
      rcases S with _|⟨c,S⟩
      ·(conv=>whnf)
       (repeat' ((first
        |((with_reducible refine aI ?_ ?_);focus (((with_reducible refine⟨?_,?_⟩)<;>first|with_reducible assumption|omega)))
        |(split<;>rename_i hh<;>(try simp only[wS] at hh))
        |fail)<;>(conv=>whnf)))
       all_goals try (exfalso;omega)
       refine⟨((w,32,C):List UInt8 × UInt8 × List (List UInt8)),⟨Nat.le_trans hwl (by decide),(Dd _).trans hC⟩,?_,?_⟩
       ·(conv=>whnf)
        (repeat' ((first|with_reducible exact⟨⟩|((with_reducible refine aI ?_ ?_);focus (exact tA))|with_reducible refine iA ?_ ?_|fail)<;>(conv=>whnf)))
        all_goals (try simp only[wQ])
        all_goals (try first|omega)
        all_goals exact hwi
       (conv=>whnf)
       (repeat' ((first
        |(exact absurd hsw hh)
        |((with_reducible refine aI ?_ ?_);focus (first|with_reducible exact⟨⟩|omega|((with_reducible refine⟨?_,?_⟩)<;>first|with_reducible assumption|omega)|exact tK))
        |(split<;>rename_i hh<;>(try simp only[wS] at hh))
        |with_reducible refine lnI fun hln=>?_
        |fail)<;>(conv=>whnf)))
       all_goals try (exfalso;omega)
       all_goals (
        refine⟨((C.drop 1,y,false):List (List UInt8) × Site × Bool),hr,?_,?_⟩
        ·(conv=>whnf)
         (repeat' ((first|with_reducible exact⟨⟩|((with_reducible refine aI ?_ ?_);focus (exact tA))|with_reducible refine iA ?_ ?_|fail)<;>(conv=>whnf)))
         all_goals (try simp only[wQ])
         all_goals exact⟨by rw[List.length_drop];rfl,fun h=>absurd h Bool.false_ne_true,fun e he=>by rw[Us];rfl⟩
        (conv=>whnf)
        (repeat' ((first
         |with_reducible exact⟨⟩
         |((with_reducible refine aI ?_ ?_);focus (with_reducible rfl))
         |with_reducible refine iA ?_ ?_
         |fail)<;>(conv=>whnf)))
        all_goals (try (show _=_;simp only[wQ]))
        all_goals first|rfl|skip)
      ·(conv=>whnf)
       (repeat' ((first
        |((with_reducible refine aI ?_ ?_);focus (first|omega|((with_reducible refine⟨?_,?_⟩)<;>first|with_reducible assumption|omega)))
        |(split<;>rename_i hh<;>(try simp only[wS] at hh))
        |fail)<;>(conv=>whnf)))
       all_goals try (exfalso;omega)
       refine⟨((w,32,C):List UInt8 × UInt8 × List (List UInt8)),⟨Nat.le_trans hwl (by decide),(Dd _).trans hC⟩,?_,?_⟩
       ·(conv=>whnf)
        (repeat' ((first|with_reducible exact⟨⟩|((with_reducible refine aI ?_ ?_);focus (exact tA))|with_reducible refine iA ?_ ?_|fail)<;>(conv=>whnf)))
        all_goals (try simp only[wQ])
        all_goals (try first|omega)
        all_goals exact hwi
       (conv=>whnf)
       (repeat' ((first
        |(exact absurd hsw hh)
        |((with_reducible refine aI ?_ ?_);focus (first|with_reducible exact⟨⟩|omega|((with_reducible refine⟨?_,?_⟩)<;>first|with_reducible assumption|omega)|exact tK))
        |(split<;>rename_i hh<;>(try simp only[wS] at hh))
        |with_reducible refine lnI fun hln=>?_
        |fail)<;>(conv=>whnf)))
       all_goals try (exfalso;omega)
       all_goals (
        refine⟨((C.drop 1,y,false):List (List UInt8) × Site × Bool),hr,?_,?_⟩
        ·(conv=>whnf)
         (repeat' ((first|with_reducible exact⟨⟩|((with_reducible refine aI ?_ ?_);focus (exact tA))|with_reducible refine iA ?_ ?_|fail)<;>(conv=>whnf)))
         all_goals (try simp only[wQ])
         all_goals exact⟨by rw[List.length_drop];rfl,fun h=>absurd h Bool.false_ne_true,fun e he=>by rw[Us];rfl⟩
        (conv=>whnf)
        (repeat' ((first
         |with_reducible exact⟨⟩
         |((with_reducible refine aI ?_ ?_);focus (with_reducible rfl))
         |with_reducible refine iA ?_ ?_
         |fail)<;>(conv=>whnf)))
        all_goals (try (show _=_;simp only[wQ]))
        all_goals first|rfl|skip)
     ·have hst:=A21 hWs (by omega) h0 hsw2 q4
      rw[hCW,hr] at hst
      rcases S with _|⟨c,S⟩
      ·(conv=>whnf)
       (repeat' ((first
        |((with_reducible refine aI ?_ ?_);focus (((with_reducible refine⟨?_,?_⟩)<;>first|with_reducible assumption|omega)))
        |(split<;>rename_i hh<;>(try simp only[wS] at hh))
        |fail)<;>(conv=>whnf)))
       all_goals try (exfalso;omega)
       refine⟨((w,32,C):List UInt8 × UInt8 × List (List UInt8)),⟨Nat.le_trans hwl (by decide),(Dd _).trans hC⟩,?_,?_⟩
       ·(conv=>whnf)
        (repeat' ((first|with_reducible exact⟨⟩|((with_reducible refine aI ?_ ?_);focus (exact tA))|with_reducible refine iA ?_ ?_|fail)<;>(conv=>whnf)))
        all_goals (try simp only[wQ])
        all_goals (try first|omega)
        all_goals exact hwi
       (conv=>whnf)
       (repeat' ((first
        |(exact absurd hsw hh)
        |((with_reducible refine aI ?_ ?_);focus (first|with_reducible exact⟨⟩|omega|((with_reducible refine⟨?_,?_⟩)<;>first|with_reducible assumption|omega)|exact tK))
        |(split<;>rename_i hh<;>(try simp only[wS] at hh))
        |with_reducible refine lnI fun hln=>?_
        |fail)<;>(conv=>whnf)))
       all_goals try (exfalso;omega)
       all_goals (
        refine⟨((C.drop 1,y,true):List (List UInt8) × Site × Bool),hr,?_,?_⟩
        ·(conv=>whnf)
         (repeat' ((first|with_reducible exact⟨⟩|((with_reducible refine aI ?_ ?_);focus (exact tA))|with_reducible refine iA ?_ ?_|fail)<;>(conv=>whnf)))
         all_goals (try simp only[wQ])
         all_goals exact⟨by rw[List.length_drop];rfl,fun h=>absurd h Bool.false_ne_true,fun e he=>by rw[Us];rfl⟩
        (conv=>whnf)
        (repeat' ((first
         |((with_reducible refine aI ?_ ?_);focus (first|omega|exact tK|(simp only[Aq,ty2,ty3,ty4,ty5,ty9,Cw,Co,Cx,Cp,Cu,Cy,Cv,Cz,Bm,Bj,Bn,Bi,Bo,Bp,Bq];first|omega|(refine⟨?_,?_⟩<;>omega))))
         |fail)<;>(conv=>whnf)))
        (conv=>whnf)
        refine⟨((i+1,[]++[y],[],K):Nat × List Site × List Act × Int),[6],?_,⟨⟨rfl,(nB rfl),rfl⟩,?_,?_⟩⟩
        ·exact⟨⟨show i+1≤W.length by omega,by simp only[List.length_append,List.length_cons,List.length_nil] at q2 ⊢;omega,q3,hst⟩,show W.length - (i+1)<W.length - i by omega⟩
        ·exact tL
        ·(conv=>whnf)
         (repeat' ((first|with_reducible exact⟨⟩|((with_reducible refine Or.inr ?_);rfl)|((with_reducible refine aI ?_ ?_);focus (exact tA))|with_reducible refine iA ?_ ?_|with_reducible refine iL ?_ ?_|with_reducible refine iB ?_ ?_|fail)<;>(conv=>whnf)))
         all_goals (try simp only[wQ])
         all_goals (intro e he;have he:e<1:=he;obtain rfl:e=0:=(by omega);exact⟨rfl,rfl⟩))
      ·(conv=>whnf)
       (repeat' ((first
        |((with_reducible refine aI ?_ ?_);focus (first|omega|((with_reducible refine⟨?_,?_⟩)<;>first|with_reducible assumption|omega)))
        |(split<;>rename_i hh<;>(try simp only[wS] at hh))
        |fail)<;>(conv=>whnf)))
       all_goals try (exfalso;omega)
       refine⟨((w,32,C):List UInt8 × UInt8 × List (List UInt8)),⟨Nat.le_trans hwl (by decide),(Dd _).trans hC⟩,?_,?_⟩
       ·(conv=>whnf)
        (repeat' ((first|with_reducible exact⟨⟩|((with_reducible refine aI ?_ ?_);focus (exact tA))|with_reducible refine iA ?_ ?_|fail)<;>(conv=>whnf)))
        all_goals (try simp only[wQ])
        all_goals (try first|omega)
        all_goals exact hwi
       (conv=>whnf)
       (repeat' ((first
        |(exact absurd hsw hh)
        |((with_reducible refine aI ?_ ?_);focus (first|with_reducible exact⟨⟩|omega|((with_reducible refine⟨?_,?_⟩)<;>first|with_reducible assumption|omega)|exact tK))
        |(split<;>rename_i hh<;>(try simp only[wS] at hh))
        |with_reducible refine lnI fun hln=>?_
        |fail)<;>(conv=>whnf)))
       all_goals try (exfalso;omega)
       all_goals (
        refine⟨((C.drop 1,y,true):List (List UInt8) × Site × Bool),hr,?_,?_⟩
        ·(conv=>whnf)
         (repeat' ((first|with_reducible exact⟨⟩|((with_reducible refine aI ?_ ?_);focus (exact tA))|with_reducible refine iA ?_ ?_|fail)<;>(conv=>whnf)))
         all_goals (try simp only[wQ])
         all_goals exact⟨by rw[List.length_drop];rfl,fun h=>absurd h Bool.false_ne_true,fun e he=>by rw[Us];rfl⟩
        (conv=>whnf)
        (repeat' ((first
         |((with_reducible refine aI ?_ ?_);focus (omega))
         |fail)<;>(conv=>whnf)))
        refine⟨⟨Nat.le_refl _,by simp only[Aq,Bi];simp only[List.length_cons] at q2;omega,fun e he=>by obtain rfl:e=0:=(by omega);rfl⟩,?_⟩
        (conv=>whnf)
        (repeat' ((first
         |((with_reducible refine aI ?_ ?_);focus (exact tK))
         |fail)<;>(conv=>whnf)))
        (conv=>whnf)
        refine⟨((i+1,(c::S)++[y],[],K):Nat × List Site × List Act × Int),[6],?_,⟨⟨rfl,(nB rfl),rfl⟩,?_,?_⟩⟩
        ·exact⟨⟨show i+1≤W.length by omega,by simp only[List.length_append,List.length_cons,List.length_nil] at q2 ⊢;omega,q3,hst⟩,show W.length - (i+1)<W.length - i by omega⟩
        ·exact tL
        ·(conv=>whnf)
         (repeat' ((first|with_reducible exact⟨⟩|((with_reducible refine aI ?_ ?_);focus (exact tA))|with_reducible refine iA ?_ ?_|with_reducible refine iL ?_ ?_|with_reducible refine iB ?_ ?_|fail)<;>(conv=>whnf)))
         all_goals (try simp only[wQ])
         all_goals first|exact⟨by simp,.inl True.intro⟩|exact⟨by simp,fun e he=>⟨Lc (enc:=Site.enc) (l:=c::S) rfl (fun _ _=>rfl) rfl (by simpa using he),rfl⟩⟩)
    ·have hbt:=A24 hWs q4 h0 (by rw[hCW];by_cases h:C.getD 0 []=[115,105,116,101];exact .inr (Nat.pos_of_ne_zero fun h2=>hs ⟨h,List.length_eq_zero_iff.1 h2⟩);exact .inl h)
     rcases Axw w with hz|⟨a,hma,hz⟩
     ·obtain⟨rfl,rfl,rfl⟩:=Aaa hsc (A26 (x:=(Gk,4)) hWs (by omega) hbt (by rw[hw];exact hz) (by decide))
      rcases S with _|⟨c,S⟩
      ·rcases B with _|⟨b,B⟩
       ·(conv=>whnf)
        (repeat' ((first
         |((with_reducible refine aI ?_ ?_);focus (((with_reducible refine⟨?_,?_⟩)<;>first|with_reducible assumption|omega)))
         |(split<;>rename_i hh<;>(try simp only[wS] at hh))
         |fail)<;>(conv=>whnf)))
        all_goals try (exfalso;omega)
        refine⟨((w,32,C):List UInt8 × UInt8 × List (List UInt8)),⟨Nat.le_trans hwl (by decide),(Dd _).trans hC⟩,?_,?_⟩
        ·(conv=>whnf)
         (repeat' ((first|with_reducible exact⟨⟩|((with_reducible refine aI ?_ ?_);focus (exact tA))|with_reducible refine iA ?_ ?_|fail)<;>(conv=>whnf)))
         all_goals (try simp only[wQ])
         all_goals (try first|omega)
         all_goals exact hwi
        (conv=>whnf)
        (repeat' ((first
         |((with_reducible refine aI ?_ ?_);focus (first|with_reducible exact⟨⟩|omega|((with_reducible refine⟨?_,?_⟩)<;>first|with_reducible assumption|omega)|exact tK))
         |(split<;>rename_i hh<;>(try simp only[wS] at hh))
         |with_reducible refine lnI fun hln=>?_
         |fail)<;>(conv=>whnf)))
        all_goals try (exfalso;first|omega|exact hs ⟨by assumption,rfl⟩)
        all_goals (
         refine⟨((w,(Gk,4)):List UInt8 × Act × Int),⟨hz,hwl⟩,?_,?_⟩
         ·(conv=>whnf)
          (repeat' ((first|with_reducible exact⟨⟩|with_reducible refine iA ?_ ?_|fail)<;>(conv=>whnf)))
          all_goals (try simp only[wQ])
          all_goals (try first|omega)
          all_goals exact hwi
         (conv=>whnf)
         (repeat' ((first
          |with_reducible exact⟨⟩
          |((with_reducible refine aI ?_ ?_);focus (with_reducible rfl))
          |with_reducible refine iA ?_ ?_
          |fail)<;>(conv=>whnf)))
         all_goals (try (show _=_;simp only[wQ]))
         all_goals first|rfl|skip)
       ·(conv=>whnf)
        (repeat' ((first
         |((with_reducible refine aI ?_ ?_);focus (first|omega|((with_reducible refine⟨?_,?_⟩)<;>first|with_reducible assumption|omega)))
         |(split<;>rename_i hh<;>(try simp only[wS] at hh))
         |fail)<;>(conv=>whnf)))
        all_goals try (exfalso;omega)
        refine⟨((w,32,C):List UInt8 × UInt8 × List (List UInt8)),⟨Nat.le_trans hwl (by decide),(Dd _).trans hC⟩,?_,?_⟩
        ·(conv=>whnf)
         (repeat' ((first|with_reducible exact⟨⟩|((with_reducible refine aI ?_ ?_);focus (exact tA))|with_reducible refine iA ?_ ?_|fail)<;>(conv=>whnf)))
         all_goals (try simp only[wQ])
         all_goals (try first|omega)
         all_goals exact hwi
        (conv=>whnf)
        (repeat' ((first
         |((with_reducible refine aI ?_ ?_);focus (first|with_reducible exact⟨⟩|omega|((with_reducible refine⟨?_,?_⟩)<;>first|with_reducible assumption|omega)))
         |(split<;>rename_i hh<;>(try simp only[wS] at hh))
         |with_reducible refine lnI fun hln=>?_
         |fail)<;>(conv=>whnf)))
        all_goals try (exfalso;first|omega|exact hs ⟨by assumption,rfl⟩)
        all_goals (
         refine⟨((w,(Gk,4)):List UInt8 × Act × Int),⟨hz,hwl⟩,?_,?_⟩
         ·(conv=>whnf)
          (repeat' ((first|with_reducible exact⟨⟩|with_reducible refine iA ?_ ?_|fail)<;>(conv=>whnf)))
          all_goals (try simp only[wQ])
          all_goals (try first|omega)
          all_goals exact hwi
         (conv=>whnf)
         (repeat' ((first
          |with_reducible exact⟨⟩
          |((with_reducible refine aI ?_ ?_);focus (with_reducible rfl))
          |with_reducible refine iA ?_ ?_
          |fail)<;>(conv=>whnf)))
         all_goals (try (show _=_;simp only[wQ]))
         all_goals first|rfl|skip)
      ·rcases B with _|⟨b,B⟩
       ·(conv=>whnf)
        (repeat' ((first
         |((with_reducible refine aI ?_ ?_);focus (first|omega|((with_reducible refine⟨?_,?_⟩)<;>first|with_reducible assumption|omega)))
         |(split<;>rename_i hh<;>(try simp only[wS] at hh))
         |fail)<;>(conv=>whnf)))
        all_goals try (exfalso;omega)
        refine⟨((w,32,C):List UInt8 × UInt8 × List (List UInt8)),⟨Nat.le_trans hwl (by decide),(Dd _).trans hC⟩,?_,?_⟩
        ·(conv=>whnf)
         (repeat' ((first|with_reducible exact⟨⟩|((with_reducible refine aI ?_ ?_);focus (exact tA))|with_reducible refine iA ?_ ?_|fail)<;>(conv=>whnf)))
         all_goals (try simp only[wQ])
         all_goals (try first|omega)
         all_goals exact hwi
        (conv=>whnf)
        (repeat' ((first
         |((with_reducible refine aI ?_ ?_);focus (first|with_reducible exact⟨⟩|omega|((with_reducible refine⟨?_,?_⟩)<;>first|with_reducible assumption|omega)|exact tK))
         |(split<;>rename_i hh<;>(try simp only[wS] at hh))
         |with_reducible refine lnI fun hln=>?_
         |fail)<;>(conv=>whnf)))
        all_goals try (exfalso;first|omega|exact hs ⟨by assumption,rfl⟩)
        all_goals (
         refine⟨((w,(Gk,4)):List UInt8 × Act × Int),⟨hz,hwl⟩,?_,?_⟩
         ·(conv=>whnf)
          (repeat' ((first|with_reducible exact⟨⟩|with_reducible refine iA ?_ ?_|fail)<;>(conv=>whnf)))
          all_goals (try simp only[wQ])
          all_goals (try first|omega)
          all_goals exact hwi
         (conv=>whnf)
         (repeat' ((first
          |with_reducible exact⟨⟩
          |((with_reducible refine aI ?_ ?_);focus (with_reducible rfl))
          |with_reducible refine iA ?_ ?_
          |fail)<;>(conv=>whnf)))
         all_goals (try (show _=_;simp only[wQ]))
         all_goals first|rfl|skip)
       ·(conv=>whnf)
        (repeat' ((first
         |((with_reducible refine aI ?_ ?_);focus (first|omega|((with_reducible refine⟨?_,?_⟩)<;>first|with_reducible assumption|omega)))
         |(split<;>rename_i hh<;>(try simp only[wS] at hh))
         |fail)<;>(conv=>whnf)))
        all_goals try (exfalso;omega)
        refine⟨((w,32,C):List UInt8 × UInt8 × List (List UInt8)),⟨Nat.le_trans hwl (by decide),(Dd _).trans hC⟩,?_,?_⟩
        ·(conv=>whnf)
         (repeat' ((first|with_reducible exact⟨⟩|((with_reducible refine aI ?_ ?_);focus (exact tA))|with_reducible refine iA ?_ ?_|fail)<;>(conv=>whnf)))
         all_goals (try simp only[wQ])
         all_goals (try first|omega)
         all_goals exact hwi
        (conv=>whnf)
        (repeat' ((first
         |((with_reducible refine aI ?_ ?_);focus (first|with_reducible exact⟨⟩|omega|((with_reducible refine⟨?_,?_⟩)<;>first|with_reducible assumption|omega)))
         |(split<;>rename_i hh<;>(try simp only[wS] at hh))
         |with_reducible refine lnI fun hln=>?_
         |fail)<;>(conv=>whnf)))
        all_goals try (exfalso;first|omega|exact hs ⟨by assumption,rfl⟩)
        all_goals (
         refine⟨((w,(Gk,4)):List UInt8 × Act × Int),⟨hz,hwl⟩,?_,?_⟩
         ·(conv=>whnf)
          (repeat' ((first|with_reducible exact⟨⟩|with_reducible refine iA ?_ ?_|fail)<;>(conv=>whnf)))
          all_goals (try simp only[wQ])
          all_goals (try first|omega)
          all_goals exact hwi
         (conv=>whnf)
         (repeat' ((first
          |with_reducible exact⟨⟩
          |((with_reducible refine aI ?_ ?_);focus (with_reducible rfl))
          |with_reducible refine iA ?_ ?_
          |fail)<;>(conv=>whnf)))
         all_goals (try (show _=_;simp only[wQ]))
         all_goals first|rfl|skip)
     ·have hst:=A25 hWs (by omega) q4 hbt (by rw[hw];exact hz)
      rcases S with _|⟨c,S⟩
      ·rcases B with _|⟨b,B⟩
       ·(conv=>whnf)
        (repeat' ((first
         |((with_reducible refine aI ?_ ?_);focus (((with_reducible refine⟨?_,?_⟩)<;>first|with_reducible assumption|omega)))
         |(split<;>rename_i hh<;>(try simp only[wS] at hh))
         |fail)<;>(conv=>whnf)))
        all_goals try (exfalso;omega)
        refine⟨((w,32,C):List UInt8 × UInt8 × List (List UInt8)),⟨Nat.le_trans hwl (by decide),(Dd _).trans hC⟩,?_,?_⟩
        ·(conv=>whnf)
         (repeat' ((first|with_reducible exact⟨⟩|((with_reducible refine aI ?_ ?_);focus (exact tA))|with_reducible refine iA ?_ ?_|fail)<;>(conv=>whnf)))
         all_goals (try simp only[wQ])
         all_goals (try first|omega)
         all_goals exact hwi
        (conv=>whnf)
        (repeat' ((first
         |((with_reducible refine aI ?_ ?_);focus (first|with_reducible exact⟨⟩|omega|((with_reducible refine⟨?_,?_⟩)<;>first|with_reducible assumption|omega)|exact tK))
         |(split<;>rename_i hh<;>(try simp only[wS] at hh))
         |with_reducible refine lnI fun hln=>?_
         |fail)<;>(conv=>whnf)))
        all_goals try (exfalso;first|omega|exact hs ⟨by assumption,rfl⟩)
        all_goals (
         refine⟨((w,(a,0)):List UInt8 × Act × Int),⟨hz,hwl⟩,?_,?_⟩
         ·(conv=>whnf)
          (repeat' ((first|with_reducible exact⟨⟩|with_reducible refine iA ?_ ?_|fail)<;>(conv=>whnf)))
          all_goals (try simp only[wQ])
          all_goals (try first|omega)
          all_goals exact hwi
         (conv=>whnf)
         (repeat' ((first
          |((with_reducible refine aI ?_ ?_);focus (first|omega|exact tK|(simp only[Aq,ty2,ty3,ty4,ty5,ty9,Cw,Co,Cx,Cp,Cu,Cy,Cv,Cz,Bm,Bj,Bn,Bi,Bo,Bp,Bq];first|omega|(refine⟨?_,?_⟩<;>omega))))
          |fail)<;>(conv=>whnf)))
         (conv=>whnf)
         refine⟨((i+1,[],[]++[a],K):Nat × List Site × List Act × Int),[2,6],?_,⟨⟨rfl,(nB rfl),rfl⟩,?_,?_⟩⟩
         ·exact⟨⟨show i+1≤W.length by omega,by simp only[List.length_append,List.length_cons,List.length_nil] at q2 ⊢;omega,Yt (P:=fun a=>Af a=true∧fitA a) q3 hma,hst⟩,show W.length - (i+1)<W.length - i by omega⟩
         ·exact tL
         ·(conv=>whnf)
          (repeat' ((first|with_reducible exact⟨⟩|((with_reducible refine aI ?_ ?_);focus (exact tA))|with_reducible refine iA ?_ ?_|with_reducible refine iL ?_ ?_|with_reducible refine iB ?_ ?_|fail)<;>(conv=>whnf)))
          all_goals (try simp only[wQ])
          all_goals first|exact fun e he=>⟨True.intro,rfl⟩|(intro e he;have he:e<1:=he;obtain rfl:e=0:=(by omega);exact⟨rfl,rfl⟩))
       ·(conv=>whnf)
        (repeat' ((first
         |((with_reducible refine aI ?_ ?_);focus (first|omega|((with_reducible refine⟨?_,?_⟩)<;>first|with_reducible assumption|omega)))
         |(split<;>rename_i hh<;>(try simp only[wS] at hh))
         |fail)<;>(conv=>whnf)))
        all_goals try (exfalso;omega)
        refine⟨((w,32,C):List UInt8 × UInt8 × List (List UInt8)),⟨Nat.le_trans hwl (by decide),(Dd _).trans hC⟩,?_,?_⟩
        ·(conv=>whnf)
         (repeat' ((first|with_reducible exact⟨⟩|((with_reducible refine aI ?_ ?_);focus (exact tA))|with_reducible refine iA ?_ ?_|fail)<;>(conv=>whnf)))
         all_goals (try simp only[wQ])
         all_goals (try first|omega)
         all_goals exact hwi
        (conv=>whnf)
        (repeat' ((first
         |((with_reducible refine aI ?_ ?_);focus (first|with_reducible exact⟨⟩|omega|((with_reducible refine⟨?_,?_⟩)<;>first|with_reducible assumption|omega)))
         |(split<;>rename_i hh<;>(try simp only[wS] at hh))
         |with_reducible refine lnI fun hln=>?_
         |fail)<;>(conv=>whnf)))
        all_goals try (exfalso;first|omega|exact hs ⟨by assumption,rfl⟩)
        all_goals (
         refine⟨((w,(a,0)):List UInt8 × Act × Int),⟨hz,hwl⟩,?_,?_⟩
         ·(conv=>whnf)
          (repeat' ((first|with_reducible exact⟨⟩|with_reducible refine iA ?_ ?_|fail)<;>(conv=>whnf)))
          all_goals (try simp only[wQ])
          all_goals (try first|omega)
          all_goals exact hwi
         (conv=>whnf)
         (repeat' ((first
          |((with_reducible refine aI ?_ ?_);focus (omega))
          |fail)<;>(conv=>whnf)))
         refine⟨⟨Nat.le_refl _,by simp only[Aq,Cv];simp only[List.length_cons] at q2;omega,fun e he=>by obtain rfl:e=0:=(by omega);rfl⟩,?_⟩
         (conv=>whnf)
         (repeat' ((first
          |((with_reducible refine aI ?_ ?_);focus (exact tK))
          |fail)<;>(conv=>whnf)))
         (conv=>whnf)
         refine⟨((i+1,[],(b::B)++[a],K):Nat × List Site × List Act × Int),[2,6],?_,⟨⟨rfl,(nB rfl),rfl⟩,?_,?_⟩⟩
         ·exact⟨⟨show i+1≤W.length by omega,by simp only[List.length_append,List.length_cons,List.length_nil] at q2 ⊢;omega,Yt (P:=fun a=>Af a=true∧fitA a) q3 hma,hst⟩,show W.length - (i+1)<W.length - i by omega⟩
         ·exact tL
         ·(conv=>whnf)
          (repeat' ((first|with_reducible exact⟨⟩|((with_reducible refine aI ?_ ?_);focus (exact tA))|with_reducible refine iA ?_ ?_|with_reducible refine iL ?_ ?_|with_reducible refine iB ?_ ?_|fail)<;>(conv=>whnf)))
          all_goals (try simp only[wQ])
          all_goals first|exact fun e he=>⟨True.intro,rfl⟩|exact⟨by simp,.inl True.intro⟩|exact⟨by simp,fun e he=>⟨Lc (enc:=Act.enc) (l:=b::B) rfl (fun _ _=>rfl) rfl (by simpa using he),rfl⟩⟩)
      ·rcases B with _|⟨b,B⟩
       ·(conv=>whnf)
        (repeat' ((first
         |((with_reducible refine aI ?_ ?_);focus (first|omega|((with_reducible refine⟨?_,?_⟩)<;>first|with_reducible assumption|omega)))
         |(split<;>rename_i hh<;>(try simp only[wS] at hh))
         |fail)<;>(conv=>whnf)))
        all_goals try (exfalso;omega)
        refine⟨((w,32,C):List UInt8 × UInt8 × List (List UInt8)),⟨Nat.le_trans hwl (by decide),(Dd _).trans hC⟩,?_,?_⟩
        ·(conv=>whnf)
         (repeat' ((first|with_reducible exact⟨⟩|((with_reducible refine aI ?_ ?_);focus (exact tA))|with_reducible refine iA ?_ ?_|fail)<;>(conv=>whnf)))
         all_goals (try simp only[wQ])
         all_goals (try first|omega)
         all_goals exact hwi
        (conv=>whnf)
        (repeat' ((first
         |((with_reducible refine aI ?_ ?_);focus (first|with_reducible exact⟨⟩|omega|((with_reducible refine⟨?_,?_⟩)<;>first|with_reducible assumption|omega)|exact tK))
         |(split<;>rename_i hh<;>(try simp only[wS] at hh))
         |with_reducible refine lnI fun hln=>?_
         |fail)<;>(conv=>whnf)))
        all_goals try (exfalso;first|omega|exact hs ⟨by assumption,rfl⟩)
        all_goals (
         refine⟨((w,(a,0)):List UInt8 × Act × Int),⟨hz,hwl⟩,?_,?_⟩
         ·(conv=>whnf)
          (repeat' ((first|with_reducible exact⟨⟩|with_reducible refine iA ?_ ?_|fail)<;>(conv=>whnf)))
          all_goals (try simp only[wQ])
          all_goals (try first|omega)
          all_goals exact hwi
         (conv=>whnf)
         (repeat' ((first
          |((with_reducible refine aI ?_ ?_);focus (first|omega|exact tK|(simp only[Aq,ty2,ty3,ty4,ty5,ty9,Cw,Co,Cx,Cp,Cu,Cy,Cv,Cz,Bm,Bj,Bn,Bi,Bo,Bp,Bq];first|omega|(refine⟨?_,?_⟩<;>omega))))
          |fail)<;>(conv=>whnf)))
         (conv=>whnf)
         refine⟨((i+1,(c::S),[]++[a],K):Nat × List Site × List Act × Int),[2,6],?_,⟨⟨rfl,(nB rfl),rfl⟩,?_,?_⟩⟩
         ·exact⟨⟨show i+1≤W.length by omega,by simp only[List.length_append,List.length_cons,List.length_nil] at q2 ⊢;omega,Yt (P:=fun a=>Af a=true∧fitA a) q3 hma,hst⟩,show W.length - (i+1)<W.length - i by omega⟩
         ·exact tL
         ·(conv=>whnf)
          (repeat' ((first|with_reducible exact⟨⟩|((with_reducible refine Or.inr ?_);rfl)|((with_reducible refine aI ?_ ?_);focus (exact tA))|with_reducible refine iA ?_ ?_|with_reducible refine iL ?_ ?_|with_reducible refine iB ?_ ?_|fail)<;>(conv=>whnf)))
          all_goals (try simp only[wQ])
          all_goals first|exact fun e he=>⟨True.intro,rfl⟩|(intro e he;have he:e<1:=he;obtain rfl:e=0:=(by omega);exact⟨rfl,rfl⟩))
       ·(conv=>whnf)
        (repeat' ((first
         |((with_reducible refine aI ?_ ?_);focus (first|omega|((with_reducible refine⟨?_,?_⟩)<;>first|with_reducible assumption|omega)))
         |(split<;>rename_i hh<;>(try simp only[wS] at hh))
         |fail)<;>(conv=>whnf)))
        all_goals try (exfalso;omega)
        refine⟨((w,32,C):List UInt8 × UInt8 × List (List UInt8)),⟨Nat.le_trans hwl (by decide),(Dd _).trans hC⟩,?_,?_⟩
        ·(conv=>whnf)
         (repeat' ((first|with_reducible exact⟨⟩|((with_reducible refine aI ?_ ?_);focus (exact tA))|with_reducible refine iA ?_ ?_|fail)<;>(conv=>whnf)))
         all_goals (try simp only[wQ])
         all_goals (try first|omega)
         all_goals exact hwi
        (conv=>whnf)
        (repeat' ((first
         |((with_reducible refine aI ?_ ?_);focus (first|with_reducible exact⟨⟩|omega|((with_reducible refine⟨?_,?_⟩)<;>first|with_reducible assumption|omega)))
         |(split<;>rename_i hh<;>(try simp only[wS] at hh))
         |with_reducible refine lnI fun hln=>?_
         |fail)<;>(conv=>whnf)))
        all_goals try (exfalso;first|omega|exact hs ⟨by assumption,rfl⟩)
        all_goals (
         refine⟨((w,(a,0)):List UInt8 × Act × Int),⟨hz,hwl⟩,?_,?_⟩
         ·(conv=>whnf)
          (repeat' ((first|with_reducible exact⟨⟩|with_reducible refine iA ?_ ?_|fail)<;>(conv=>whnf)))
          all_goals (try simp only[wQ])
          all_goals (try first|omega)
          all_goals exact hwi
         (conv=>whnf)
         (repeat' ((first
          |((with_reducible refine aI ?_ ?_);focus (omega))
          |fail)<;>(conv=>whnf)))
         refine⟨⟨Nat.le_refl _,by simp only[Aq,Cv];simp only[List.length_cons] at q2;omega,fun e he=>by obtain rfl:e=0:=(by omega);rfl⟩,?_⟩
         (conv=>whnf)
         (repeat' ((first
          |((with_reducible refine aI ?_ ?_);focus (exact tK))
          |fail)<;>(conv=>whnf)))
         (conv=>whnf)
         refine⟨((i+1,(c::S),(b::B)++[a],K):Nat × List Site × List Act × Int),[2,6],?_,⟨⟨rfl,(nB rfl),rfl⟩,?_,?_⟩⟩
         ·exact⟨⟨show i+1≤W.length by omega,by simp only[List.length_append,List.length_cons,List.length_nil] at q2 ⊢;omega,Yt (P:=fun a=>Af a=true∧fitA a) q3 hma,hst⟩,show W.length - (i+1)<W.length - i by omega⟩
         ·exact tL
         ·(conv=>whnf)
          (repeat' ((first|with_reducible exact⟨⟩|((with_reducible refine Or.inr ?_);rfl)|((with_reducible refine aI ?_ ?_);focus (exact tA))|with_reducible refine iA ?_ ?_|with_reducible refine iL ?_ ?_|with_reducible refine iB ?_ ?_|fail)<;>(conv=>whnf)))
          all_goals (try simp only[wQ])
          all_goals first|exact fun e he=>⟨True.intro,rfl⟩|exact⟨by simp,.inl True.intro⟩|exact⟨by simp,fun e he=>⟨Lc (enc:=Act.enc) (l:=b::B) rfl (fun _ _=>rfl) rfl (by simpa using he),rfl⟩⟩)
  ·have hie:i=W.length:=by omega
   have hend:=Axv hWs (by omega) q4
   have hshB:∀ j,j<B.length→D5 (B.getD j default).request:=fun j hj=>Ak7 (q3 j hj).1
   rcases hout:Lh ⟨S,K⟩ B with ⟨u,v⟩
   by_cases hok:Dt ⟨S,K⟩=true∧B.length≤10000∧scW ⟨S,K⟩ B=t
   ·obtain⟨k1,k2,ht⟩:=hok
    have hme:Kx t ⟨S,K⟩ B:=by unfold Kx;exact⟨k1,k2,q3,ht.symm⟩
    obtain⟨rfl,rfl,e2⟩:=Apo hsc hme hend
    obtain rfl:=e2.symm
    cases hout.symm.trans (nN k2 k1 fun j hj=>(q3 j hj).1)
    rcases S with _|⟨c,S⟩
    ·rcases B with _|⟨b,B⟩
     ·(conv=>whnf)
      (repeat' ((first
       |((with_reducible refine aI ?_ ?_);focus (omega))
       |(split<;>rename_i hh<;>(try simp only[wS] at hh))
       |fail)<;>(conv=>whnf)))
      all_goals try (exfalso;omega)
      refine⟨((⟨[],K⟩,[],scW ⟨[],K⟩ [],0):Setup × List Act × List UInt8 × Int),⟨hshB,hout⟩,?_,?_⟩
      ·(conv=>whnf)
       (repeat' ((first|with_reducible exact⟨⟩|((with_reducible refine aI ?_ ?_);focus (exact tA))|with_reducible refine iA ?_ ?_|fail)<;>(conv=>whnf)))
       all_goals skip
      (conv=>whnf)
      (repeat' ((first
       |with_reducible exact⟨⟩
       |(exact absurd ht hh)
       |((with_reducible refine aI ?_ ?_);focus (with_reducible rfl))
       |(split<;>rename_i hh<;>(try simp only[wS] at hh))
       |with_reducible refine iA ?_ ?_
       |fail)<;>(conv=>whnf)))
      all_goals (try (show _=_;simp only[wQ]))
      all_goals first|rfl|exact⟨rfl,fun h=>h,fun e he=>by simp only[Nat.zero_add]⟩|skip
     ·(conv=>whnf)
      (repeat' ((first
       |((with_reducible refine aI ?_ ?_);focus (omega))
       |(split<;>rename_i hh<;>(try simp only[wS] at hh))
       |fail)<;>(conv=>whnf)))
      all_goals try (exfalso;omega)
      refine⟨⟨by omega,fun e he=>rfl⟩,?_⟩
      (conv=>whnf)
      refine⟨((⟨[],K⟩,(b::B),scW ⟨[],K⟩ (b::B),0):Setup × List Act × List UInt8 × Int),⟨hshB,hout⟩,?_,?_⟩
      ·(conv=>whnf)
       (repeat' ((first|with_reducible exact⟨⟩|((with_reducible refine aI ?_ ?_);focus (exact tA))|with_reducible refine iA ?_ ?_|fail)<;>(conv=>whnf)))
       all_goals (try simp only[wQ])
       all_goals (try first|(refine⟨fun h=>h,fun e he=>?_⟩;rw[Nat.zero_add];done))
       all_goals skip
      (conv=>whnf)
      (repeat' ((first
       |(exact absurd ht hh)
       |(split<;>rename_i hh<;>(try simp only[wS] at hh))
       |fail)<;>(conv=>whnf)))
      refine⟨⟨by omega,fun e he=>rfl⟩,?_⟩
      (conv=>whnf)
      (repeat' ((first
       |with_reducible exact⟨⟩
       |((with_reducible refine aI ?_ ?_);focus (with_reducible rfl))
       |with_reducible refine iA ?_ ?_
       |fail)<;>(conv=>whnf)))
      all_goals (try (show _=_;simp only[wQ]))
      all_goals first|rfl|exact⟨rfl,fun h=>h,fun e he=>by simp only[Nat.zero_add]⟩|skip
    ·rcases B with _|⟨b,B⟩
     ·(conv=>whnf)
      (repeat' ((first
       |((with_reducible refine aI ?_ ?_);focus (omega))
       |(split<;>rename_i hh<;>(try simp only[wS] at hh))
       |fail)<;>(conv=>whnf)))
      all_goals try (exfalso;omega)
      refine⟨⟨by omega,fun e he=>rfl⟩,?_⟩
      (conv=>whnf)
      refine⟨((⟨(c::S),K⟩,[],scW ⟨(c::S),K⟩ [],0):Setup × List Act × List UInt8 × Int),⟨hshB,hout⟩,?_,?_⟩
      ·(conv=>whnf)
       (repeat' ((first|with_reducible exact⟨⟩|((with_reducible refine aI ?_ ?_);focus (exact tA))|with_reducible refine iA ?_ ?_|fail)<;>(conv=>whnf)))
       all_goals (try simp only[wQ])
       all_goals (try first|(refine⟨fun h=>h,fun e he=>?_⟩;rw[Nat.zero_add];done))
       all_goals skip
      (conv=>whnf)
      (repeat' ((first
       |(exact absurd ht hh)
       |(split<;>rename_i hh<;>(try simp only[wS] at hh))
       |fail)<;>(conv=>whnf)))
      refine⟨⟨by omega,fun e he=>rfl⟩,?_⟩
      (conv=>whnf)
      (repeat' ((first
       |with_reducible exact⟨⟩
       |((with_reducible refine aI ?_ ?_);focus (with_reducible rfl))
       |with_reducible refine iA ?_ ?_
       |fail)<;>(conv=>whnf)))
      all_goals (try (show _=_;simp only[wQ]))
      all_goals first|rfl|exact⟨rfl,fun h=>h,fun e he=>by simp only[Nat.zero_add]⟩|skip
     ·(conv=>whnf)
      (repeat' ((first
       |((with_reducible refine aI ?_ ?_);focus (omega))
       |(split<;>rename_i hh<;>(try simp only[wS] at hh))
       |fail)<;>(conv=>whnf)))
      all_goals try (exfalso;omega)
      refine⟨⟨by omega,fun e he=>rfl⟩,?_⟩
      (conv=>whnf)
      refine⟨⟨by omega,fun e he=>rfl⟩,?_⟩
      (conv=>whnf)
      refine⟨((⟨(c::S),K⟩,(b::B),scW ⟨(c::S),K⟩ (b::B),0):Setup × List Act × List UInt8 × Int),⟨hshB,hout⟩,?_,?_⟩
      ·(conv=>whnf)
       (repeat' ((first|with_reducible exact⟨⟩|((with_reducible refine aI ?_ ?_);focus (exact tA))|with_reducible refine iA ?_ ?_|fail)<;>(conv=>whnf)))
       all_goals (try simp only[wQ])
       all_goals (try first|(refine⟨fun h=>h,fun e he=>?_⟩;rw[Nat.zero_add];done))
       all_goals skip
      (conv=>whnf)
      (repeat' ((first
       |(exact absurd ht hh)
       |(split<;>rename_i hh<;>(try simp only[wS] at hh))
       |fail)<;>(conv=>whnf)))
      refine⟨⟨by omega,fun e he=>rfl⟩,?_⟩
      (conv=>whnf)
      refine⟨⟨by omega,fun e he=>rfl⟩,?_⟩
      (conv=>whnf)
      (repeat' ((first
       |with_reducible exact⟨⟩
       |((with_reducible refine aI ?_ ?_);focus (with_reducible rfl))
       |with_reducible refine iA ?_ ?_
       |fail)<;>(conv=>whnf)))
      all_goals first|rfl|exact⟨rfl,fun h=>h,fun e he=>by simp only[Nat.zero_add]⟩|skip
   ·have hv:v=0→u=t→False:=fun h1 h2=>by subst h1;obtain⟨m1,m2,m3⟩:=Agz hout;exact hok ⟨m1,m2,m3.symm.trans h2⟩
    obtain⟨rfl,rfl,rfl⟩:=Aaa hsc fun s C h=>by obtain⟨rfl,rfl⟩:=hend s C h;unfold Kx at h;exact hok ⟨h.1,h.2.1,h.2.2.2.symm⟩
    rcases S with _|⟨c,S⟩
    ·rcases B with _|⟨b,B⟩
     ·(conv=>whnf)
      (repeat' ((first
       |((with_reducible refine aI ?_ ?_);focus (omega))
       |(split<;>rename_i hh<;>(try simp only[wS] at hh))
       |fail)<;>(conv=>whnf)))
      all_goals try (exfalso;omega)
      refine⟨((⟨[],K⟩,[],u,v):Setup × List Act × List UInt8 × Int),⟨hshB,hout⟩,?_,?_⟩
      ·(conv=>whnf)
       (repeat' ((first|with_reducible exact⟨⟩|((with_reducible refine aI ?_ ?_);focus (exact tA))|with_reducible refine iA ?_ ?_|fail)<;>(conv=>whnf)))
       all_goals skip
      (conv=>whnf)
      (repeat' ((first
       |with_reducible exact⟨⟩
       |((with_reducible refine aI ?_ ?_);focus (with_reducible rfl))
       |(split<;>rename_i hh<;>(try simp only[wS] at hh))
       |with_reducible refine iA ?_ ?_
       |fail)<;>(conv=>whnf)))
      all_goals (try (show _=_;simp only[wQ]))
      all_goals first|rfl|exact(hv (by assumption) (by assumption)).elim|skip
     ·(conv=>whnf)
      (repeat' ((first
       |((with_reducible refine aI ?_ ?_);focus (omega))
       |(split<;>rename_i hh<;>(try simp only[wS] at hh))
       |fail)<;>(conv=>whnf)))
      all_goals try (exfalso;omega)
      refine⟨⟨by omega,fun e he=>rfl⟩,?_⟩
      (conv=>whnf)
      refine⟨((⟨[],K⟩,(b::B),u,v):Setup × List Act × List UInt8 × Int),⟨hshB,hout⟩,?_,?_⟩
      ·(conv=>whnf)
       (repeat' ((first|with_reducible exact⟨⟩|((with_reducible refine aI ?_ ?_);focus (exact tA))|with_reducible refine iA ?_ ?_|fail)<;>(conv=>whnf)))
       all_goals (try simp only[wQ])
       all_goals (try first|(refine⟨fun h=>h,fun e he=>?_⟩;rw[Nat.zero_add];done))
       all_goals skip
      (conv=>whnf)
      (repeat' ((first
       |with_reducible exact⟨⟩
       |((with_reducible refine aI ?_ ?_);focus (with_reducible rfl))
       |(split<;>rename_i hh<;>(try simp only[wS] at hh))
       |with_reducible refine iA ?_ ?_
       |fail)<;>(conv=>whnf)))
      all_goals (try (show _=_;simp only[wQ]))
      all_goals first|rfl|exact(hv (by assumption) (by assumption)).elim|skip
    ·rcases B with _|⟨b,B⟩
     ·(conv=>whnf)
      (repeat' ((first
       |((with_reducible refine aI ?_ ?_);focus (omega))
       |(split<;>rename_i hh<;>(try simp only[wS] at hh))
       |fail)<;>(conv=>whnf)))
      all_goals try (exfalso;omega)
      refine⟨⟨by omega,fun e he=>rfl⟩,?_⟩
      (conv=>whnf)
      refine⟨((⟨(c::S),K⟩,[],u,v):Setup × List Act × List UInt8 × Int),⟨hshB,hout⟩,?_,?_⟩
      ·(conv=>whnf)
       (repeat' ((first|with_reducible exact⟨⟩|((with_reducible refine aI ?_ ?_);focus (exact tA))|with_reducible refine iA ?_ ?_|fail)<;>(conv=>whnf)))
       all_goals (try simp only[wQ])
       all_goals (try first|(refine⟨fun h=>h,fun e he=>?_⟩;rw[Nat.zero_add];done))
       all_goals skip
      (conv=>whnf)
      (repeat' ((first
       |with_reducible exact⟨⟩
       |((with_reducible refine aI ?_ ?_);focus (with_reducible rfl))
       |(split<;>rename_i hh<;>(try simp only[wS] at hh))
       |with_reducible refine iA ?_ ?_
       |fail)<;>(conv=>whnf)))
      all_goals (try (show _=_;simp only[wQ]))
      all_goals first|rfl|exact(hv (by assumption) (by assumption)).elim|skip
     ·(conv=>whnf)
      (repeat' ((first
       |((with_reducible refine aI ?_ ?_);focus (omega))
       |(split<;>rename_i hh<;>(try simp only[wS] at hh))
       |fail)<;>(conv=>whnf)))
      all_goals try (exfalso;omega)
      refine⟨⟨by omega,fun e he=>rfl⟩,?_⟩
      (conv=>whnf)
      refine⟨⟨by omega,fun e he=>rfl⟩,?_⟩
      (conv=>whnf)
      refine⟨((⟨(c::S),K⟩,(b::B),u,v):Setup × List Act × List UInt8 × Int),⟨hshB,hout⟩,?_,?_⟩
      ·(conv=>whnf)
       (repeat' ((first|with_reducible exact⟨⟩|((with_reducible refine aI ?_ ?_);focus (exact tA))|with_reducible refine iA ?_ ?_|fail)<;>(conv=>whnf)))
       all_goals (try simp only[wQ])
       all_goals (try first|(refine⟨fun h=>h,fun e he=>?_⟩;rw[Nat.zero_add];done))
       all_goals skip
      (conv=>whnf)
      (repeat' ((first
       |with_reducible exact⟨⟩
       |((with_reducible refine aI ?_ ?_);focus (with_reducible rfl))
       |(split<;>rename_i hh<;>(try simp only[wS] at hh))
       |with_reducible refine iA ?_ ?_
       |fail)<;>(conv=>whnf)))
      all_goals (try (show _=_;simp only[wQ]))
      all_goals first|rfl|exact(hv (by assumption) (by assumption)).elim|skip
end
end Go.Vc.Z
