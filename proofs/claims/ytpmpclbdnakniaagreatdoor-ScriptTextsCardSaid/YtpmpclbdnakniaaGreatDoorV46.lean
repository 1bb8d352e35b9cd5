/- script.ScriptOf: the setup and the acts of a script. -/
import Derived.Test.YtpmpclbdnakniaaGreatDoorV45
import Derived.Test.YtpmpclbdnakniaaGreatDoorV38
set_option linter.all false
set_option maxHeartbeats 8000000
namespace Go.Vc.Z
open Go Go.Vc Go.Proofs Go.RowKit Go.Pl Go.Lib
theorem As8(s:List UInt8):dG s=(C9,4)∨∃ a,(Ag a=true∧fitA a)∧dG s=(a,0):=by
 by_cases hx:∃ a,Ag a=true∧fitA a∧Bh a=s
 ·obtain⟨a,h1,h2,h3⟩:=hx;subst h3;exact .inr ⟨a,⟨h1,h2⟩,Aa5 h1 h2⟩
 ·exact .inl (jD fun a h1 h2 h3=>hx ⟨a,h1,h2,h3⟩)
theorem Aih{P:Act→Prop}{B:List Act}{a:Act}(h:∀ j,j<B.length→P (B.getD j default))(ha:P a):∀ j,j<(B++[a]).length→P ((B++[a]).getD j default):=fun j hj=>by
 rw[List.length_append] at hj;rcases Nat.lt_or_ge j B.length with h1|h1
 ·rw[List.getD_eq_getElem?_getD,List.getElem?_append_left h1,←List.getD_eq_getElem?_getD];exact h j h1
 ·obtain rfl:j=B.length:=by simp only[List.length_cons,List.length_nil] at hj;omega
  rw[List.getD_eq_getElem?_getD,List.getElem?_append_right (Nat.le_refl _),Nat.sub_self];exact ha
noncomputable section
set_option maxRecDepth 100000
attribute [local irreducible] inK Utf8.decode Utf8.encode Lib.itoa Pl.worth Pl.allDig
attribute [local irreducible] Lib.join Bp Aa scL
def As9:List Site→Blk
 |[]=>.dead
 |c::l=>.row 6 (l.length+1) (fun e=>Site.enc ((c::l).getD e default))
def Ata:List Site→AV
 |[]=>.nilsl
 |_::l=>.osl 2 6 0 (l.length+1) none
def Az5:List Act→Blk
 |[]=>.dead
 |c::l=>.row 17 (l.length+1) (fun e=>Act.enc ((c::l).getD e default))
def Az6:List Act→AV
 |[]=>.nilsl
 |_::l=>.osl 3 17 0 (l.length+1) none
structure ScO where
 x:Setup
 A:List Act
 e:Int
 t:List UInt8
 W:List (List UInt8)
def LSo(o:ScO):LoopSpec:={
 α:=Nat × List Site × List Act × Int
 keep:=[0,2,5,6,20,21,22]
 vals y:=match y with|(i,_,B,_)=>[.str o.t,.ptr 0 0,.ptr 1 0,Az6 B,Au5 o.W,.int .i64 o.W.length,.int .i64 i]
 heap y:=match y with|(_,S,B,K)=>[.var [.nilsl,.int .i64 0] (some 78),.var [Ata S,.int .i64 K] (some 78),As9 S,Az5 B]
 ok y:=match y with|(i,S,B,K)=>i≤o.W.length∧S.length+B.length≤i∧(∀ j,j<B.length→Ag (B.getD j default)=true∧fitA (B.getD j default))∧Nk o.t i S B K
 μ y:=match y with|(i,_)=>o.W.length - i }
def Atb:PC:=PC.of (fun o:ScO=>[.str o.t]) (fun o=>dM o.t o.x o.A o.e∧Aa 10 (Ko o.t)=o.W∧(∀ i,(o.W.getD i []).length≤1000000)∧o.t.length≤100000000) (fun o=>.tup [.agg o.x.enc,slE 17 Act.enc o.A,.int .i64 o.e])
def Kf:PT:=Cg [(30,Amb),(39,Az2),(78,pL),(93,Wa),(104,Ami),(105,Aig)]
theorem Qb{W:World}(hW:Gd W):Cb (Fw W) Tryz.prog Kf:=(Ab Tryz.call30 (qT hW) (Ab Tryz.call39 (hZ hW.1) (Ab Tryz.call78 (pM hW.1) (Ab Tryz.call93 (G5 hW.1) (Ab Tryz.call104 (Vt hW.1) (Ab Tryz.call105 (sD hW.1) Aq))))))
def Kg:FuncId→Option Ctr:=Av Kf []
theorem aZ{W:World}(hW:Gd W):Ad (Fw W) Tryz.prog Kg:=(Ar (Qb hW))
def bA:ScO→Nat→Option LR:=fun o i=>cond (Nat.beq i 5) (some (.inv (LSo o))) (none)
theorem bB{W:World}(hW:Gd W):GoodP (Fw W) Tryz.prog 41 Atb:=by
 have hD:=Qb hW;have hC0:∀ o:ScO,Ad (Fw W) Tryz.prog Kg:=fun o=>(aZ hW);refine As (D:=Kf) (C:=fun o=>Kg) (wr:=(fun _=>false)) rfl Ao hD hC0 Tryz.func41 (bA) (fun _=>rfl) ?_;rintro⟨x,A,er,t,W⟩ hf hp;clear hf;obtain⟨hsc,hW0,hlen,htl0⟩:=hp;change dM t x A er at hsc;change Aa 10 (Ko t)=W at hW0;change ∀ i,(W.getD i []).length≤1000000 at hlen;change t.length≤100000000 at htl0;have hWs:Vs t W 0:=by rw[←hW0];exact Aos t
 have hWl:W.length≤100000001:=by rw[←hW0];have:=Gw 10 (Ko t);have:=dJ t;omega
 have hcut:sL (Aa 10 (Ko t))=W:=by rw[Ck];exact hW0
 have htl:(sS (Ko t)).length≤100000000:=by rw[Cn];exact Nat.le_trans (dJ _) htl0
 (conv=>whnf)
 (repeat' (first|refine⟨tU,?_⟩|fail)<;>conv=>whnf)
 refine⟨((Ko t,10,W):List UInt8 × UInt8 × List (List UInt8)),⟨by rw[Cn] at htl;exact htl,hcut⟩,?_,?_⟩
 ·exact tL
 (conv=>whnf)
 (repeat' (first|with_reducible refine lnI fun hln=>?_)<;>conv=>whnf)
 refine⟨?_,fun(y:Nat × List Site × List Act × Int) hy=>?_⟩
 ·(conv=>whnf)
  refine⟨((0,[],[],0):Nat × List Site × List Act × Int),[],?_,⟨⟨rfl,(nB rfl),rfl⟩,?_,?_⟩⟩
  ·exact⟨Nat.zero_le _,Nat.zero_le _,fun j hj=>absurd hj (Nat.not_lt_zero _),Aot⟩
  ·exact tL
  ·exact tL
 ·obtain⟨i,S,B,K⟩:=y;obtain⟨q1,q2,q3,q4⟩:=hy;change i≤W.length at q1;change S.length+B.length≤i at q2;change ∀ j,j<B.length→Ag (B.getD j default)=true∧fitA (B.getD j default) at q3;change Nk t i S B K at q4;by_cases hi:i<W.length
  ·have hwl:=hlen i;have hwi:W.getD (Int.toNat (i:Int)) []=W.getD i []:=(by rw[Int.toNat_natCast]);generalize hw:W.getD i []=w at hwl hwi
   have hcl:=Di 32 w;generalize hC:Aa 32 w=C at hcl
   have hCW:Aa 32 (W.getD i [])=C:=(by rw[hw];exact hC);have hCl:((0:Nat):Int)<(C.length:Int):=(by omega);by_cases ha:i=0∧C.length=2
   ·obtain⟨rfl,hc2⟩:=ha;obtain rfl:S=[]:=List.length_eq_zero_iff.1 (by omega)
    obtain rfl:B=[]:=List.length_eq_zero_iff.1 (by omega)
    have hst:=A6s (K:=(Aj (C.getD 1 [])).1) hWs (.inl (by rw[hCW]))
    (conv=>whnf)
    (repeat' (first|refine⟨tU,?_⟩|split<;>rename_i hh<;>try simp only[wS] at hh)<;>conv=>whnf)
    all_goals try (exfalso;omega)
    refine⟨((w,32,C):List UInt8 × UInt8 × List (List UInt8)),⟨Nat.le_trans hwl (by decide),(Ck _).trans hC⟩,?_,?_⟩
    ·(conv=>whnf)
     (repeat' (first|with_reducible exact⟨⟩|refine⟨tA,?_⟩|with_reducible refine iA ?_ ?_)<;>conv=>whnf)
     all_goals try simp only[wQ]
     all_goals (try first|omega)
     all_goals exact hwi
    (conv=>whnf)
    (repeat' (first|refine⟨tU,?_⟩|split<;>rename_i hh<;>try simp only[wS] at hh|with_reducible refine lnI fun hln=>?_)<;>conv=>whnf)
    all_goals try (exfalso;omega)
    (conv=>whnf)
    refine⟨((1,[],[],(Aj (C.getD 1 [])).1):Nat × List Site × List Act × Int),[],?_,⟨⟨rfl,(nB rfl),rfl⟩,?_,?_⟩⟩
    ·exact⟨⟨show 1≤W.length by omega,Nat.zero_le _,fun j hj=>absurd hj (Nat.not_lt_zero _),hst⟩,show W.length - 1<W.length - 0 by omega⟩
    ·exact tL
    ·exact tL
   ·have h0:1≤i∨¬(Aa 32 (W.getD i [])).length=2:=(by rw[hCW];omega);by_cases hs:C.getD 0 []=[115,105,116,101]∧B=[]
    ·obtain⟨hsw,rfl⟩:=hs;have hsw2:(Aa 32 (W.getD i [])).getD 0 []=[115,105,116,101]:=(by rw[hCW];exact hsw);rcases hr:O8 (C.drop 1) with ⟨y,b⟩;rcases b with _|_
     ·obtain⟨rfl,rfl,rfl⟩:=Lr hsc (A6u hWs (by omega) h0 hsw2 (by rw[hCW,hr]))
      rcases hS:S with _|⟨c,S1⟩;all_goals (
       (conv=>whnf)
       (repeat' (first|refine⟨tU,?_⟩|split<;>rename_i hh<;>try simp only[wS] at hh)<;>conv=>whnf)
       all_goals try (exfalso;omega)
       refine⟨((w,32,C):List UInt8 × UInt8 × List (List UInt8)),⟨Nat.le_trans hwl (by decide),(Ck _).trans hC⟩,?_,?_⟩
       ·(conv=>whnf)
        (repeat' (first|with_reducible exact⟨⟩|refine⟨tA,?_⟩|with_reducible refine iA ?_ ?_)<;>conv=>whnf)
        all_goals try simp only[wQ]
        all_goals (try first|omega)
        all_goals exact hwi
       (conv=>whnf)
       (repeat' (first|(exact absurd hsw hh)|refine⟨tU,?_⟩|split<;>rename_i hh<;>try simp only[wS] at hh|with_reducible refine lnI fun hln=>?_)<;>conv=>whnf)
       all_goals try (exfalso;omega)
       all_goals (
        refine⟨((C.drop 1,y,false):List (List UInt8) × Site × Bool),hr,?_,?_⟩
        ·(conv=>whnf)
         (repeat' (first|with_reducible exact⟨⟩|refine⟨tA,?_⟩|with_reducible refine iA ?_ ?_)<;>conv=>whnf)
         all_goals try simp only[wQ]
         all_goals exact⟨by rw[List.length_drop];rfl,fun h=>absurd h Bool.false_ne_true,fun e he=>by rw[Aba];rfl⟩
        (conv=>whnf)
        (repeat' (first|with_reducible exact⟨⟩|refine⟨tU,?_⟩|with_reducible refine iA ?_ ?_)<;>conv=>whnf)
        all_goals try(show _=_;simp only[wQ])
        all_goals first|rfl|skip))
     ·have hst:=A6t hWs (by omega) h0 hsw2 q4
      rw[hCW,hr] at hst;rcases hS:S with _|⟨c,S1⟩;all_goals (
       (conv=>whnf)
       (repeat' (first|refine⟨tU,?_⟩|split<;>rename_i hh<;>try simp only[wS] at hh)<;>conv=>whnf)
       all_goals try (exfalso;omega)
       refine⟨((w,32,C):List UInt8 × UInt8 × List (List UInt8)),⟨Nat.le_trans hwl (by decide),(Ck _).trans hC⟩,?_,?_⟩
       ·(conv=>whnf)
        (repeat' (first|with_reducible exact⟨⟩|refine⟨tA,?_⟩|with_reducible refine iA ?_ ?_)<;>conv=>whnf)
        all_goals try simp only[wQ]
        all_goals (try first|omega)
        all_goals exact hwi
       (conv=>whnf)
       (repeat' (first|(exact absurd hsw hh)|refine⟨tU,?_⟩|split<;>rename_i hh<;>try simp only[wS] at hh|with_reducible refine lnI fun hln=>?_)<;>conv=>whnf)
       all_goals try (exfalso;omega)
       all_goals (
        refine⟨((C.drop 1,y,true):List (List UInt8) × Site × Bool),hr,?_,?_⟩
        ·(conv=>whnf)
         (repeat' (first|with_reducible exact⟨⟩|refine⟨tA,?_⟩|with_reducible refine iA ?_ ?_)<;>conv=>whnf)
         all_goals try simp only[wQ]
         all_goals exact⟨by rw[List.length_drop];rfl,fun h=>absurd h Bool.false_ne_true,fun e he=>by rw[Aba];rfl⟩
        (conv=>whnf)
        (repeat' (first|refine⟨tU,?_⟩|fail)<;>conv=>whnf)
        try (
         refine⟨⟨Nat.le_refl _,by simp only[Dc,Xk];rw[hS,List.length_cons] at q2;omega,fun e he=>by obtain rfl:e=0:=(by omega);rfl⟩,?_⟩
         (conv=>whnf)
         (repeat' ((first
          |refine⟨tU,?_⟩
          |fail)<;>(conv=>whnf))))
        (conv=>whnf)
        refine⟨((i+1,S++[y],[],K):Nat × List Site × List Act × Int),[6],?_,?_⟩
        ·exact⟨⟨show i+1≤W.length by omega,by rw[List.length_append];exact Nat.succ_le_succ q2,q3,hst⟩,show W.length - (i+1)<W.length - i by omega⟩
        ·subst hS;refine⟨⟨rfl,(nB rfl),rfl⟩,?_,?_⟩
         ·exact tL
         ·(conv=>whnf)
          (repeat' (first|with_reducible exact⟨⟩|((with_reducible refine Or.inr ?_);rfl)|refine⟨tA,?_⟩|with_reducible refine iA ?_ ?_|with_reducible refine iL ?_ ?_|with_reducible refine iB ?_ ?_)<;>conv=>whnf)
          all_goals try simp only[wQ]
          all_goals first|(intro e he;have he:e<1:=he;obtain rfl:e=0:=(by omega);exact⟨rfl,rfl⟩)|exact⟨by simp,.inl True.intro⟩|exact⟨by simp,fun e he=>⟨Ey (enc:=Site.enc) (l:=_::_) rfl (fun _ _=>rfl) rfl (by simpa using he),rfl⟩⟩))
    ·have hbt:=A6y hWs q4 h0 (by rw[hCW];by_cases h:C.getD 0 []=[115,105,116,101];exact .inr (Nat.pos_of_ne_zero fun h2=>hs ⟨h,List.length_eq_zero_iff.1 h2⟩);exact .inl h)
     rcases As8 w with hz|⟨a,hma,hz⟩
     ·obtain⟨rfl,rfl,rfl⟩:=Lr hsc (Az4 (x:=(C9,4)) hWs (by omega) hbt (by rw[hw];exact hz) (by decide))
      rcases hS:S with _|⟨c,S1⟩<;>rcases hB:B with _|⟨b,B1⟩
      all_goals (
       (conv=>whnf)
       (repeat' (first|refine⟨tU,?_⟩|split<;>rename_i hh<;>try simp only[wS] at hh)<;>conv=>whnf)
       all_goals try (exfalso;omega)
       refine⟨((w,32,C):List UInt8 × UInt8 × List (List UInt8)),⟨Nat.le_trans hwl (by decide),(Ck _).trans hC⟩,?_,?_⟩
       ·(conv=>whnf)
        (repeat' (first|with_reducible exact⟨⟩|refine⟨tA,?_⟩|with_reducible refine iA ?_ ?_)<;>conv=>whnf)
        all_goals try simp only[wQ]
        all_goals (try first|omega)
        all_goals exact hwi
       (conv=>whnf)
       (repeat' (first|refine⟨tU,?_⟩|split<;>rename_i hh<;>try simp only[wS] at hh|with_reducible refine lnI fun hln=>?_)<;>conv=>whnf)
       all_goals try (exfalso;first|omega|exact hs ⟨by assumption,hB⟩)
       all_goals (
        refine⟨((w,(C9,4)):List UInt8 × Act × Int),⟨hz,hwl⟩,?_,?_⟩
        ·(conv=>whnf)
         (repeat' (first|with_reducible exact⟨⟩|with_reducible refine iA ?_ ?_)<;>conv=>whnf)
         all_goals try simp only[wQ]
         all_goals (try first|omega)
         all_goals exact hwi
        (conv=>whnf)
        (repeat' (first|with_reducible exact⟨⟩|refine⟨tU,?_⟩|with_reducible refine iA ?_ ?_)<;>conv=>whnf)
        all_goals try(show _=_;simp only[wQ])
        all_goals first|rfl|skip))
     ·have hst:=Az3 hWs (by omega) q4 hbt (by rw[hw];exact hz)
      rcases hS:S with _|⟨c,S1⟩<;>rcases hB:B with _|⟨b,B1⟩
      all_goals (
       (conv=>whnf)
       (repeat' (first|refine⟨tU,?_⟩|split<;>rename_i hh<;>try simp only[wS] at hh)<;>conv=>whnf)
       all_goals try (exfalso;omega)
       refine⟨((w,32,C):List UInt8 × UInt8 × List (List UInt8)),⟨Nat.le_trans hwl (by decide),(Ck _).trans hC⟩,?_,?_⟩
       ·(conv=>whnf)
        (repeat' (first|with_reducible exact⟨⟩|refine⟨tA,?_⟩|with_reducible refine iA ?_ ?_)<;>conv=>whnf)
        all_goals try simp only[wQ]
        all_goals (try first|omega)
        all_goals exact hwi
       (conv=>whnf)
       (repeat' (first|refine⟨tU,?_⟩|split<;>rename_i hh<;>try simp only[wS] at hh|with_reducible refine lnI fun hln=>?_)<;>conv=>whnf)
       all_goals try (exfalso;first|omega|exact hs ⟨by assumption,hB⟩)
       all_goals (
        refine⟨((w,(a,0)):List UInt8 × Act × Int),⟨hz,hwl⟩,?_,?_⟩
        ·(conv=>whnf)
         (repeat' (first|with_reducible exact⟨⟩|with_reducible refine iA ?_ ?_)<;>conv=>whnf)
         all_goals try simp only[wQ]
         all_goals (try first|omega)
         all_goals exact hwi
        (conv=>whnf)
        (repeat' (first|refine⟨tU,?_⟩|fail)<;>conv=>whnf)
        try (
         refine⟨⟨Nat.le_refl _,by simp only[Dc,Aec];rw[hB,List.length_cons] at q2;omega,fun e he=>by obtain rfl:e=0:=(by omega);rfl⟩,?_⟩
         (conv=>whnf)
         (repeat' ((first
          |refine⟨tU,?_⟩
          |fail)<;>(conv=>whnf))))
        (conv=>whnf)
        refine⟨((i+1,S,B++[a],K):Nat × List Site × List Act × Int),[2,6],?_,?_⟩
        ·exact⟨⟨show i+1≤W.length by omega,by rw[List.length_append];exact Nat.succ_le_succ q2,Aih (P:=fun a=>Ag a=true∧fitA a) q3 hma,hst⟩,show W.length - (i+1)<W.length - i by omega⟩
        ·subst hS;subst hB;refine⟨⟨rfl,(nB rfl),rfl⟩,?_,?_⟩
         ·exact tL
         ·(conv=>whnf)
          (repeat' (first|with_reducible exact⟨⟩|((with_reducible refine Or.inr ?_);rfl)|refine⟨tA,?_⟩|with_reducible refine iA ?_ ?_|with_reducible refine iL ?_ ?_|with_reducible refine iB ?_ ?_)<;>conv=>whnf)
          all_goals try simp only[wQ]
          all_goals first|exact fun e he=>⟨True.intro,rfl⟩|(intro e he;have he:e<1:=he;obtain rfl:e=0:=(by omega);exact⟨rfl,rfl⟩)|exact⟨by simp,.inl True.intro⟩|exact⟨by simp,fun e he=>⟨Ey (enc:=Act.enc) (l:=_::_) rfl (fun _ _=>rfl) rfl (by simpa using he),rfl⟩⟩))
  ·have hie:i=W.length:=(by omega);have hend:=As7 hWs (by omega) q4
   have hshB:∀ j,j<B.length→Eh (B.getD j default).request:=fun j hj=>Aop (q3 j hj).1;rcases hout:R3 ⟨S,K⟩ B with ⟨u,v⟩;by_cases hok:Tx ⟨S,K⟩=true∧B.length≤10000∧scW ⟨S,K⟩ B=t
   ·obtain⟨k1,k2,ht⟩:=hok;have hme:Fx t ⟨S,K⟩ B:=(by unfold Fx;exact⟨k1,k2,q3,ht.symm⟩);obtain⟨rfl,rfl,e2⟩:=Aif hsc hme hend;obtain rfl:=e2.symm;cases hout.symm.trans (Aib k2 k1 fun j hj=>(q3 j hj).1);rcases hS:S with _|⟨c,S1⟩<;>rcases hB:B with _|⟨b,B1⟩
    all_goals (
     (conv=>whnf)
     (repeat' (first|refine⟨tU,?_⟩|split<;>rename_i hh<;>try simp only[wS] at hh)<;>conv=>whnf)
     all_goals try (exfalso;omega)
     try (
      refine⟨⟨by omega,fun e he=>rfl⟩,?_⟩
      (conv=>whnf))
     try (
      refine⟨⟨by omega,fun e he=>rfl⟩,?_⟩
      (conv=>whnf))
     refine⟨((⟨S,K⟩,B,scW ⟨S,K⟩ B,0):Setup × List Act × List UInt8 × Int),⟨hshB,hout⟩,?_,?_⟩
     ·(conv=>whnf)
      (repeat' (first|with_reducible exact⟨⟩|refine⟨tA,?_⟩|with_reducible refine iA ?_ ?_)<;>conv=>whnf)
      all_goals try simp only[wQ]
      all_goals (subst hS;subst hB;first|rfl|exact⟨rfl,fun h=>h,fun e he=>by simp only[Nat.zero_add]⟩)
     (conv=>whnf)
     (repeat' (first|with_reducible exact⟨⟩|(exact absurd ht hh)|refine⟨tU,?_⟩|split<;>rename_i hh<;>try simp only[wS] at hh|with_reducible refine iA ?_ ?_)<;>conv=>whnf)
     all_goals try(show _=_;simp only[wQ])
     try (
      refine⟨⟨by omega,fun e he=>rfl⟩,?_⟩
      (conv=>whnf)
      (repeat' (first|with_reducible exact⟨⟩|refine⟨tU,?_⟩|with_reducible refine iA ?_ ?_)<;>conv=>whnf)
      all_goals try(show _=_;simp only[wQ]))
     try (
      refine⟨⟨by omega,fun e he=>rfl⟩,?_⟩
      (conv=>whnf)
      (repeat' ((first
       |with_reducible exact⟨⟩
       |refine⟨tU,?_⟩
       |with_reducible refine iA ?_ ?_
       |fail)<;>(conv=>whnf))))
     all_goals (subst hS;subst hB;first|rfl|exact⟨rfl,fun h=>h,fun e he=>by simp only[Nat.zero_add]⟩))
   ·have hv:v=0→u=t→False:=fun h1 h2=>by subst h1;obtain⟨m1,m2,m3⟩:=Aj6 hout;exact hok ⟨m1,m2,m3.symm.trans h2⟩
    obtain⟨rfl,rfl,rfl⟩:=Lr hsc fun s C h=>by obtain⟨rfl,rfl⟩:=hend s C h;unfold Fx at h;exact hok ⟨h.1,h.2.1,h.2.2.2.symm⟩
    rcases hS:S with _|⟨c,S1⟩<;>rcases hB:B with _|⟨b,B1⟩
    all_goals (
     (conv=>whnf)
     (repeat' (first|refine⟨tU,?_⟩|split<;>rename_i hh<;>try simp only[wS] at hh)<;>conv=>whnf)
     all_goals try (exfalso;omega)
     try (
      refine⟨⟨by omega,fun e he=>rfl⟩,?_⟩
      (conv=>whnf))
     try (
      refine⟨⟨by omega,fun e he=>rfl⟩,?_⟩
      (conv=>whnf))
     refine⟨((⟨S,K⟩,B,u,v):Setup × List Act × List UInt8 × Int),⟨hshB,hout⟩,?_,?_⟩
     ·(conv=>whnf)
      (repeat' (first|with_reducible exact⟨⟩|refine⟨tA,?_⟩|with_reducible refine iA ?_ ?_)<;>conv=>whnf)
      all_goals try simp only[wQ]
      all_goals (subst hS;subst hB;first|rfl|exact⟨rfl,fun h=>h,fun e he=>by simp only[Nat.zero_add]⟩)
     (conv=>whnf)
     (repeat' (first|with_reducible exact⟨⟩|refine⟨tU,?_⟩|split<;>rename_i hh<;>try simp only[wS] at hh|with_reducible refine iA ?_ ?_)<;>conv=>whnf)
     all_goals try(show _=_;simp only[wQ])
     all_goals first|rfl|exact(hv (by assumption) (by assumption)).elim|skip)
end
end Go.Vc.Z
