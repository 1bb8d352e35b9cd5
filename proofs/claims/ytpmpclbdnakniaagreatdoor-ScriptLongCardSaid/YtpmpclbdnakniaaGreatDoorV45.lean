/- script.ScriptOf: a script that was written, read again. -/
import Derived.Test.YtpmpclbdnakniaaGreatDoorV44
import Derived.Test.YtpmpclbdnakniaaGreatDoorV37
set_option linter.all false
set_option linter.unusedVariables false
set_option linter.unusedSimpArgs false
namespace Go.Vc.Z
open Go Go.Vc Go.Proofs Go.RowKit Go.Pl Go.Lib
theorem Aj2{l:List Site}{k:Int}{A:List Act}:
  (scL ⟨l,k⟩ A).getD 0 []=Lib.join (Ep k) [32]∧(∀ i,i<l.length→(scL ⟨l,k⟩ A).getD (i+1) []=Lib.join (A8 (l.getD i default)) [32])∧(∀ i,i<A.length→(scL ⟨l,k⟩ A).getD (l.length+1+i) []=Au (A.getD i default)):=by
 unfold scL C1
 refine⟨rfl,fun i hi=>?_,fun i hi=>?_⟩
 ·simp[List.getD_eq_getElem?_getD,List.getElem?_append_left,hi]
 ·simp only[List.getD_eq_getElem?_getD]
  rw[List.getElem?_append_right (by simp)]
  simp[hi]
theorem Abm{l:List Site}{k:Int}{A:List Act}:(scL ⟨l,k⟩ A).length=l.length+1+A.length:=by
 unfold scL C1;simp;omega
theorem Ahh{a:Act}(h:Am a=true): ¬(Aa 32 (Au a)).getD 0 []=[115,105,116,101]:=by
 rw[Ang h]
 rcases En h with k|k|k|k|k<;>rw[k]<;>decide
theorem cK{α:Type}[Inhabited α]{l:List α}{i:Nat}(h:i<l.length):l.take (i+1)=l.take i++[l.getD i default]:=by
 rw[List.take_add_one,List.getElem?_eq_getElem h,List.getD_eq_getElem?_getD,List.getElem?_eq_getElem h];rfl
theorem nV{l:List (List UInt8)}{n e:Nat}:(l.drop n).getD e []=l.getD (n+e) []:=by simp[List.getD_eq_getElem?_getD]
noncomputable section
set_option maxRecDepth 100000
attribute [local irreducible] inK Utf8.decode Utf8.encode Lib.itoa Pl.worth Pl.allDig
attribute [local irreducible] Lib.join Br Aa scL
def At3:List Site→Blk
 |[]=>.dead
 |c::l=>.row 6 (l.length+1) (fun e=>Site.enc ((c::l).getD e default))
def At4:List Site→AV
 |[]=>.nilsl
 |_::l=>.osl 2 6 0 (l.length+1) none
def At5:List Act→Blk
 |[]=>.dead
 |c::l=>.row 17 (l.length+1) (fun e=>Act.enc ((c::l).getD e default))
def At6:List Act→AV
 |[]=>.nilsl
 |_::l=>.osl 3 17 0 (l.length+1) none
def LSo(s:Setup)(A:List Act)(t:List UInt8)(W:List (List UInt8)):LoopSpec:={
 α:=Nat × List Site × List Act × Int
 keep:=[0,2,5,6,20,21,22]
 vals y:=match y with|(i,_,B,_)=>[.str t,.ptr 0 0,.ptr 1 0,At6 B,Ajc W,.int .i64 W.length,.int .i64 i]
 heap y:=match y with|(_,S,B,K)=>[.var [.nilsl,.int .i64 0] (some 78),.var [At4 S,.int .i64 K] (some 78),At3 S,At5 B]
 ok y:=match y with|(i,S,B,K)=>i≤s.sites.length+1+A.length∧S=s.sites.take (i - 1)∧B=A.take (i - 1 - s.sites.length)∧K=(if i=0 then 0 else s.k)
 μ y:=match y with|(i,_)=>s.sites.length+1+A.length - i }
structure ScO where
 x:Setup
 A:List Act
 t:List UInt8
 W:List (List UInt8)
def Ahi:PC:=PC.of (fun o:ScO=>[.str o.t]) (fun o=>(Et o.x=true∧o.A.length≤10000∧∀ i,i<o.A.length→Am (o.A.getD i default)=true)∧(∀ i,i<o.A.length→fitA (o.A.getD i default)∧(Au (o.A.getD i default)).length≤1000000)∧o.t.length≤100000000∧o.t=scW o.x o.A∧o.W=scL o.x o.A) (fun o=>.tup [.agg o.x.enc,slE 17 Act.enc o.A,.int .i64 0])
def Ht:PT:=D1 [(30,Abi),(39,Anh),(78,bA),(93,Pw),(104,Abl),(105,wU)]
theorem Ls{W:World}(hW:Gq W):Dj (Fw W) Tryz.prog Ht:=(Ae Tryz.call30 (cI hW) (Ae Tryz.call39 (At2 hW.1) (Ae Tryz.call78 (bB hW.1) (Ae Tryz.call93 (F0 hW.1) (Ae Tryz.call104 (Pm hW.1) (Ae Tryz.call105 (dJ hW.1) A6))))))
def Hu:FuncId→Option Ctr:=Av Ht []
theorem S7{W:World}(hW:Gq W):Ad (Fw W) Tryz.prog Hu:=(A7 (Ls hW))
def S8:ScO→Nat→Option LR:=fun o i=>cond (Nat.beq i 5) (some (.inv (LSo o.x o.A o.t o.W))) (none)
set_option maxHeartbeats 4000000 in
theorem S9{W:World}(hW:Gq W):GoodP (Fw W) Tryz.prog 41 Ahi:=by
 have hD:=Ls hW
 have hC0:∀ o:ScO,Ad (Fw W) Tryz.prog Hu:=fun o=>(S7 hW)
 refine Ax (D:=Ht) (C:=fun o=>Hu) (wr:=(fun _=>false)) rfl Aq hD hC0 Tryz.func41 (S8) (fun _=>rfl) ?_
 rintro⟨⟨l,k⟩,A,t,W⟩ hf hp
 clear hf
 obtain⟨hp0,hfit,hlen,ht,hW0⟩:=hp
 change t.length≤100000000 at hlen
 change t=scW ⟨l,k⟩ A at ht
 change W=scL ⟨l,k⟩ A at hW0
 have hpp:=hp0
 obtain⟨hsb,hA,hm⟩:=hpp
 change A.length≤10000 at hA
 change ∀ i,i<A.length→Am (A.getD i default)=true at hm
 change ∀ i,i<A.length→fitA (A.getD i default)∧(Au (A.getD i default)).length≤1000000 at hfit
 obtain⟨⟨hl1,hl2⟩,⟨hk1,hk2⟩,hs,hn⟩:=K0 hsb
 have hsl:=Abm (l:=l) (k:=k) (A:=A)
 obtain⟨g0,g1,g2⟩:=Aj2 (l:=l) (k:=k) (A:=A)
 rw[←hW0] at hsl g0 g1 g2
 have hcut:sL (Aa 10 (N4 t))=W:=by rw[Ds,ht,hW0];exact Aj0 _ _
 have htl:(sS (N4 t)).length≤100000000:=by rw[Ap];exact Nat.le_trans (Adj _) hlen
 (conv=>whnf)
 (repeat' ((first
  |((with_reducible refine aI ?_ ?_);focus (with_reducible rfl))
  |fail)<;>(conv=>whnf)))
 refine⟨((N4 t,10,W):List UInt8 × UInt8 × List (List UInt8)),⟨by rw[Ap] at htl;exact htl,hcut⟩,?_,?_⟩
 ·exact tL
 (conv=>whnf)
 (repeat' ((first
  |with_reducible refine lnI fun hln=>?_
  |fail)<;>(conv=>whnf)))
 refine⟨?_,fun(y:Nat × List Site × List Act × Int) hy=>?_⟩
 ·(conv=>whnf)
  refine⟨((0,[],[],0):Nat × List Site × List Act × Int),[],?_,⟨⟨rfl,(nB rfl),rfl⟩,?_,?_⟩⟩
  ·exact⟨Nat.zero_le _,by simp,by simp,rfl⟩
  ·exact tL
  ·exact tL
 ·obtain⟨i,S,B,K⟩:=y
  obtain⟨q1,q2,q3,q4⟩:=hy
  change i≤l.length+1+A.length at q1
  change S=l.take (i - 1) at q2
  change B=A.take (i - 1 - l.length) at q3
  change K=(if i=0 then 0 else k) at q4
  by_cases hi:i<l.length+1+A.length
  ·by_cases h0:i=0
   ·subst h0
    obtain rfl:S=[]:=by rw[q2];rfl
    obtain rfl:B=[]:=by rw[q3];simp
    obtain rfl:K=0:=q4
    (conv=>whnf)
    (repeat' ((first
     |((with_reducible refine aI ?_ ?_);focus (((with_reducible refine⟨?_,?_⟩)<;>first|with_reducible assumption|omega)))
     |(split<;>rename_i hh<;>(try simp only[wS] at hh))
     |fail)<;>(conv=>whnf)))
    all_goals try (exfalso;omega)
    have hnl:(Lib.join (Ep k) [32]).length≤100000000:=Nat.le_trans (S6 ⟨hk1,hk2⟩) (by decide)
    refine⟨((Lib.join (Ep k) [32],32,Ep k):List UInt8 × UInt8 × List (List UInt8)),⟨hnl,(Ds _).trans (Aj1 k)⟩,?_,?_⟩
    ·(conv=>whnf)
     (repeat' ((first|with_reducible exact⟨⟩|((with_reducible refine aI ?_ ?_);focus (exact tA))|with_reducible refine iA ?_ ?_|fail)<;>(conv=>whnf)))
     all_goals (try simp only[wQ])
     exact g0
    (conv=>whnf)
    (repeat' ((first
     |with_reducible refine lnI fun hln=>?_
     |fail)<;>(conv=>whnf)))
    refine⟨⟨by decide,(show(1:Int)<2 by decide)⟩,?_⟩
    (conv=>whnf)
    (repeat' ((first
     |((with_reducible refine aI ?_ ?_);focus (first|with_reducible exact⟨⟩|exact tK))
     |fail)<;>(conv=>whnf)))
    (conv=>whnf)
    refine⟨((1,[],[],k):Nat × List Site × List Act × Int),[],?_,⟨⟨rfl,(nB rfl),rfl⟩,?_,?_⟩⟩
    ·refine⟨⟨show 1≤l.length+1+A.length by omega,by simp,by simp,rfl⟩,show l.length+1+A.length - 1<l.length+1+A.length - 0 by omega⟩
    ·exact tL
    ·(conv=>whnf)
     (repeat' ((first|with_reducible exact⟨⟩|((with_reducible refine aI ?_ ?_);focus (exact tA))|with_reducible refine iA ?_ ?_|with_reducible refine iL ?_ ?_|with_reducible refine iB ?_ ?_|fail)<;>(conv=>whnf)))
     all_goals (try simp only[wQ])
     all_goals exact congrArg Prod.fst (Bz (n:=k) (by omega) (by omega))
   ·obtain rfl:K=k:=by rw[q4,if_neg h0]
    by_cases h1:i≤l.length
    ·obtain rfl:B=[]:=by rw[q3,show i - 1 - l.length=0 by omega];rfl
     have hgi:W.getD (Int.toNat (i:Int)) []=Lib.join (A8 (l.getD (i - 1) default)) [32]:=by
      have:=g1 (i - 1) (by omega)
      rwa[show i - 1+1=i by omega] at this
     have hsi:=hs (l.getD (i - 1) default) (by rw[List.getD_eq_getElem?_getD,List.getElem?_eq_getElem (by omega)];exact List.getElem_mem _)
     have hjl:=Cu hsi
     have hsn:S++[l.getD (i - 1) default]=l.take (i+1 - 1):=by rw[q2,←cK (by omega),show i - 1+1=i+1 - 1 by omega]
     have hsl2:S.length=i - 1:=by rw[q2,List.length_take];omega
     rcases S with _|⟨c,S⟩
     ·(conv=>whnf)
      (repeat' ((first
       |((with_reducible refine aI ?_ ?_);focus (((with_reducible refine⟨?_,?_⟩)<;>first|with_reducible assumption|omega)))
       |(split<;>rename_i hh<;>(try simp only[wS] at hh))
       |fail)<;>(conv=>whnf)))
      all_goals try (exfalso;omega)
      refine⟨((Lib.join (A8 (l.getD (i - 1) default)) [32],32,A8 (l.getD (i - 1) default)):List UInt8 × UInt8 × List (List UInt8)),⟨Nat.le_trans hjl (by decide),(Ds _).trans (wT _)⟩,?_,?_⟩
      ·exact tL
      (conv=>whnf)
      (repeat' ((first
       |((with_reducible refine aI ?_ ?_);focus (omega))
       |(split<;>rename_i hh<;>(try simp only[wS] at hh))
       |with_reducible refine lnI fun hln=>?_
       |fail)<;>(conv=>whnf)))
      all_goals try (exfalso;omega)
      refine⟨⟨by decide,(show(0:Int)<7 by decide)⟩,?_⟩
      (conv=>whnf)
      (repeat' ((first
       |((with_reducible refine aI ?_ ?_);focus (omega))
       |fail)<;>(conv=>whnf)))
      refine⟨⟨(show 1≤7 by decide),Nat.le_refl _⟩,?_⟩
      (conv=>whnf)
      refine⟨((l.getD (i - 1) default,(A8 (l.getD (i - 1) default)).drop 1):Site × List (List UInt8)),⟨hsi,rfl⟩,?_,?_⟩
      ·(conv=>whnf)
       (repeat' ((first|with_reducible exact⟨⟩|((with_reducible refine aI ?_ ?_);focus (exact tA))|with_reducible refine iA ?_ ?_|fail)<;>(conv=>whnf)))
       all_goals (try simp only[wQ])
       exact⟨fun h=>absurd h Bool.false_ne_true,fun e he=>by rw[nV];rfl⟩
      (conv=>whnf)
      (repeat' ((first
       |((with_reducible refine aI ?_ ?_);focus (first|omega|exact tK|(simp only[Ag,ty2,ty3,ty4,ty5,ty9,Cn,Ch,Co,Ci,Cl,Cp,Cq,Cr,Bf,Bc,Bg,Bd,Bh,Bi,Bj];first|omega|(refine⟨?_,?_⟩<;>omega))))
       |fail)<;>(conv=>whnf)))
      (conv=>whnf)
      refine⟨((i+1,[]++[l.getD (i - 1) default],[],K):Nat × List Site × List Act × Int),[6],?_,⟨⟨rfl,(nB rfl),rfl⟩,?_,?_⟩⟩
      ·exact⟨⟨show i+1≤l.length+1+A.length by omega,hsn,by rw[show i+1 - 1 - l.length=0 by omega];rfl,by rw[if_neg (by omega)]⟩,show l.length+1+A.length - (i+1)<l.length+1+A.length - i by omega⟩
      ·exact tL
      ·(conv=>whnf)
       (repeat' ((first|with_reducible exact⟨⟩|((with_reducible refine Or.inr ?_);rfl)|((with_reducible refine aI ?_ ?_);focus (exact tA))|with_reducible refine iA ?_ ?_|with_reducible refine iL ?_ ?_|with_reducible refine iB ?_ ?_|fail)<;>(conv=>whnf)))
       all_goals (try simp only[wQ])
       intro e he
       have he:e<1:=he
       obtain rfl:e=0:=by omega
       exact⟨rfl,rfl⟩
     ·(conv=>whnf)
      (repeat' ((first
       |((with_reducible refine aI ?_ ?_);focus (first|omega|((with_reducible refine⟨?_,?_⟩)<;>first|with_reducible assumption|omega)))
       |(split<;>rename_i hh<;>(try simp only[wS] at hh))
       |fail)<;>(conv=>whnf)))
      all_goals try (exfalso;omega)
      refine⟨((Lib.join (A8 (l.getD (i - 1) default)) [32],32,A8 (l.getD (i - 1) default)):List UInt8 × UInt8 × List (List UInt8)),⟨Nat.le_trans hjl (by decide),(Ds _).trans (wT _)⟩,?_,?_⟩
      ·exact tL
      (conv=>whnf)
      (repeat' ((first
       |((with_reducible refine aI ?_ ?_);focus (omega))
       |(split<;>rename_i hh<;>(try simp only[wS] at hh))
       |with_reducible refine lnI fun hln=>?_
       |fail)<;>(conv=>whnf)))
      all_goals try (exfalso;omega)
      refine⟨⟨by decide,(show(0:Int)<7 by decide)⟩,?_⟩
      (conv=>whnf)
      (repeat' ((first
       |((with_reducible refine aI ?_ ?_);focus (omega))
       |fail)<;>(conv=>whnf)))
      refine⟨⟨(show 1≤7 by decide),Nat.le_refl _⟩,?_⟩
      (conv=>whnf)
      refine⟨((l.getD (i - 1) default,(A8 (l.getD (i - 1) default)).drop 1):Site × List (List UInt8)),⟨hsi,rfl⟩,?_,?_⟩
      ·(conv=>whnf)
       (repeat' ((first|with_reducible exact⟨⟩|((with_reducible refine aI ?_ ?_);focus (exact tA))|with_reducible refine iA ?_ ?_|fail)<;>(conv=>whnf)))
       all_goals (try simp only[wQ])
       exact⟨fun h=>absurd h Bool.false_ne_true,fun e he=>by rw[nV];rfl⟩
      (conv=>whnf)
      (repeat' ((first
       |((with_reducible refine aI ?_ ?_);focus (omega))
       |fail)<;>(conv=>whnf)))
      have hS3:S.length+1≤3:=by simp only[List.length_cons] at hsl2;omega
      refine⟨⟨Nat.le_refl _,by simp only[Ag,Bd];omega,fun e he=>by obtain rfl:e=0:=(by omega);rfl⟩,?_⟩
      (conv=>whnf)
      (repeat' ((first
       |((with_reducible refine aI ?_ ?_);focus (exact tK))
       |fail)<;>(conv=>whnf)))
      (conv=>whnf)
      refine⟨((i+1,(c::S)++[l.getD (i - 1) default],[],K):Nat × List Site × List Act × Int),[6],?_,⟨⟨rfl,(nB rfl),rfl⟩,?_,?_⟩⟩
      ·exact⟨⟨show i+1≤l.length+1+A.length by omega,hsn,by rw[show i+1 - 1 - l.length=0 by omega];rfl,by rw[if_neg (by omega)]⟩,show l.length+1+A.length - (i+1)<l.length+1+A.length - i by omega⟩
      ·exact tL
      ·(conv=>whnf)
       (repeat' ((first|with_reducible exact⟨⟩|((with_reducible refine aI ?_ ?_);focus (exact tA))|with_reducible refine iA ?_ ?_|with_reducible refine iL ?_ ?_|with_reducible refine iB ?_ ?_|fail)<;>(conv=>whnf)))
       all_goals (try simp only[wQ])
       ·exact⟨by simp,.inl True.intro⟩
       ·exact⟨by simp,fun e he=>⟨K2 (enc:=Site.enc) (l:=c::S) rfl (fun _ _=>rfl) rfl (by simpa using he),rfl⟩⟩
    ·have hS:S=l:=by rw[q2,List.take_of_length_le (by omega)]
     have hai:i - 1 - l.length<A.length:=by omega
     have hgi:W.getD (Int.toNat (i:Int)) []=Au (A.getD (i - 1 - l.length) default):=by
      have:=g2 (i - 1 - l.length) hai
      rwa[show l.length+1+(i - 1 - l.length)=i by omega] at this
     have hma:=hm _ hai
     obtain⟨hfi,hal⟩:=hfit _ hai
     have hone:=Adg hma hfi
     have hwd:=Ahh hma
     have hbn:B++[A.getD (i - 1 - l.length) default]=A.take (i+1 - 1 - l.length):=by rw[q3,←cK hai,show i - 1 - l.length+1=i+1 - 1 - l.length by omega]
     have hsn:S=l.take (i+1 - 1):=by rw[hS,List.take_of_length_le (by omega)]
     have hbl:B.length=i - 1 - l.length:=by rw[q3,List.length_take];omega
     have hb4:B.length≤10000:=by omega
     have hcl:=Gp 32 (Au (A.getD (i - 1 - l.length) default))
     generalize hC:Aa 32 (Au (A.getD (i - 1 - l.length) default))=C at hwd hcl
     have hCl:((0:Nat):Int)<(C.length:Int):=by omega
     rcases S with _|⟨c,S⟩
     ·rw[←hS] at hl1;exact absurd hl1 (by decide)
     ·rcases B with _|⟨b,B⟩
      ·(conv=>whnf)
       (repeat' ((first
        |((with_reducible refine aI ?_ ?_);focus (first|omega|((with_reducible refine⟨?_,?_⟩)<;>first|with_reducible assumption|omega)))
        |(split<;>rename_i hh<;>(try simp only[wS] at hh))
        |fail)<;>(conv=>whnf)))
       all_goals try (exfalso;omega)
       refine⟨((Au (A.getD (i - 1 - l.length) default),32,C):List UInt8 × UInt8 × List (List UInt8)),⟨Nat.le_trans hal (by decide),(Ds _).trans hC⟩,?_,?_⟩
       ·exact tL
       (conv=>whnf)
       (repeat' ((first
        |(exact absurd hh hwd)
        |((with_reducible refine aI ?_ ?_);focus (first|with_reducible exact⟨⟩|omega|((with_reducible refine⟨?_,?_⟩)<;>first|with_reducible assumption|omega)))
        |(split<;>rename_i hh<;>(try simp only[wS] at hh))
        |with_reducible refine lnI fun hln=>?_
        |fail)<;>(conv=>whnf)))
       all_goals try (exfalso;omega)
       refine⟨((Au (A.getD (i - 1 - l.length) default),(A.getD (i - 1 - l.length) default,0)):List UInt8 × Act × Int),⟨hone,hal⟩,?_,?_⟩
       ·exact tL
       (conv=>whnf)
       (repeat' ((first
        |((with_reducible refine aI ?_ ?_);focus (first|omega|exact tK|(simp only[Ag,ty2,ty3,ty4,ty5,ty9,Cn,Ch,Co,Ci,Cl,Cp,Cq,Cr,Bf,Bc,Bg,Bd,Bh,Bi,Bj];first|omega|(refine⟨?_,?_⟩<;>omega))))
        |fail)<;>(conv=>whnf)))
       (conv=>whnf)
       refine⟨((i+1,c::S,[]++[A.getD (i - 1 - l.length) default],K):Nat × List Site × List Act × Int),[2,6],?_,⟨⟨rfl,(nB rfl),rfl⟩,?_,?_⟩⟩
       ·exact⟨⟨show i+1≤l.length+1+A.length by omega,hsn,hbn,by rw[if_neg (by omega)]⟩,show l.length+1+A.length - (i+1)<l.length+1+A.length - i by omega⟩
       ·exact tL
       ·(conv=>whnf)
        (repeat' ((first|with_reducible exact⟨⟩|((with_reducible refine Or.inr ?_);rfl)|((with_reducible refine aI ?_ ?_);focus (exact tA))|with_reducible refine iA ?_ ?_|with_reducible refine iL ?_ ?_|with_reducible refine iB ?_ ?_|fail)<;>(conv=>whnf)))
        all_goals (try simp only[wQ])
        ·exact fun e he=>⟨True.intro,rfl⟩
        ·intro e he
         have he:e<1:=he
         obtain rfl:e=0:=by omega
         exact⟨rfl,rfl⟩
      ·have hB4:B.length+1≤10000:=by simpa using hb4
       (conv=>whnf)
       (repeat' ((first
        |((with_reducible refine aI ?_ ?_);focus (first|omega|((with_reducible refine⟨?_,?_⟩)<;>first|with_reducible assumption|omega)))
        |(split<;>rename_i hh<;>(try simp only[wS] at hh))
        |fail)<;>(conv=>whnf)))
       all_goals try (exfalso;omega)
       refine⟨((Au (A.getD (i - 1 - l.length) default),32,C):List UInt8 × UInt8 × List (List UInt8)),⟨Nat.le_trans hal (by decide),(Ds _).trans hC⟩,?_,?_⟩
       ·exact tL
       (conv=>whnf)
       (repeat' ((first
        |(exact absurd hh hwd)
        |((with_reducible refine aI ?_ ?_);focus (first|with_reducible exact⟨⟩|omega|((with_reducible refine⟨?_,?_⟩)<;>first|with_reducible assumption|omega)))
        |(split<;>rename_i hh<;>(try simp only[wS] at hh))
        |with_reducible refine lnI fun hln=>?_
        |fail)<;>(conv=>whnf)))
       all_goals try (exfalso;omega)
       refine⟨((Au (A.getD (i - 1 - l.length) default),(A.getD (i - 1 - l.length) default,0)):List UInt8 × Act × Int),⟨hone,hal⟩,?_,?_⟩
       ·exact tL
       (conv=>whnf)
       (repeat' ((first
        |((with_reducible refine aI ?_ ?_);focus (first|((with_reducible refine⟨?_,?_,?_⟩)<;>first|(intro e he;rcases(by omega:e=0∨e=1∨e=2∨e=3∨e=4∨e=5) with rfl|rfl|rfl|rfl|rfl|rfl<;>first|rfl|(exfalso;omega))|(with_reducible assumption)|omega|((with_reducible show Ag _ _);simp only[Ag,ty2,ty3,ty4,ty5,ty9,Cn,Ch,Co,Ci,Cl,Cp,Cq,Cr,Bf,Bc,Bg,Bd,Bh,Bi,Bj,List.length_cons,List.length_nil];first|omega|(refine⟨?_,?_⟩<;>omega)))|omega|exact tK))
        |fail)<;>(conv=>whnf)))
       (conv=>whnf)
       refine⟨((i+1,c::S,(b::B)++[A.getD (i - 1 - l.length) default],K):Nat × List Site × List Act × Int),[2,6],?_,⟨⟨rfl,(nB rfl),rfl⟩,?_,?_⟩⟩
       ·exact⟨⟨show i+1≤l.length+1+A.length by omega,hsn,hbn,by rw[if_neg (by omega)]⟩,show l.length+1+A.length - (i+1)<l.length+1+A.length - i by omega⟩
       ·exact tL
       ·(conv=>whnf)
        (repeat' ((first|with_reducible exact⟨⟩|((with_reducible refine Or.inr ?_);rfl)|((with_reducible refine aI ?_ ?_);focus (exact tA))|with_reducible refine iA ?_ ?_|with_reducible refine iL ?_ ?_|with_reducible refine iB ?_ ?_|fail)<;>(conv=>whnf)))
        all_goals (try simp only[wQ])
        ·exact fun e he=>⟨True.intro,rfl⟩
        ·exact⟨by simp,fun e he=>⟨K2 (enc:=Act.enc) (l:=b::B) rfl (fun _ _=>rfl) rfl (by simpa using he),rfl⟩⟩
  ·have hie:i=l.length+1+A.length:=by omega
   have hS:S=l:=by rw[q2,List.take_of_length_le (by omega)]
   have hB:B=A:=by rw[q3,List.take_of_length_le (by omega)]
   obtain rfl:K=k:=by rw[q4,if_neg (by omega)]
   subst hS
   subst hB
   rcases S with _|⟨c,S⟩
   ·exact absurd hl1 (by decide)
   ·rcases B with _|⟨b,B⟩
    ·(conv=>whnf)
     (repeat' ((first
      |((with_reducible refine aI ?_ ?_);focus (omega))
      |(split<;>rename_i hh<;>(try simp only[wS] at hh))
      |fail)<;>(conv=>whnf)))
     all_goals try (exfalso;omega)
     refine⟨⟨by omega,fun e he=>rfl⟩,?_⟩
     (conv=>whnf)
     refine⟨((⟨c::S,K⟩,[],scW ⟨c::S,K⟩ [],0):Setup × List Act × List UInt8 × Int),.inl ⟨⟨hsb,hA,hm⟩,rfl⟩,?_,?_⟩
     ·(conv=>whnf)
      (repeat' ((first|with_reducible exact⟨⟩|((with_reducible refine aI ?_ ?_);focus (exact tA))|with_reducible refine iA ?_ ?_|fail)<;>(conv=>whnf)))
      all_goals (try simp only[wQ])
      all_goals (try first|(refine⟨fun h=>h,fun e he=>?_⟩;rw[Nat.zero_add];done))
      all_goals skip
     (conv=>whnf)
     (repeat' ((first
      |(exact absurd ht.symm hh)
      |(split<;>rename_i hh<;>(try simp only[wS] at hh))
      |fail)<;>(conv=>whnf)))
     refine⟨⟨by omega,fun e he=>rfl⟩,?_⟩
     (conv=>whnf)
     (repeat' ((first
      |with_reducible exact⟨⟩
      |((with_reducible refine aI ?_ ?_);focus (with_reducible rfl))
      |with_reducible refine iA ?_ ?_
      |fail)<;>(conv=>whnf)))
     all_goals (try (show _=_;simp only[wQ]))
     all_goals first|rfl|exact⟨rfl,fun h=>h,fun e he=>by simp only[Nat.zero_add]⟩
    ·(conv=>whnf)
     (repeat' ((first
      |((with_reducible refine aI ?_ ?_);focus (omega))
      |(split<;>rename_i hh<;>(try simp only[wS] at hh))
      |fail)<;>(conv=>whnf)))
     all_goals try (exfalso;omega)
     refine⟨⟨by omega,fun e he=>rfl⟩,?_⟩
     (conv=>whnf)
     refine⟨⟨by omega,fun e he=>rfl⟩,?_⟩
     (conv=>whnf)
     refine⟨((⟨c::S,K⟩,b::B,scW ⟨c::S,K⟩ (b::B),0):Setup × List Act × List UInt8 × Int),.inl ⟨⟨hsb,hA,hm⟩,rfl⟩,?_,?_⟩
     ·(conv=>whnf)
      (repeat' ((first|with_reducible exact⟨⟩|((with_reducible refine aI ?_ ?_);focus (exact tA))|with_reducible refine iA ?_ ?_|fail)<;>(conv=>whnf)))
      all_goals (try simp only[wQ])
      all_goals (try first|(refine⟨fun h=>h,fun e he=>?_⟩;rw[Nat.zero_add];done))
      all_goals skip
     (conv=>whnf)
     (repeat' ((first
      |(exact absurd ht.symm hh)
      |(split<;>rename_i hh<;>(try simp only[wS] at hh))
      |fail)<;>(conv=>whnf)))
     refine⟨⟨by omega,fun e he=>rfl⟩,?_⟩
     (conv=>whnf)
     refine⟨⟨by omega,fun e he=>rfl⟩,?_⟩
     (conv=>whnf)
     (repeat' ((first
      |with_reducible exact⟨⟩
      |((with_reducible refine aI ?_ ?_);focus (with_reducible rfl))
      |with_reducible refine iA ?_ ?_
      |fail)<;>(conv=>whnf)))
     all_goals first|rfl|exact⟨rfl,fun h=>h,fun e he=>by simp only[Nat.zero_add]⟩
end
end Go.Vc.Z
