/- Words that are read: amounts, statuses, flights, taxes. -/
import Derived.Test.YtpmpclbdnakniaaGreatDoorV14
set_option linter.all false
set_option linter.unusedVariables false
set_option linter.unusedSimpArgs false
namespace Go.Vc.Z
open Go Go.Vc Go.Proofs Go.RowKit Go.Pl Go.Lib
def R0(s:List UInt8):Int:=if (worth s:Int)≤1000000000001 then(worth s:Int) else 1000000000001
@[irreducible] def C5(s:List UInt8):Int × Bool:=if allDig s=true then(R0 s,D7 s) else(0,false)
theorem pB{s:List UInt8}{i:Nat}(h:i<s.length):R0 (s.take (i+1))=if 10*R0 (s.take i)+((s.getD i 0).toNat - 48:Nat)≤1000000000001 then 10*R0 (s.take i)+((s.getD i 0).toNat - 48:Nat) else 1000000000001:=by
 unfold R0
 rw[D3 h]
 repeat' split
 all_goals omega
theorem Agi(s:List UInt8):0≤R0 s∧R0 s≤1000000000001:=by unfold R0;split<;>omega
theorem Alo:R0 []=0:=by unfold R0;simp[worth]
theorem pC:D7 []=false:=by unfold D7;simp[allDig]
theorem Afc{s:List UInt8}(h:worth s≤1000000000001):R0 s=worth s:=by unfold R0;rw[if_pos (by omega)]
theorem fG{c:List UInt8}:allDig (49::c)=allDig c:=by simp[allDig,Xi]
theorem pD{c:List UInt8}:D7 (49::c)=allDig c:=by unfold D7;rw[fG];simp
theorem Aiy{c:List UInt8}(h:c.length=2)(hd:allDig c=true):worth (49::c)=100+worth c∧worth c<100:=by
 rw[Mx,h]
 have:=K8 hd
 rw[h] at this
 exact⟨by simp,by simpa using this⟩
theorem Afd{s:List UInt8}{c:UInt8}(h:1≤s.length):(s.take 1 == [c])=Lib.hasPrefix s [c]:=by
 cases s with
 |nil=>exact absurd h (by simp)
 |cons d t=>
  show([d] == [c])=((c == d)&&true)
  rw[Bool.and_true,Bool.eq_iff_iff,beq_iff_eq,beq_iff_eq]
  exact⟨fun h=>(List.cons.inj h).1.symm,fun h=>by rw[h]⟩
theorem Aiz{s:List UInt8}{c:UInt8}(h: ¬1≤s.length):Lib.hasPrefix s [c]=false:=by
 cases s with
 |nil=>rfl
 |cons d t=>simp at h
def Ay(c:UInt8)(s:List UInt8):List UInt8:=if Lib.hasPrefix s [c]=true then s.drop 1 else s
theorem Agj(c:UInt8)(s:List UInt8):(Ay c s).length≤s.length:=by unfold Ay;split<;>simp
theorem pE(s:List UInt8):0≤(C5 s).1∧(C5 s).1≤1000000000001:=by
 unfold C5;split
 ·exact Agi s
 ·exact⟨by decide,by decide⟩
theorem fH(s:List UInt8):(C5 s).2=D7 s:=by
 unfold C5
 split
 ·rfl
 ·rename_i h
  symm;refine Bool.eq_false_iff.2 fun hd=>h ?_
  unfold D7 at hd;simp only[Bool.and_eq_true] at hd;exact hd.1
theorem fI{s:List UInt8}:(Qd s=((Ca 46 s).2.2&&(C5 (Ca 46 s).1).2&&(C5 (49::(Ca 46 s).2.1)).2&&decide ((Ca 46 s).2.1.length=2)))∧
  (Qd s=true→(I9 s=100*(C5 (Ca 46 s).1).1+(C5 (49::(Ca 46 s).2.1)).1 - 100∨(1000000000001<100*(C5 (Ca 46 s).1).1+(C5 (49::(Ca 46 s).2.1)).1 - 100∧1000000000001<I9 s))∧0≤100*(C5 (Ca 46 s).1).1+(C5 (49::(Ca 46 s).2.1)).1 - 100):=by
 have e:Qd s=((Ca 46 s).2.2&&(C5 (Ca 46 s).1).2&&(C5 (49::(Ca 46 s).2.1)).2&&decide ((Ca 46 s).2.1.length=2)):=by
  rw[fH,fH,pD];rfl
 refine⟨e,fun h=>?_⟩
 rw[e] at h
 simp only[Bool.and_eq_true,decide_eq_true_eq,fH,pD] at h
 obtain⟨⟨⟨h1,h2⟩,h3⟩,h4⟩:=h
 obtain⟨w1,w2⟩:=Aiy h4 h3
 have hd2:allDig (Ca 46 s).1=true:=(Kl h2).1
 have a1:(C5 (Ca 46 s).1).1=R0 (Ca 46 s).1:=by unfold C5;rw[if_pos hd2]
 have a2:(C5 (49::(Ca 46 s).2.1)).1=100+worth (Ca 46 s).2.1:=by
  unfold C5;rw[if_pos (by rw[fG];exact h3)]
  show R0 _=_
  rw[Afc (by omega),w1];omega
 rw[a1,a2]
 unfold I9 R0
 split<;>omega
theorem Xr{s:List UInt8}(h:Qd (Ay 45 s)=false):Ds s=(0,4):=by
 unfold Ay at h
 unfold Ds
 split
 ·rename_i hp
  rw[if_pos hp] at h
  rw[if_neg (by rw[h];simp)]
 ·rename_i hp
  rw[if_neg hp] at h
  rw[if_neg (by rw[h];simp)]
theorem Alp{s:List UInt8}(hp:Lib.hasPrefix s [45]=true)(h:Qd (Ay 45 s)=true):Ds s=if I9 (Ay 45 s)=0 then(0,4) else if 1000000000000<I9 (Ay 45 s) then(0,14) else(-I9 (Ay 45 s),0):=by
 unfold Ay at h ⊢
 rw[if_pos hp] at h ⊢
 unfold Ds
 rw[if_pos hp]
 by_cases h0:I9 (s.drop 1)=0
 ·rw[if_neg (fun hn=>hn.2 h0),if_pos h0]
 ·rw[if_pos ⟨h,h0⟩,if_neg h0]
theorem Alq{s:List UInt8}(hp:Lib.hasPrefix s [45]=false)(h:Qd (Ay 45 s)=true):Ds s=if 1000000000000<I9 (Ay 45 s) then(0,14) else(I9 (Ay 45 s),0):=by
 have hp': ¬Lib.hasPrefix s [45]=true:=by rw[hp];simp
 unfold Ay at h ⊢
 rw[if_neg hp'] at h ⊢
 unfold Ds
 rw[if_neg hp',if_pos h]
theorem Afe(c:UInt8):Lib.index stL [c]=statOf [c] - 1:=by
 rw[Lib.index_one]
 unfold statOf stL
 simp only[List.cons.injEq,and_true]
 by_cases h1:c=79
 ·subst h1;rfl
 by_cases h2:c=67
 ·subst h2;rfl
 by_cases h3:c=76
 ·subst h3;rfl
 by_cases h4:c=70
 ·subst h4;rfl
 by_cases h5:c=69
 ·subst h5;rfl
 by_cases h6:c=82
 ·subst h6;rfl
 by_cases h7:c=86
 ·subst h7;rfl
 by_cases h8:c=83
 ·subst h8;rfl
 by_cases h9:c=65
 ·subst h9;rfl
 rw[if_neg h1,if_neg h2,if_neg h3,if_neg h4,if_neg h5,if_neg h6,if_neg h7,if_neg h8,if_neg h9]
 simp[Lib.indexByte,Ne.symm h1,Ne.symm h2,Ne.symm h3,Ne.symm h4,Ne.symm h5,Ne.symm h6,Ne.symm h7,Ne.symm h8,Ne.symm h9]
theorem Aa6{s:List UInt8}(h:s.length≠1):statOf s=0:=by
 unfold statOf
 repeat' split
 all_goals first|rfl|(rename_i e;rw[e] at h;exact absurd rfl h)
theorem Aa7{s:List UInt8}(h:s.length=1):Lib.index stL s=statOf s - 1:=by
 match s,h with
 |[c],_=>exact Afe c
@[irreducible] def cS(s:List UInt8):Int:=if statOf s=0 then 2 else 0
theorem fJ(s:List UInt8):(statOf s=0∧cS s=2)∨(statOf s≠0∧cS s=0):=by
 unfold cS
 by_cases h:statOf s=0
 ·exact .inl ⟨h,if_pos h⟩
 ·exact .inr ⟨h,if_neg h⟩
noncomputable section
set_option maxRecDepth 100000
attribute [local irreducible] inK Utf8.decode Utf8.encode Lib.itoa Pl.worth Pl.allDig
attribute [local irreducible] Lib.join Ca Aa
def Aa8:PC:=PC.fun fun|[.str s]=>some (True,.tup [.int .i64 (sI (C5 s).1),.bool (sB (C5 s).2)])|_=>none
def Aol(s:List UInt8):LoopSpec:={
 α:=Nat
 keep:=[0,4,8]
 vals i:=[.str s,.int .i64 (sI (R0 (s.take i))),.iter 0]
 heap i:=[.iter s i]
 ok i:=i≤s.length∧allDig (s.take i)=true
 μ i:=s.length - i }
def E6:PT:=C8 []
theorem Jt{W:World}(hW:Tabs W):Ct (Fw W) Tryz.prog E6:=Av
def Mi:FuncId→Option Ctr:=Az E6 []
theorem Rf{W:World}(hW:Tabs W):Ad (Fw W) Tryz.prog Mi:=(Aw (Jt hW))
def yB:List AV→Nat→Option LR:=fun cs i=>match cs with|[.str s]=>cond (Nat.beq i 3) (some (.inv (Aol s))) (none)|_=>none
theorem yC{W:World}(hW:Tabs W):GoodP (Fw W) Tryz.prog 222 Aa8:=by
 have hD:=Jt hW
 have hC0:Ad (Fw W) Tryz.prog Mi:=(Rf hW)
 refine Ax (D:=E6) (C:=Mi) (wr:=(fun _=>false)) rfl Ao hD hC0 Tryz.func222 (yB) ?_
 clear hC0 hD hW
 intro cs p r h hf hp
 split at h
 case h_2=>cases h
 rename_i s
 cases h
 try simp only[A0,Bg,Ak,Go.Vc.lo,Go.Vc.hi,and_true] at hf
 have e0:s.getD (Int.toNat 0) 0=s.getD 0 0:=rfl
 have hbyte:∀ c:UInt8,eqI (c.toNat:Int) 48=(c == 48):=fun c=>dZ c 48
 have s0:=Alo
 (conv=>whnf)
 refine⟨?_,fun(i:Nat) hi=>?_⟩
 ·(conv=>whnf)
  refine⟨(0:Nat),[],?_,⟨⟨rfl,(nB rfl),rfl⟩,?_,?_⟩⟩
  ·exact⟨Nat.zero_le _,by simp[allDig]⟩
  ·(conv=>whnf)
   (repeat' ((first|with_reducible exact⟨⟩|((with_reducible refine aI ?_ ?_);focus (exact tA))|with_reducible refine iA ?_ ?_|fail)<;>(conv=>whnf)))
   all_goals (try simp only[wQ])
   rw[List.take_zero,s0]
  ·exact tL
 ·obtain⟨h1,h2⟩:=hi
  have h1:i≤s.length:=h1
  have hl:=Agi (s.take i)
  have hsi:=Cm (R0 (s.take i))
  have hbad:i<s.length→¬(48≤Bj s i∧Bj s i≤57)→C5 s=(0,false):=fun h hc=>by
   have:allDig s=false:=V5 h (by rcases Ef h with h6|h6<;>omega)
   unfold C5;rw[this];rfl
  have hfin:s.length≤i→C5 s=(R0 (s.take i),D7 s):=fun h=>by
   rw[List.take_of_length_le h] at h2 ⊢
   unfold C5;rw[if_pos h2]
  have hdec:s.length≤i→D7 s=(s == [48] || (s != []&&s.getD 0 0 != 48)):=fun h=>by
   rw[List.take_of_length_le h] at h2
   unfold D7;rw[h2,Bool.true_and]
  by_cases hs:s=[]
  ·subst hs
   obtain rfl:i=0:=Nat.le_zero.1 h1
   (conv=>whnf)
   (repeat' ((first
    |with_reducible exact⟨⟩
    |((with_reducible refine aI ?_ ?_);focus (first|exact tO|with_reducible rfl))
    |with_reducible refine iA ?_ ?_
    |fail)<;>(conv=>whnf)))
   all_goals (try (show _=_;simp only[wQ]))
   ·rw[hfin (Nat.le_refl _)]
   ·rw[hfin (Nat.le_refl _)];exact pC.symm
  ·have hpos:0<s.length:=List.length_pos_iff.2 hs
   (conv=>whnf)
   (repeat' ((first
    |with_reducible exact⟨⟩
    |((with_reducible refine aI ?_ ?_);focus (first|exact tO|with_reducible rfl|omega|exact tK))
    |(split<;>rename_i hh<;>(try simp only[wS] at hh))
    |with_reducible refine iA ?_ ?_
    |fail)<;>(conv=>whnf)))
   all_goals (try (show _=_;simp only[wQ]))
   all_goals first|(rw[hbad (by omega) (by omega)];done)|(exact absurd (by assumption) hs)|(exfalso;exact absurd (by assumption) Bool.false_ne_true)|skip
   ·obtain⟨h6,h7,h8⟩:Bj s i=((s.getD i 0).toNat:Int)∧Ai s i=1∧(s.getD i 0).toNat<128:=by
     rcases Ef (l:=s) (p:=i) (by omega) with h6|h6<;>omega
    have hst:=pB (s:=s) (i:=i) (by omega)
    (conv=>whnf)
    refine⟨(i+1:Nat),[],?_,⟨⟨rfl,(nB rfl),rfl⟩,?_,?_⟩⟩
    ·exact⟨⟨show i+1≤s.length by omega,Ep (by omega) h2 (by omega) (by omega)⟩,show s.length - (i+1)<s.length - i by omega⟩
    ·(conv=>whnf)
     (repeat' ((first|with_reducible exact⟨⟩|((with_reducible refine aI ?_ ?_);focus (exact tA))|with_reducible refine iA ?_ ?_|fail)<;>(conv=>whnf)))
     all_goals (try simp only[wQ])
     all_goals (try first|omega)
     all_goals (rw[hst];split<;>omega)
    ·(conv=>whnf)
     (repeat' ((first|with_reducible exact⟨⟩|((with_reducible refine aI ?_ ?_);focus (exact tA))|with_reducible refine iB ?_ ?_|fail)<;>(conv=>whnf)))
     all_goals (try first|omega)
     all_goals (rw[h7])
   ·obtain⟨h6,h7,h8⟩:Bj s i=((s.getD i 0).toNat:Int)∧Ai s i=1∧(s.getD i 0).toNat<128:=by
     rcases Ef (l:=s) (p:=i) (by omega) with h6|h6<;>omega
    have hst:=pB (s:=s) (i:=i) (by omega)
    (conv=>whnf)
    refine⟨(i+1:Nat),[],?_,⟨⟨rfl,(nB rfl),rfl⟩,?_,?_⟩⟩
    ·exact⟨⟨show i+1≤s.length by omega,Ep (by omega) h2 (by omega) (by omega)⟩,show s.length - (i+1)<s.length - i by omega⟩
    ·(conv=>whnf)
     (repeat' ((first|with_reducible exact⟨⟩|((with_reducible refine aI ?_ ?_);focus (exact tA))|with_reducible refine iA ?_ ?_|fail)<;>(conv=>whnf)))
     all_goals (try simp only[wQ])
     all_goals (try first|omega)
     all_goals (rw[hst];split<;>omega)
    ·(conv=>whnf)
     (repeat' ((first|with_reducible exact⟨⟩|((with_reducible refine aI ?_ ?_);focus (exact tA))|with_reducible refine iB ?_ ?_|fail)<;>(conv=>whnf)))
     all_goals (try first|omega)
     all_goals (rw[h7])
   ·rw[hfin (by omega)]
   ·rw[hfin (by omega),hdec (by omega),show s=[48] by assumption];rfl
   ·rw[hfin (by omega)]
   ·rw[hfin (by omega),hdec (by omega),hbyte,e0]
    have a1:(s == [48])=false:=by rw[beq_eq_false_iff_ne];assumption
    have a2:(s != [])=true:=by rw[bne_iff_ne];assumption
    rw[a1,a2];rfl
def Aa9:PC:=PC.fun fun|[.str s,.str [c]]=>some (True,.tup [.str (sS (Ay c s)),.bool (sB (Lib.hasPrefix s [c]))])|_=>none
def G8:List (FuncId × Ctr):=(244,inl TY Mi E6 (fun _=>false) (fun _ _ _=>none) Tryz.f244)::[]
def G9:FuncId→Option Ctr:=Az E6 G8
theorem E7{W:World}(hW:Tabs W):Ad (Fw W) Tryz.prog G9:=Ae Tryz.call244 (Ag rfl Ao (Jt hW) (Rf hW) Tryz.func244 (fun _ _ _=>none)) (Rf hW)
def Ta:List (FuncId × Ctr):=(272,inl TY G9 E6 (fun _=>false) (fun _ _ _=>none) Tryz.f272)::G8
def Ha:FuncId→Option Ctr:=Az E6 Ta
theorem Tb{W:World}(hW:Tabs W):Ad (Fw W) Tryz.prog Ha:=Ae Tryz.call272 (Ag rfl Ao (Jt hW) (E7 hW) Tryz.func272 (fun _ _ _=>none)) (E7 hW)
theorem Va{W:World}(hW:Tabs W):GoodP (Fw W) Tryz.prog 221 Aa9:=by
 have hD:=Jt hW
 have hC0:Ad (Fw W) Tryz.prog Ha:=(Tb hW)
 refine Ax (D:=E6) (C:=Ha) (wr:=(fun _=>false)) rfl Ao hD hC0 Tryz.func221 (fun _ _=>none) ?_
 clear hC0 hD hW
 intro cs p r h hf hp
 split at h
 case h_2=>cases h
 rename_i s c
 cases h
 try simp only[A0,Bg,Ak,Go.Vc.lo,Go.Vc.hi,and_true] at hf
 have h1:=Afd (s:=s) (c:=c)
 have h2:=Aiz (s:=s) (c:=c)
 have h3:Ay c s=if Lib.hasPrefix s [c]=true then s.drop 1 else s:=by unfold Ay;rfl
 have h4:([c].length:Int)=1:=rfl
 have hn:Lib.hasPrefix s [c]=false→s=Ay c s∧false=Lib.hasPrefix s [c]:=fun h=>by rw[h3,h];exact⟨rfl,rfl⟩
 have hy:1≤s.length→Lib.hasPrefix s [c]=true→List.take (s.length - Int.toNat ([c].length:Int)) (List.drop (Int.toNat ([c].length:Int)) s)=Ay c s∧true=Lib.hasPrefix s [c]:=fun h0 h=>by
  rw[h3,h]
  refine⟨?_,rfl⟩
  show List.take (s.length - 1) (List.drop 1 s)=_
  rw[List.take_of_length_le (by simp)];rfl
 have k1:1≤s.length→¬List.take (Int.toNat ([c].length:Int) - 0) (List.drop 0 s)=[c]→Lib.hasPrefix s [c]=false:=fun h0 h=>by
  rw[←h1 h0,beq_eq_false_iff_ne];exact h
 have k2:1≤s.length→List.take (Int.toNat ([c].length:Int) - 0) (List.drop 0 s)=[c]→Lib.hasPrefix s [c]=true:=fun h0 h=>by
  rw[←h1 h0,beq_iff_eq];exact h
 (conv=>whnf)
 (repeat' ((first
  |with_reducible exact⟨⟩
  |(with_reducible refine Ar ?_)
  |((with_reducible refine aI ?_ ?_);focus (omega))
  |(split<;>rename_i hh<;>(try simp only[wS] at hh))
  |with_reducible refine lnI fun hln=>?_
  |with_reducible refine iA ?_ ?_
  |fail)<;>(conv=>whnf)))
 all_goals (try (show _=_;simp only[wQ]))
 ·exact(hn (k1 (by omega) (by assumption))).1
 ·exact(hn (k1 (by omega) (by assumption))).2
 ·exact(hy (by omega) (k2 (by omega) (by assumption))).1
 ·exact(hy (by omega) (k2 (by omega) (by assumption))).2
 ·exact(hn (h2 (by omega))).1
 ·exact(hn (h2 (by omega))).2
def fK:PC:=PC.fun fun|[.str s]=>some (s.length≤100000000,.tup [.int .i64 (sI (Ds s).1),.int .i64 (sI (Ds s).2)])|_=>none
def Zo:PT:=C8 [(94,Zn),(221,Aa9),(222,Aa8)]
theorem pF{W:World}(hW:Tabs W):Ct (Fw W) Tryz.prog Zo:=(Ab Tryz.call94 (Xq hW) (Ab Tryz.call221 (Va hW) (Ab Tryz.call222 (yC hW) Av)))
def Zp:FuncId→Option Ctr:=Az Zo []
theorem Ai0{W:World}(hW:Tabs W):Ad (Fw W) Tryz.prog Zp:=(Aw (pF hW))
theorem pG{W:World}(hW:Tabs W):GoodP (Fw W) Tryz.prog 159 fK:=by
 have hD:=pF hW
 have hC0:Ad (Fw W) Tryz.prog Zp:=(Ai0 hW)
 refine Ax (D:=Zo) (C:=Zp) (wr:=(fun _=>false)) rfl Ao hD hC0 Tryz.func159 (fun _ _=>none) ?_
 clear hC0 hD hW
 intro cs p r h hf hp
 split at h
 case h_2=>cases h
 rename_i s
 cases h
 try simp only[A0,Bg,Ak,Go.Vc.lo,Go.Vc.hi,and_true] at hf
 have e1:=Bb (Ay 45 s)
 have e2:=Bb (Ca 46 (sS (Ay 45 s))).1
 have e3:=Bb (Ca 46 (sS (Ay 45 s))).2.1
 have c1:=Agj 45 s
 have c2:=Uk 46 (sS (Ay 45 s))
 have c3:(sS (Ay 45 s)).length≤100000000:=by rw[e1];omega
 have c4:(sS (Ca 46 (sS (Ay 45 s))).2.1).length≤100000000:=by rw[e3];omega
 have c5:=Uk 46 (Ay 45 s)
 have w1:=pE (sS (Ca 46 (sS (Ay 45 s))).1)
 have w2:=pE ((⟨#[49]⟩:ByteArray).data.toList++sS (Ca 46 (sS (Ay 45 s))).2.1)
 have w3:=Cm (C5 (sS (Ca 46 (sS (Ay 45 s))).1)).1
 have w4:=Cm (C5 ((⟨#[49]⟩:ByteArray).data.toList++sS (Ca 46 (sS (Ay 45 s))).2.1)).1
 have hF:Qd (Ay 45 s)=((Ca 46 (Ay 45 s)).2.2&&(C5 (Ca 46 (Ay 45 s)).1).2&&(C5 ((⟨#[49]⟩:ByteArray).data.toList++(Ca 46 (Ay 45 s)).2.1)).2&&decide ((Ca 46 (Ay 45 s)).2.1.length=2)):=fI.1
 have hV:Qd (Ay 45 s)=true→(I9 (Ay 45 s)=100*(C5 (Ca 46 (Ay 45 s)).1).1+(C5 ([49]++(Ca 46 (Ay 45 s)).2.1)).1 - 100∨(1000000000001<100*(C5 (Ca 46 (Ay 45 s)).1).1+(C5 ([49]++(Ca 46 (Ay 45 s)).2.1)).1 - 100∧1000000000001<I9 (Ay 45 s)))∧0≤100*(C5 (Ca 46 (Ay 45 s)).1).1+(C5 ([49]++(Ca 46 (Ay 45 s)).2.1)).1 - 100:=(fI (s:=Ay 45 s)).2
 have b1:(Ca 46 (Ay 45 s)).2.2=false→Ds s=(0,4):=fun h=>Xr (by rw[hF,h];rfl)
 have b2:(C5 (Ca 46 (Ay 45 s)).1).2=false→Ds s=(0,4):=fun h=>Xr (by rw[hF,h];simp)
 have b3:(C5 ((⟨#[49]⟩:ByteArray).data.toList++(Ca 46 (Ay 45 s)).2.1)).2=false→Ds s=(0,4):=fun h=>Xr (by rw[hF,h];simp)
 have b4: ¬(Ca 46 (Ay 45 s)).2.1.length=2→Ds s=(0,4):=fun h=>Xr (by rw[hF,decide_eq_false h];simp)
 have hg:(Ca 46 (Ay 45 s)).2.2=true→(C5 (Ca 46 (Ay 45 s)).1).2=true→(C5 ((⟨#[49]⟩:ByteArray).data.toList++(Ca 46 (Ay 45 s)).2.1)).2=true→(Ca 46 (Ay 45 s)).2.1.length=2→Qd (Ay 45 s)=true:=fun h1 h2 h3 h4=>by rw[hF,h1,h2,h3,decide_eq_true h4];rfl
 clear c2 hF
 (conv=>whnf)
 (repeat' ((first
  |with_reducible exact⟨⟩
  |((with_reducible refine aI ?_ ?_);focus (first|with_reducible exact⟨⟩|with_reducible assumption|with_reducible rfl|omega|exact tK|(simp only[List.length_append,bytesOf_length,List.toList_toArray,List.length_cons,List.length_nil,List.length_take,List.length_drop,Bb];omega)|(dsimp only at*;simp only[Ak,Go.Vc.lo,Go.Vc.hi];omega)))
  |(split<;>rename_i hh<;>(try simp only[wS] at hh))
  |with_reducible refine lnI fun hln=>?_
  |with_reducible refine iA ?_ ?_
  |fail)<;>(conv=>whnf)))
 all_goals (try (show _=_;simp only[wQ]))
 all_goals first
  |exact absurd (by assumption) Bool.false_ne_true
  |(rw[b1 (by assumption)];done)
  |(rw[b2 (by assumption)];done)
  |(rw[b3 (by assumption)];done)
  |(rw[b4 (by omega)];done)
  |(
   have hf:=hg (by assumption) (by assumption) (by assumption) (by omega)
   obtain⟨v1,v2⟩:=hV hf
   first
   |(rw[Alp (by assumption) hf];(repeat' split)<;>((try dsimp only)<;>omega))
   |(rw[Alq (by assumption) hf];(repeat' split)<;>((try dsimp only)<;>omega)))
def Atf:PC:=PC.fun fun|[.str s]=>some (True,.tup [.int .i64 (sI (statOf s)),.int .i64 (sI (cS s))])|_=>none
def Tc:PT:=C8 [(220,yA)]
theorem aR{W:World}(hW:Tabs W):Ct (Fw W) Tryz.prog Tc:=(Ab Tryz.call220 (Ait hW) Av)
def Td:FuncId→Option Ctr:=Az Tc []
theorem Aba{W:World}(hW:Tabs W):Ad (Fw W) Tryz.prog Td:=(Aw (aR hW))
theorem Abb{W:World}(hW:Tabs W):GoodP (Fw W) Tryz.prog 156 Atf:=by
 have hD:=aR hW
 have hC0:Ad (Fw W) Tryz.prog Td:=(Aba hW)
 refine Ax (D:=Tc) (C:=Td) (wr:=(fun _=>false)) rfl Ao hD hC0 Tryz.func156 (fun _ _=>none) ?_
 clear hC0 hD hW
 intro cs p r h hf hp
 split at h
 case h_2=>cases h
 rename_i s
 cases h
 try simp only[A0,Bg,Ak,Go.Vc.lo,Go.Vc.hi,and_true] at hf
 have h1:(s.length:Int)=1∨statOf s=0:=by
  by_cases h:s.length=1
  ·exact .inl (by omega)
  ·exact .inr (Aa6 h)
 have h2: ¬(s.length:Int)=1∨Lib.index [79,67,76,70,69,82,86,83,65] s=statOf s - 1:=by
  by_cases h:s.length=1
  ·exact .inr (Aa7 h)
  ·exact .inl (by omega)
 have h4:sI (Lib.index (⟨#[79,67,76,70,69,82,86,83,65]⟩:ByteArray).data.toList s)=Lib.index [79,67,76,70,69,82,86,83,65] s:=Cm _
 have h6:statOf s=0∨(1≤statOf s∧statOf s≤9):=(We (s:=s)).imp id M2.1
 have h7:=fJ s
 (conv=>whnf)
 (repeat' ((first
  |with_reducible exact⟨⟩
  |((with_reducible refine aI ?_ ?_);focus (first|with_reducible rfl|(simp only[Ak,Go.Vc.lo,Go.Vc.hi];simp (disch:=omega) only[Int.tdiv_eq_ediv_of_nonneg,Int.tmod_eq_emod_of_nonneg,Cm,Xg];omega)|(simp only[List.length_append,bytesOf_length,List.toList_toArray,List.length_cons,List.length_nil,List.length_take,List.length_drop,Bb];omega)))
  |(split<;>rename_i hh<;>(try simp only[wS] at hh))
  |with_reducible refine lnI fun hln=>?_
  |with_reducible refine iA ?_ ?_
  |fail)<;>(conv=>whnf)))
 all_goals (try (show _=_;simp only[wQ]))
 all_goals omega
def Aff:PC:=PC.fun fun|[.str s]=>some (s.length≤100000000,.tup [.str (sS (El s).1),.int .i64 (sI (El s).2.1),.bool (sB (El s).2.2)])|_=>none
def Pg:PT:=C8 [(94,Zn),(159,fK)]
theorem Vq{W:World}(hW:Tabs W):Ct (Fw W) Tryz.prog Pg:=(Ab Tryz.call94 (Xq hW) (Ab Tryz.call159 (pG hW) Av))
def Ph:FuncId→Option Ctr:=Az Pg []
theorem nE{W:World}(hW:Tabs W):Ad (Fw W) Tryz.prog Ph:=(Aw (Vq hW))
theorem Vr{W:World}(hW:Tabs W):GoodP (Fw W) Tryz.prog 224 Aff:=by
 have hD:=Vq hW
 have hC0:Ad (Fw W) Tryz.prog Ph:=(nE hW)
 refine Ax (D:=Pg) (C:=Ph) (wr:=(fun _=>false)) rfl Ao hD hC0 Tryz.func224 (fun _ _=>none) ?_
 clear hC0 hD hW
 intro cs p r h hf hp
 split at h
 case h_2=>cases h
 rename_i s
 cases h
 try simp only[A0,Bg,Ak,Go.Vc.lo,Go.Vc.hi,and_true] at hf
 have c1:=Uk 61 s
 have c2:(sS (Ca 61 s).2.1).length≤100000000:=by rw[Bb];omega
 have h1:El s=((Ca 61 s).1,(Ds (Ca 61 s).2.1).1,(Ca 61 s).2.2&&decide ((Ds (Ca 61 s).2.1).2=0)):=by unfold El;rfl
 (conv=>whnf)
 (repeat' ((first
  |with_reducible exact⟨⟩
  |((with_reducible refine aI ?_ ?_);focus (first|with_reducible assumption|with_reducible rfl))
  |(split<;>rename_i hh<;>(try simp only[wS] at hh))
  |with_reducible refine iA ?_ ?_
  |fail)<;>(conv=>whnf)))
 all_goals (try (show _=_;simp only[wQ]))
 all_goals first|(rw[h1];done)|(rw[h1,Bool.eq_iff_iff];simp[*,Bt];done)
def Alr:PC:=PC.fun fun|[.str s]=>some (s.length≤100000000,.tup [.agg (Eu s).1.enc,.bool (sB (Eu s).2)])|_=>none
def Ju:PT:=C8 [(93,cP),(94,Zn),(224,Aff)]
theorem Ov{W:World}(hW:Tabs W):Ct (Fw W) Tryz.prog Ju:=(Ab Tryz.call93 (M7 hW) (Ab Tryz.call94 (Xq hW) (Ab Tryz.call224 (Vr hW) Av)))
def Jv:FuncId→Option Ctr:=Az Ju []
theorem Xs{W:World}(hW:Tabs W):Ad (Fw W) Tryz.prog Jv:=(Aw (Ov hW))
theorem Xt{W:World}(hW:Tabs W):GoodP (Fw W) Tryz.prog 223 Alr:=by
 have hD:=Ov hW
 have hC0:Ad (Fw W) Tryz.prog Jv:=(Xs hW)
 refine Ax (D:=Ju) (C:=Jv) (wr:=(fun _=>false)) rfl Ao hD hC0 Tryz.func223 (fun _ _=>none) ?_
 clear hC0 hD hW
 intro cs p r h hf hp
 split at h
 case h_2=>cases h
 rename_i s
 cases h
 try simp only[A0,Bg,Ak,Go.Vc.lo,Go.Vc.hi,and_true] at hf
 have h1:(sS (El s).1).length≤100000000:=by
  rw[Bb];have:=Uk 61 s;unfold El;dsimp only;omega
 have hf:Eu s=(⟨(Aq (Ca 64 (El s).1).1).1,(Aq (Ca 64 (El s).1).2.1).1,(El s).2.1,0,0,0⟩,(El s).2.2&&(Ca 64 (El s).1).2.2&&(Aq (Ca 64 (El s).1).1).2&&(Aq (Ca 64 (El s).1).2.1).2):=by unfold Eu;rfl
 (conv=>whnf)
 (repeat' ((first
  |with_reducible exact⟨⟩
  |((with_reducible refine aI ?_ ?_);focus (first|with_reducible exact⟨⟩|with_reducible assumption|with_reducible rfl))
  |(split<;>rename_i hh<;>(try simp only[wS] at hh))
  |with_reducible refine iA ?_ ?_
  |fail)<;>(conv=>whnf)))
 all_goals (try (show _=_;simp only[wQ]))
 all_goals first|(rw[hf];done)|(rw[hf,Bool.eq_iff_iff];simp[*];done)
end
end Go.Vc.Z
