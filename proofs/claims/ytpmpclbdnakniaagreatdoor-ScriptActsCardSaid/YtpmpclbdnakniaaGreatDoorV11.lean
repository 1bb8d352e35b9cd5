/- Numbers: parts, locators, made ones. -/
import Derived.Test.YtpmpclbdnakniaaGreatDoorV10
set_option linter.all false
set_option linter.unusedVariables false
set_option linter.unusedSimpArgs false
namespace Go.Vc.Z
open Go Go.Vc Go.Proofs Go.RowKit Go.Pl Go.Lib
noncomputable section
set_option maxRecDepth 100000
attribute [local irreducible] inK Utf8.decode Utf8.encode Lib.itoa Pl.worth Pl.allDig
theorem Aik{n:Int}(h0:0≤n)(h1:n≤18446744073709551615):numOf (decDigits n.toNat)=if 1000000000000≤n∧n≤9999999999999 then(if checkN n=0 then(n,0) else(0,checkN n)) else(0,4):=by
 unfold numOf
 have hw:=Eo n.toNat
 have hl:=Aad n.toNat 12 (by omega)
 by_cases h:1000000000000≤n∧n≤9999999999999
 ·rw[if_pos ⟨hl.2 (by omega),D6 _⟩,if_pos h,hw,show((n.toNat:Nat):Int)=n by omega]
 ·rw[if_neg (fun hh=>h (by have:=hl.1 hh.1;omega)),if_neg h]
def Hw:PT:=C8 [(81,Sr),(88,Aku)]
theorem L0{W:World}(hW:Tabs W):Ct (Fw W) Tryz.prog Hw:=(Ab Tryz.call81 (K9 hW) (Ab Tryz.call88 (Py hW) Av))
def Hy:FuncId→Option Ctr:=Az Hw []
theorem U1{W:World}(hW:Tabs W):Ad (Fw W) Tryz.prog Hy:=(Aw (L0 hW))
theorem U2{W:World}(hW:Tabs W):GoodP (Fw W) Tryz.prog 135 Ue:=by
 have hD:=L0 hW
 have hC0:Ad (Fw W) Tryz.prog Hy:=(U1 hW)
 refine Ax (D:=Hw) (C:=Hy) (wr:=(fun _=>false)) rfl Ao hD hC0 Tryz.func135 (fun _ _=>none) ?_
 clear hC0 hD hW
 intro cs p r h hf hp
 split at h
 case h_2=>cases h
 rename_i n
 cases h
 try simp only[A0,Bg,Ak,Go.Vc.lo,Go.Vc.hi,and_true] at hf
 have hx:=Aik hf.1 hf.2
 have h2: ¬(1000000000000≤n∧n≤9999999999999)→checkN n=2:=fun h=>by unfold checkN;rw[if_pos (by omega)]
 have h3:(1000000000000≤n∧n≤9999999999999)→checkN n≠4:=fun h=>by rw[eB h.1 h.2];split<;>omega
 have h4:(numOf (decDigits n.toNat)).2=4→checkN n=2:=fun h=>by
  rw[hx] at h
  by_cases hc:1000000000000≤n∧n≤9999999999999
  ·rw[if_pos hc] at h;split at h
   ·cases h
   ·exact absurd h (h3 hc)
  ·exact h2 hc
 have h5: ¬(numOf (decDigits n.toNat)).2=4→(numOf (decDigits n.toNat)).2=checkN n:=fun h=>by
  rw[hx] at h ⊢
  by_cases hc:1000000000000≤n∧n≤9999999999999
  ·rw[if_pos hc];split
   ·rename_i h6;exact h6.symm
   ·rfl
  ·rw[if_neg hc] at h;exact absurd rfl h
 (conv=>whnf)
 (repeat' ((first
  |((with_reducible refine aI ?_ ?_);focus (first|with_reducible exact⟨⟩|with_reducible rfl))
  |(split<;>rename_i hh<;>(try simp only[wS] at hh))
  |fail)<;>(conv=>whnf)))
 all_goals (try (show _=_;simp only[wQ]))
 ·exact h5 (by assumption)
 ·rw[h4 (by assumption)]
def Pz(c:UInt8):Bool:=(decide (65≤c.toNat)&&decide (c.toNat≤90)) || (decide (50≤c.toNat)&&decide (c.toNat≤57))
@[irreducible] def G3(s:List UInt8):Bool:=s.all Pz&&decide (s.length=6)
def P0:PC:=PC.fun fun|[.str s]=>some (True,.bool (sB (G3 s)))|_=>none
def A10(s:List UInt8):LoopSpec:={
 α:=Nat
 keep:=[0,6]
 vals i:=[.str s,.iter 0]
 heap i:=[.iter s i]
 ok i:=i≤s.length∧(s.take i).all Pz=true
 μ i:=s.length - i }
def Zc:List AV→Nat→Option LR:=fun cs i=>match cs with|[.str s]=>cond (Nat.beq i 2) (some (.inv (A10 s))) (none)|_=>none
theorem P1{W:World}(hW:Tabs W):GoodP (Fw W) Tryz.prog 195 P0:=by
 have hD:=Bc hW
 have hC0:Ad (Fw W) Tryz.prog Am:=(Be hW)
 refine Ax (D:=A8) (C:=Am) (wr:=(fun _=>false)) rfl Ao hD hC0 Tryz.func195 (Zc) ?_
 clear hC0 hD hW
 intro cs p r h hf hp
 split at h
 case h_2=>cases h
 rename_i s
 cases h
 try simp only[A0,Bg,Ak,Go.Vc.lo,Go.Vc.hi,and_true] at hf
 (conv=>whnf)
 refine⟨?_,fun(i:Nat) (hi:i≤s.length∧(s.take i).all Pz=true)=>?_⟩
 ·(conv=>whnf)
  refine⟨(0:Nat),[],?_,⟨⟨rfl,(nB rfl),rfl⟩,?_,?_⟩⟩
  ·exact⟨Nat.zero_le _,rfl⟩
  ·exact tL
  ·exact tL
 ·obtain⟨h1,h2⟩:=hi
  have hbad:i<s.length→¬(65≤Bj s i∧Bj s i≤90∨50≤Bj s i∧Bj s i≤57)→G3 s=false:=fun h hc=>by
   have:Pz (s.getD i 0)=false:=by
    simp only[Pz,Bool.or_eq_false_iff,Bool.and_eq_false_iff,decide_eq_false_iff_not]
    rcases Ef h with h6|h6<;>omega
   unfold G3;rw[M1 h this];rfl
  have hgood:i<s.length→(65≤Bj s i∧Bj s i≤90∨50≤Bj s i∧Bj s i≤57)→(s.take (i+1)).all Pz=true∧Ai s i=1:=fun h hc=>by
   rcases Ef h with h6|h6
   ·refine⟨?_,h6.2.1⟩
    rw[Ie h,h2,Bool.true_and]
    simp only[Pz,Bool.or_eq_true,Bool.and_eq_true,decide_eq_true_eq];omega
   ·omega
  have hfin:s.length≤i→G3 s=decide (s.length=6):=fun h=>by
   rw[List.take_of_length_le h] at h2
   unfold G3;rw[h2];rfl
  (conv=>whnf)
  (repeat' ((first
   |(split<;>rename_i hh<;>(try simp only[wS] at hh))
   |with_reducible refine lnI fun hln=>?_
   |fail)<;>(conv=>whnf)))
  all_goals (try (show _=_;simp only[wQ]))
  all_goals try (rw[hbad (by omega) (by omega)];done)
  all_goals try (
   obtain⟨g1,g2⟩:=hgood (by omega) (by omega)
   (conv=>whnf)
   refine⟨(i+1:Nat),[],?_,⟨⟨rfl,(nB rfl),rfl⟩,?_,?_⟩⟩
   ·exact⟨⟨show i+1≤s.length by omega,g1⟩,show s.length - (i+1)<s.length - i by omega⟩
   ·exact tL
   ·exact tL
   )
  ·rw[hfin (by omega),Bt,Bool.eq_iff_iff,beq_iff_eq,decide_eq_true_eq];omega
def Azp(s:List UInt8):LoopSpec:={
 α:=Nat
 keep:=[0,3]
 vals i:=[.str s,.int .i64 i]
 heap _:=[]
 ok i:=i≤s.length∧(s.take i).all Pz=true
 μ i:=s.length - i }
def Rw:List AV→Nat→Option LR:=fun cs i=>match cs with|[.str s]=>cond (Nat.beq i 2) (some (.inv (Azp s))) (none)|_=>none
theorem Rx{W:World}(hW:Tabs W):GoodP (Fw W) Tryz.prog 64 P0:=by
 have hD:=Bc hW
 have hC0:Ad (Fw W) Tryz.prog Am:=(Be hW)
 refine Ax (D:=A8) (C:=Am) (wr:=(fun _=>false)) rfl Ao hD hC0 Tryz.func64 (Rw) ?_
 clear hC0 hD hW
 intro cs p r h hf hp
 split at h
 case h_2=>cases h
 rename_i s
 cases h
 try simp only[A0,Bg,Ak,Go.Vc.lo,Go.Vc.hi,and_true] at hf
 (conv=>whnf)
 refine⟨?_,fun(i:Nat) (hi:i≤s.length∧(s.take i).all Pz=true)=>?_⟩
 ·(conv=>whnf)
  refine⟨(0:Nat),[],?_,⟨⟨rfl,(nB rfl),rfl⟩,?_,?_⟩⟩
  ·exact⟨Nat.zero_le _,rfl⟩
  ·exact Ac _
  ·exact tL
 ·obtain⟨h1,h2⟩:=hi
  have ei:(s.getD (Int.toNat (i:Int)) 0).toNat=(s.getD i 0).toNat:=rfl
  have hbad:i<s.length→¬(65≤(s.getD i 0).toNat∧(s.getD i 0).toNat≤90∨50≤(s.getD i 0).toNat∧(s.getD i 0).toNat≤57)→G3 s=false:=fun h hc=>by
   have:Pz (s.getD i 0)=false:=by
    simp only[Pz,Bool.or_eq_false_iff,Bool.and_eq_false_iff,decide_eq_false_iff_not];omega
   unfold G3;rw[M1 h this];rfl
  have hgood:i<s.length→(65≤(s.getD i 0).toNat∧(s.getD i 0).toNat≤90∨50≤(s.getD i 0).toNat∧(s.getD i 0).toNat≤57)→(s.take (i+1)).all Pz=true:=fun h hc=>by
   rw[Ie h,h2,Bool.true_and]
   simp only[Pz,Bool.or_eq_true,Bool.and_eq_true,decide_eq_true_eq];omega
  have hfin:s.length≤i→G3 s=decide (s.length=6):=fun h=>by
   rw[List.take_of_length_le h] at h2
   unfold G3;rw[h2];rfl
  (conv=>whnf)
  (repeat' ((first
   |((with_reducible refine aI ?_ ?_);focus (first|omega|exact tK))
   |(split<;>rename_i hh<;>(try simp only[wS] at hh))
   |with_reducible refine lnI fun hln=>?_
   |fail)<;>(conv=>whnf)))
  all_goals (try (show _=_;simp only[wQ]))
  all_goals try (rw[hbad (by omega) (by omega)];done)
  all_goals try (
   have g1:=hgood (by omega) (by omega)
   (conv=>whnf)
   refine⟨(i+1:Nat),[],?_,⟨⟨rfl,(nB rfl),rfl⟩,?_,?_⟩⟩
   ·exact⟨⟨show i+1≤s.length by omega,g1⟩,show s.length - (i+1)<s.length - i by omega⟩
   ·exact Ac _
   ·exact tL
   )
  ·rw[hfin (by omega),Bt,Bool.eq_iff_iff,beq_iff_eq,decide_eq_true_eq];omega
end
end Go.Vc.Z
namespace Go.Vc.Z
open Go Go.Vc Go.Proofs Go.RowKit Go.Pl Go.Lib
noncomputable section
set_option maxRecDepth 100000
attribute [local irreducible] inK Utf8.decode Utf8.encode Lib.itoa Pl.worth Pl.allDig
@[irreducible] def Jf(s:Int):Bool:=decide (1≤s)&&decide (s≤9)
theorem M2{s:Int}:Jf s=true↔1≤s∧s≤9:=by unfold Jf;simp
theorem Q5{s:Int}(h:Jf s=true):s=1∨s=2∨s=3∨s=4∨s=5∨s=6∨s=7∨s=8∨s=9:=by have:=M2.1 h;omega
def eD:PC:=PC.fun fun|[.int .i64 s]=>some (True,.bool (sB (Jf s)))|_=>none
theorem xL{W:World}(hW:Tabs W):GoodP (Fw W) Tryz.prog 133 eD:=by
 have hD:=Bc hW
 have hC0:Ad (Fw W) Tryz.prog Am:=(Be hW)
 refine Ax (D:=A8) (C:=Am) (wr:=(fun _=>false)) rfl Ao hD hC0 Tryz.func133 (fun _ _=>none) ?_
 clear hC0 hD hW
 intro cs p r h hf hp
 split at h
 case h_2=>cases h
 rename_i s
 cases h
 try simp only[A0,Bg,Ak,Go.Vc.lo,Go.Vc.hi,and_true] at hf
 (conv=>whnf)
 (repeat' ((first
  |(split<;>rename_i hh<;>(try simp only[wS] at hh))
  |fail)<;>(conv=>whnf)))
 all_goals (try (show _=_;simp only[wQ]))
 all_goals (try simp (disch:=omega) only[Int.tdiv_eq_ediv_of_nonneg,Int.tmod_eq_emod_of_nonneg]);all_goals (first|(simp_all[Cm,Bh,Bb,F6,Dc,Bt,Jf];done)|(simp_all[Cm,Bh,Bb,F6,Dc,Bt,Jf];omega))
theorem On{W:World}(hW:Tabs W):GoodP (Fw W) Tryz.prog 69 eD:=by
 have hD:=Bc hW
 have hC0:Ad (Fw W) Tryz.prog Am:=(Be hW)
 refine Ax (D:=A8) (C:=Am) (wr:=(fun _=>false)) rfl Ao hD hC0 Tryz.func69 (fun _ _=>none) ?_
 clear hC0 hD hW
 intro cs p r h hf hp
 split at h
 case h_2=>cases h
 rename_i s
 cases h
 try simp only[A0,Bg,Ak,Go.Vc.lo,Go.Vc.hi,and_true] at hf
 (conv=>whnf)
 (repeat' ((first
  |(split<;>rename_i hh<;>(try simp only[wS] at hh))
  |fail)<;>(conv=>whnf)))
 all_goals (try (show _=_;simp only[wQ]))
 all_goals (try simp (disch:=omega) only[Int.tdiv_eq_ediv_of_nonneg,Int.tmod_eq_emod_of_nonneg]);all_goals (first|(simp_all[Cm,Bh,Bb,F6,Dc,Bt,Jf];done)|(simp_all[Cm,Bh,Bb,F6,Dc,Bt,Jf];omega))
def stL:List UInt8:=[79,67,76,70,69,82,86,83,65]
@[irreducible] def C2(s:Int):List UInt8:=if Jf s=true then(stL.drop (s - 1).toNat).take 1 else []
def Su:PC:=PC.fun fun|[.int .i64 s]=>some (True,.str (sS (C2 s)))|_=>none
def Lm:PT:=C8 [(133,eD)]
theorem Rr{W:World}(hW:Tabs W):Ct (Fw W) Tryz.prog Lm:=(Ab Tryz.call133 (xL hW) Av)
def Ln:FuncId→Option Ctr:=Az Lm []
theorem bX{W:World}(hW:Tabs W):Ad (Fw W) Tryz.prog Ln:=(Aw (Rr hW))
theorem bY{W:World}(hW:Tabs W):GoodP (Fw W) Tryz.prog 61 Su:=by
 have hD:=Rr hW
 have hC0:Ad (Fw W) Tryz.prog Ln:=(bX hW)
 refine Ax (D:=Lm) (C:=Ln) (wr:=(fun _=>false)) rfl Ao hD hC0 Tryz.func61 (fun _ _=>none) ?_
 clear hC0 hD hW
 intro cs p r h hf hp
 split at h
 case h_2=>cases h
 rename_i s
 cases h
 try simp only[A0,Bg,Ak,Go.Vc.lo,Go.Vc.hi,and_true] at hf
 have hi:=M2 (s:=s)
 (conv=>whnf)
 (repeat' ((first
  |((with_reducible refine aI ?_ ?_);focus (with_reducible exact⟨⟩))
  |(split<;>rename_i hh<;>(try simp only[wS] at hh))
  |fail)<;>(conv=>whnf)))
 all_goals (try (show _=_;simp only[wQ]))
 ·unfold C2;rw[if_neg (by simp_all)]
 ·have:=hi.1 (by assumption)
  (conv=>whnf)
  (repeat' ((first
   |((with_reducible refine aI ?_ ?_);focus (first|omega|exact tK|(simp only[List.length_append,bytesOf_length,List.toList_toArray,List.length_cons,List.length_nil,List.length_take,List.length_drop,Bb];omega)))
   |fail)<;>(conv=>whnf)))
  all_goals (try (show _=_;simp only[wQ]))
  unfold C2
  rw[if_pos (by assumption)]
  show(stL.drop (s - 1).toNat).take (s.toNat - (s - 1).toNat)=_
  congr 1;omega
def Af5:List (List UInt8):=[[79,67,69,82,86,83,65],[67,79,76],[76,67,70],[70],[69],[82],[86],[83,79,82],[65,79,70]]
def Akv:PC:=PC.fun fun|[]=>some (True,.sl false 1 9 (fun e=>[.str (Af5.getD e [])]))|_=>none
theorem V6{W:World}(hW:Tabs W):GoodP (Fw W) Tryz.prog 169 Akv:=by
 have hD:=Bc hW
 have hC0:Ad (Fw W) Tryz.prog Am:=(Be hW)
 refine Ax (D:=A8) (C:=Am) (wr:=(fun _=>false)) rfl Ao hD hC0 Tryz.func169 (fun _ _=>none) ?_
 clear hC0 hD hW
 intro cs p r h hf hp
 split at h
 case h_2=>cases h
 skip
 cases h
 try simp only[A0,Bg,Ak,Go.Vc.lo,Go.Vc.hi,and_true] at hf
 (conv=>whnf)
 (repeat' ((first
  |((with_reducible refine aI ?_ ?_);focus (first|with_reducible rfl|decide))
  |fail)<;>(conv=>whnf)))
 intro e he
 match e,he with
 |0,_=>first|rfl|exact⟨rfl,rfl⟩
 |1,_=>first|rfl|exact⟨rfl,rfl⟩
 |2,_=>first|rfl|exact⟨rfl,rfl⟩
 |3,_=>first|rfl|exact⟨rfl,rfl⟩
 |4,_=>first|rfl|exact⟨rfl,rfl⟩
 |5,_=>first|rfl|exact⟨rfl,rfl⟩
 |6,_=>first|rfl|exact⟨rfl,rfl⟩
 |7,_=>first|rfl|exact⟨rfl,rfl⟩
 |8,_=>first|rfl|exact⟨rfl,rfl⟩
 |e+9,he=>exact absurd he (by omega)
theorem Aah{s:Int}(h:Jf s=true):(Af5.getD (s - 1).toNat []).take 1=C2 s∧1≤(Af5.getD (s - 1).toNat []).length:=by
 unfold C2;rw[if_pos h]
 rcases Q5 h with rfl|rfl|rfl|rfl|rfl|rfl|rfl|rfl|rfl<;>exact⟨rfl,by decide⟩
def G4:PT:=C8 [(69,eD),(169,Akv)]
theorem La{W:World}(hW:Tabs W):Ct (Fw W) Tryz.prog G4:=(Ab Tryz.call69 (On hW) (Ab Tryz.call169 (V6 hW) Av))
def G5:FuncId→Option Ctr:=Az G4 []
theorem Sv{W:World}(hW:Tabs W):Ad (Fw W) Tryz.prog G5:=(Aw (La hW))
theorem Lb{W:World}(hW:Tabs W):GoodP (Fw W) Tryz.prog 82 Su:=by
 have hD:=La hW
 have hC0:Ad (Fw W) Tryz.prog G5:=(Sv hW)
 refine Ax (D:=G4) (C:=G5) (wr:=(fun _=>false)) rfl Ao hD hC0 Tryz.func82 (fun _ _=>none) ?_
 clear hC0 hD hW
 intro cs p r h hf hp
 split at h
 case h_2=>cases h
 rename_i s
 cases h
 try simp only[A0,Bg,Ak,Go.Vc.lo,Go.Vc.hi,and_true] at hf
 have hi:=M2 (s:=s)
 have hr:=Aah (s:=s)
 (conv=>whnf)
 (repeat' ((first
  |((with_reducible refine aI ?_ ?_);focus (with_reducible exact⟨⟩))
  |(split<;>rename_i hh<;>(try simp only[wS] at hh))
  |fail)<;>(conv=>whnf)))
 all_goals (try (show _=_;simp only[wQ]))
 ·unfold C2;rw[if_neg (by simp_all)]
 ·have h1:=hi.1 (by assumption)
  have h2:=hr (by assumption)
  have h3:Int.toNat 1≤(Af5.getD (s - 1).toNat []).length:=h2.2
  (conv=>whnf)
  (repeat' ((first
   |((with_reducible refine aI ?_ ?_);focus (first|omega|exact tK))
   |fail)<;>(conv=>whnf)))
  all_goals (try (show _=_;simp only[wQ]))
  exact h2.1
theorem Aez{s:Int}(h:Jf s=true):∃ c,C2 s=[c]∧stL[(s - 1).toNat]? =some c:=by
 unfold C2;rw[if_pos h]
 rcases Q5 h with rfl|rfl|rfl|rfl|rfl|rfl|rfl|rfl|rfl<;>exact⟨_,rfl,rfl⟩
end
end Go.Vc.Z
namespace Go.Vc.Z
open Go Go.Vc Go.Proofs Go.RowKit Go.Pl Go.Lib
noncomputable section
set_option maxRecDepth 100000
attribute [local irreducible] inK Utf8.decode Utf8.encode Lib.itoa Pl.worth Pl.allDig
@[irreducible] def F7(n:Int):Bool:=decide (0≤n)&&decide (n≤1000000)
@[irreducible] def Dl(n:Int):Bool:=decide (-1000000000000≤n)&&decide (n≤1000000000000)
@[irreducible] def Di(n:Int):Bool:=decide (0≤n)&&decide (n≤1000000000000)
@[irreducible] def Es(n:Int):Bool:=decide (checkN n=0)
def Akw:PC:=PC.fun fun|[.int .i64 n]=>some (True,.bool (sB (F7 n)))|_=>none
def xM:PC:=PC.fun fun|[.int .i64 n]=>some (True,.bool (sB (Dl n)))|_=>none
def xN:PC:=PC.fun fun|[.int .i64 n]=>some (True,.bool (sB (Di n)))|_=>none
def Akx:PC:=PC.fun fun|[.int .u64 n]=>some (True,.bool (sB (Es n)))|_=>none
theorem Oo{W:World}(hW:Tabs W):GoodP (Fw W) Tryz.prog 138 Akw:=by
 have hD:=Bc hW
 have hC0:Ad (Fw W) Tryz.prog Am:=(Be hW)
 refine Ax (D:=A8) (C:=Am) (wr:=(fun _=>false)) rfl Ao hD hC0 Tryz.func138 (fun _ _=>none) ?_
 clear hC0 hD hW
 intro cs p r h hf hp
 split at h
 case h_2=>cases h
 rename_i n
 cases h
 try simp only[A0,Bg,Ak,Go.Vc.lo,Go.Vc.hi,and_true] at hf
 (conv=>whnf)
 (repeat' ((first
  |(split<;>rename_i hh<;>(try simp only[wS] at hh))
  |fail)<;>(conv=>whnf)))
 all_goals (try (show _=_;simp only[wQ]))
 all_goals (try simp (disch:=omega) only[Int.tdiv_eq_ediv_of_nonneg,Int.tmod_eq_emod_of_nonneg]);all_goals (first|(simp_all[Cm,Bh,Bb,F6,Dc,Bt,F7];done)|(simp_all[Cm,Bh,Bb,F6,Dc,Bt,F7];omega))
theorem eE{W:World}(hW:Tabs W):GoodP (Fw W) Tryz.prog 207 xM:=by
 have hD:=Bc hW
 have hC0:Ad (Fw W) Tryz.prog Am:=(Be hW)
 refine Ax (D:=A8) (C:=Am) (wr:=(fun _=>false)) rfl Ao hD hC0 Tryz.func207 (fun _ _=>none) ?_
 clear hC0 hD hW
 intro cs p r h hf hp
 split at h
 case h_2=>cases h
 rename_i n
 cases h
 try simp only[A0,Bg,Ak,Go.Vc.lo,Go.Vc.hi,and_true] at hf
 (conv=>whnf)
 (repeat' ((first
  |(split<;>rename_i hh<;>(try simp only[wS] at hh))
  |fail)<;>(conv=>whnf)))
 all_goals (try (show _=_;simp only[wQ]))
 all_goals (try simp (disch:=omega) only[Int.tdiv_eq_ediv_of_nonneg,Int.tmod_eq_emod_of_nonneg]);all_goals (first|(simp_all[Cm,Bh,Bb,F6,Dc,Bt,Dl];done)|(simp_all[Cm,Bh,Bb,F6,Dc,Bt,Dl];omega))
def If:PT:=C8 [(207,xM)]
theorem O9{W:World}(hW:Tabs W):Ct (Fw W) Tryz.prog If:=(Ab Tryz.call207 (eE hW) Av)
theorem Iq{W:World}(hW:Tabs W):GoodP (Fw W) Tryz.prog 139 xN:=by
 have hD:=Bc hW
 have hC0:Ad (Fw W) Tryz.prog Am:=(Be hW)
 refine Ax (D:=A8) (C:=Am) (wr:=(fun _=>false)) rfl Ao hD hC0 Tryz.func139 (fun _ _=>none) ?_
 clear hC0 hD hW
 intro cs p r h hf hp
 split at h
 case h_2=>cases h
 rename_i n
 cases h
 try simp only[A0,Bg,Ak,Go.Vc.lo,Go.Vc.hi,and_true] at hf
 (conv=>whnf)
 (repeat' ((first
  |(split<;>rename_i hh<;>(try simp only[wS] at hh))
  |fail)<;>(conv=>whnf)))
 all_goals (try (show _=_;simp only[wQ]))
 all_goals (try simp (disch:=omega) only[Int.tdiv_eq_ediv_of_nonneg,Int.tmod_eq_emod_of_nonneg]);all_goals (first|(simp_all[Cm,Bh,Bb,F6,Dc,Bt,Di];done)|(simp_all[Cm,Bh,Bb,F6,Dc,Bt,Di];omega))
def F8:PT:=C8 [(135,Ue)]
theorem Jk{W:World}(hW:Tabs W):Ct (Fw W) Tryz.prog F8:=(Ab Tryz.call135 (U2 hW) Av)
def F9:FuncId→Option Ctr:=Az F8 []
theorem Q6{W:World}(hW:Tabs W):Ad (Fw W) Tryz.prog F9:=(Aw (Jk hW))
theorem Q7{W:World}(hW:Tabs W):GoodP (Fw W) Tryz.prog 63 Akx:=by
 have hD:=Jk hW
 have hC0:Ad (Fw W) Tryz.prog F9:=(Q6 hW)
 refine Ax (D:=F8) (C:=F9) (wr:=(fun _=>false)) rfl Ao hD hC0 Tryz.func63 (fun _ _=>none) ?_
 clear hC0 hD hW
 intro cs p r h hf hp
 split at h
 case h_2=>cases h
 rename_i n
 cases h
 try simp only[A0,Bg,Ak,Go.Vc.lo,Go.Vc.hi,and_true] at hf
 (conv=>whnf)
 (repeat' ((first
  |((with_reducible refine aI ?_ ?_);focus (with_reducible exact⟨⟩))
  |fail)<;>(conv=>whnf)))
 all_goals (try (show _=_;simp only[wQ]))
 all_goals (try simp (disch:=omega) only[Int.tdiv_eq_ediv_of_nonneg,Int.tmod_eq_emod_of_nonneg]);all_goals (first|(rw[Bool.eq_iff_iff];simp[Cm,Bh,Bb,F6,Dc,Bt,Es];done))
end
end Go.Vc.Z
namespace Go.Vc.Z
open Go Go.Vc Go.Proofs Go.RowKit Go.Pl Go.Lib
noncomputable section
set_option maxRecDepth 100000
attribute [local irreducible] inK Utf8.decode Utf8.encode Lib.itoa Pl.worth Pl.allDig
def Cz:Int→List Tax→Bool
 |_,[]=>true
 |least,x::t=>decide (least≤x.code)&&decide (x.code≤99)&&Di x.amount&&Cz (x.code+1) t
@[irreducible] def Dg(l:List Tax):Bool:=Cz 1 l&&decide (l.length≤4)
def Af6:PC:=PC.of (fun l:List Tax=>[slE 2 Tax.enc l]) (fun _=>True) (fun l=>.bool (sB (Dg l)))
theorem oO{α:Type}[Inhabited α]{l:List α}{i:Nat}(h:i<l.length):l.drop i=l.getD i default::l.drop (i+1):=by
 rw[List.drop_eq_getElem_cons h,List.getD_eq_getElem?_getD,List.getElem?_eq_getElem h];rfl
end
end Go.Vc.Z
namespace Go.Vc.Z
open Go Go.Vc Go.Proofs Go.RowKit Go.Pl Go.Lib
noncomputable section
set_option maxRecDepth 100000
attribute [local irreducible] inK Utf8.decode Utf8.encode Lib.itoa Pl.worth Pl.allDig
end
end Go.Vc.Z
namespace Go.Vc.Z
open Go Go.Vc Go.Proofs Go.RowKit Go.Pl Go.Lib
noncomputable section
set_option maxRecDepth 100000
attribute [local irreducible] inK Utf8.decode Utf8.encode Lib.itoa Pl.worth Pl.allDig
theorem Cj{n:Int}(h:F7 n=true):0≤n∧n≤1000000:=by
 unfold F7 at h;simp at h;omega
end
end Go.Vc.Z
namespace Go.Vc.Z
open Go Go.Vc Go.Proofs Go.RowKit Go.Pl Go.Lib
noncomputable section
set_option maxRecDepth 100000
attribute [local irreducible] inK Utf8.decode Utf8.encode Lib.itoa Pl.worth Pl.allDig
end
end Go.Vc.Z
namespace Go.Vc.Z
open Go Go.Vc Go.Proofs Go.RowKit Go.Pl Go.Lib
noncomputable section
set_option maxRecDepth 100000
attribute [local irreducible] inK Utf8.decode Utf8.encode Lib.itoa Pl.worth Pl.allDig
@[irreducible] def Gk(c:Coupon)(s:Int):Bool:=
 decide (1≤c.flight)&&decide (c.flight≤9999)&&F7 c.day&&Di c.value&&decide (c.status=s)&&decide (c.holder=0)&&decide (c.next=0)
theorem eF(k:Nat)(f d v s h x f' d' v' s' h' x':Int):eqA TY (k+3) 45 (.agg [.int .i64 f,.int .i64 d,.int .i64 v,.int .i64 s,.int .i64 h,.int .u64 x]) (.agg [.int .i64 f',.int .i64 d',.int .i64 v',.int .i64 s',.int .i64 h',.int .u64 x'])=some (f == f'&&(d == d'&&(v == v'&&(s == s'&&(h == h'&&x == x'))))):=by
 have e45:TY 45=some Cq:=rfl
 have e3:TY 3=some ty3:=rfl
 have e2:TY 2=some ty2:=rfl
 have e43:TY 43=some Cl:=rfl
 have e37:TY 37=some Ck:=rfl
 simp[eqA,Ad5,e45,e3,e2,e43,e37,Cq,ty3,ty2,Cl,Ck,Oh,Bt]
theorem Oq{k:Nat}{f d v s h x f' d' v' s' h' x':Int}{N:Bool→Prop}(hN:N (f == f'&&(d == d'&&(v == v'&&(s == s'&&(h == h'&&x == x')))))):Je (eqA TY (k+3) 45 (.agg [.int .i64 f,.int .i64 d,.int .i64 v,.int .i64 s,.int .i64 h,.int .u64 x]) (.agg [.int .i64 f',.int .i64 d',.int .i64 v',.int .i64 s',.int .i64 h',.int .u64 x'])) N:=by
 rw[eF];exact hN
def Af7:PC:=PC.of (fun x:Coupon × Int=>[.agg x.1.enc,.int .i64 x.2]) (fun _=>True) (fun x=>.bool (sB (Gk x.1 x.2)))
def Hz:PT:=C8 [(138,Akw),(139,xN)]
theorem L1{W:World}(hW:Tabs W):Ct (Fw W) Tryz.prog Hz:=(Ab Tryz.call138 (Oo hW) (Ab Tryz.call139 (Iq hW) Av))
def H0:FuncId→Option Ctr:=Az Hz []
theorem U3{W:World}(hW:Tabs W):Ad (Fw W) Tryz.prog H0:=(Aw (L1 hW))
set_option maxHeartbeats 2000000 in
theorem U4{W:World}(hW:Tabs W):GoodP (Fw W) Tryz.prog 70 Af7:=by
 have hD:=L1 hW
 have hC0:∀ x:Coupon × Int,Ad (Fw W) Tryz.prog H0:=fun x=>(U3 hW)
 refine As (D:=Hz) (C:=fun x=>H0) (wr:=(fun _=>false)) rfl Ao hD hC0 Tryz.func70 (fun _ _=>none) (fun _=>rfl) ?_
 rintro⟨c,s⟩ hf hp
 clear hf
 (conv=>whnf)
 (repeat' ((first
  |((with_reducible refine aI ?_ ?_);focus (with_reducible exact⟨⟩))
  |(split<;>rename_i hh<;>(try simp only[wS] at hh))
  |fail)<;>(conv=>whnf)))
 all_goals (try (show _=_;simp only[wQ]))
 all_goals (unfold Gk;first|(simp_all[F6,Dc,Bt];done)|(rw[Bool.eq_iff_iff];simp_all[F6,Dc,Bt];done)|(rw[Bool.eq_iff_iff];simp_all[F6,Dc,Bt];omega))
def cellOf(H:List Blk)(p k:Nat):Option AV:=match H[p]? with|some (.var cs _)=>cs[k]? |_=>none
def Dp(g:Bool)(lo n hi:Int):Bool:=g&&(leI lo n&&leI n hi)
theorem C9{g:Bool}{lo n hi:Int}(h:n<lo):false=Dp g lo n hi:=by
 unfold Dp;rw[Dc,decide_eq_false (by omega)];simp
theorem Da{lo n hi:Int}(h:lo≤n):leI n hi=Dp true lo n hi:=by
 unfold Dp;rw[Dc lo,decide_eq_true h];simp
theorem Aai{TY:TypeId→Option TI}{C:FuncId→Option Ctr}{D:PT}{wr:Tmp→Bool}{L:List AV→List Blk→Nat→Option LR}{fn:Func}{H:List Blk}{Q:AV→List Blk→Prop}{p q j:Nat}{sz lo hi n:Int}{g:Bool}(hg:cellOf H p 2=some (.bool g))(hn:cellOf H q j=some (.int .i64 n))
  (h1:fnE TY C D wr (L [.ptr p 0,.ptr q j,.int .i64 sz,.int .i64 lo,.int .i64 hi] H) fn [.ptr p 0,.ptr q j,.int .i64 sz,.int .i64 lo,.int .i64 hi] H (fun c H'=>c= .tup []∧∃ b,b=Dp g lo n hi∧H'=setCell (setCell H p 2 (.bool b)) q j (.int .i64 0)))
  (h2:Q (.tup []) (setCell (setCell H p 2 (.bool (sB (Dp g lo n hi)))) q j (.int .i64 0))):Uw TY C D wr L fn [.ptr p 0,.ptr q j,.int .i64 sz,.int .i64 lo,.int .i64 hi] H Q:=
 Akp _ p 2 q j _ _ h1 h2
end
end Go.Vc.Z
namespace Go.Vc.Z
open Go Go.Vc Go.Proofs Go.RowKit Go.Pl Go.Lib
noncomputable section
set_option maxRecDepth 100000
attribute [local irreducible] inK Utf8.decode Utf8.encode Lib.itoa Pl.worth Pl.allDig
end
end Go.Vc.Z
namespace Go.Vc.Z
open Go Go.Vc Go.Proofs Go.RowKit Go.Pl Go.Lib
noncomputable section
set_option maxRecDepth 100000
attribute [local irreducible] inK Utf8.decode Utf8.encode Lib.itoa Pl.worth Pl.allDig
end
end Go.Vc.Z
namespace Go.Vc.Z
open Go Go.Vc Go.Proofs Go.RowKit Go.Pl Go.Lib
noncomputable section
set_option maxRecDepth 100000
attribute [local irreducible] inK Utf8.decode Utf8.encode Lib.itoa Pl.worth Pl.allDig
def V7:List AV→Nat→Option LR:=fun cs i=>match cs with|[.int .u64 n]=>cond (Nat.beq i 2) (some (.inv (Af2 n))) (none)|_=>none
theorem V8{W:World}(hW:Tabs W):GoodP (Fw W) Tryz.prog 192 Sr:=by
 have hD:=Bc hW
 have hC0:Ad (Fw W) Tryz.prog Am:=(Be hW)
 refine Ax (D:=A8) (C:=Am) (wr:=(fun _=>false)) rfl Ao hD hC0 Tryz.func192 (V7) ?_
 clear hC0 hD hW
 intro cs p r h hf hp
 split at h
 case h_2=>cases h
 rename_i n
 cases h
 try simp only[A0,Bg,Ak,Go.Vc.lo,Go.Vc.hi,and_true] at hf
 (conv=>whnf)
 refine⟨?_,fun(x:Nat × List UInt8) (hx:x.1≤n.toNat∧(if x.1=0∧x.2≠[] then x.2 else decDigits x.1++x.2)=decDigits n.toNat)=>?_⟩
 ·(conv=>whnf)
  refine⟨((n.toNat,[]):Nat × List UInt8),[],?_,⟨⟨rfl,(nB rfl),rfl⟩,?_,?_⟩⟩
  ·exact⟨Nat.le_refl _,by simp⟩
  ·exact tL
  ·exact tL
 ·obtain⟨h1,h2⟩:=hx
  have hl:x.2.length≤30:=by
   have:=congrArg List.length h2
   have h20:(decDigits n.toNat).length≤30:=by rw[decDigits_length];exact Nat.le_trans (Ip 29 _ (by omega)) (by omega)
   split at this<;>(try simp at this)<;>omega
  (conv=>whnf)
  (repeat' ((first
   |((with_reducible refine aI ?_ ?_);focus (first|omega|(intro e he;rcases(by omega:e=0∨e=1∨e=2) with rfl|rfl|rfl<;>first|rfl|(exfalso;omega))|exact tK|(simp only[List.length_append,bytesOf_length,List.toList_toArray,List.length_cons,List.length_nil,List.length_take,List.length_drop,Bb];omega)))
   |(split<;>rename_i hh<;>(try simp only[wS] at hh))
   |fail)<;>(conv=>whnf)))
  all_goals (try (show _=_;simp only[wQ]))
  ·(conv=>whnf)
   refine⟨((x.1 / 10,UInt8.ofNat (48+x.1 % 10)::x.2):Nat × List UInt8),[],?_,⟨⟨rfl,(nB rfl),rfl⟩,?_,?_⟩⟩
   ·refine⟨⟨show x.1 / 10≤n.toNat by omega,(I7 (n:=x.1) (s:=x.2) (.inl (by omega))).trans h2⟩,?_⟩
    show 2*(x.1 / 10)+(if UInt8.ofNat (48+x.1 % 10)::x.2=[] then 1 else 0)<2*x.1+(if x.2=[] then 1 else 0)
    rw[if_neg (by simp)];omega
   ·exact Ac _
   ·exact tL
  ·(conv=>whnf)
   refine⟨((x.1 / 10,UInt8.ofNat (48+x.1 % 10)::x.2):Nat × List UInt8),[],?_,⟨⟨rfl,(nB rfl),rfl⟩,?_,?_⟩⟩
   ·refine⟨⟨show x.1 / 10≤n.toNat by omega,(I7 (n:=x.1) (s:=x.2) (.inr (by assumption))).trans h2⟩,?_⟩
    show 2*(x.1 / 10)+(if UInt8.ofNat (48+x.1 % 10)::x.2=[] then 1 else 0)<2*x.1+(if x.2=[] then 1 else 0)
    rw[if_neg (by simp),if_pos (by assumption)];omega
   ·exact Ac _
   ·exact tL
  ·have h0:x.1=0:=by omega
   rw[←h2,if_pos ⟨h0,by assumption⟩]
def oP:PC:=PC.fun fun|[.int .i64 n]=>some (True,.str (sS (Lib.itoa n)))|_=>none
def Fj:PT:=C8 [(192,Sr)]
theorem H1{W:World}(hW:Tabs W):Ct (Fw W) Tryz.prog Fj:=(Ab Tryz.call192 (V8 hW) Av)
def Eh:FuncId→Option Ctr:=Az Fj []
theorem L2{W:World}(hW:Tabs W):Ad (Fw W) Tryz.prog Eh:=(Aw (H1 hW))
theorem U5{W:World}(hW:Tabs W):GoodP (Fw W) Tryz.prog 117 oP:=by
 have hD:=H1 hW
 have hC0:Ad (Fw W) Tryz.prog Eh:=(L2 hW)
 refine Ax (D:=Fj) (C:=Eh) (wr:=(fun _=>false)) rfl Ao hD hC0 Tryz.func117 (fun _ _=>none) ?_
 clear hC0 hD hW
 intro cs p r h hf hp
 split at h
 case h_2=>cases h
 rename_i n
 cases h
 try simp only[A0,Bg,Ak,Go.Vc.lo,Go.Vc.hi,and_true] at hf
 have e1:0≤n→Lib.itoa n=decDigits n.toNat:=fun h=>by unfold Lib.itoa;rw[if_neg (by omega)]
 have e2:n<0→Lib.itoa n=45::decDigits (-(n+1)+1).toNat:=fun h=>by unfold Lib.itoa;rw[if_pos h];congr 2;omega
 have h20:(decDigits (-(n+1)+1).toNat).length≤30:=by
  rw[decDigits_length]
  exact Nat.le_trans (Ip 29 _ (by omega)) (by omega)
 (conv=>whnf)
 (repeat' ((first
  |((with_reducible refine aI ?_ ?_);focus (first|with_reducible exact⟨⟩|exact tK|(simp only[List.length_append,bytesOf_length,List.toList_toArray,List.length_cons,List.length_nil,List.length_take,List.length_drop,Bb];omega)))
  |(split<;>rename_i hh<;>(try simp only[wS] at hh))
  |fail)<;>(conv=>whnf)))
 all_goals (try (show _=_;simp only[wQ]))
 ·rw[e1 (by assumption)]
 ·rw[e2 (by assumption)];rfl
def Jl:PT:=C8 [(117,oP)]
theorem Ot{W:World}(hW:Tabs W):Ct (Fw W) Tryz.prog Jl:=(Ab Tryz.call117 (U5 hW) Av)
def Jm:FuncId→Option Ctr:=Az Jl []
theorem Xk{W:World}(hW:Tabs W):Ad (Fw W) Tryz.prog Jm:=(Aw (Ot hW))
theorem Jn{W:World}(hW:Tabs W):GoodP (Fw W) Tryz.prog 49 oP:=by
 have hD:=Ot hW
 have hC0:Ad (Fw W) Tryz.prog Jm:=(Xk hW)
 refine Ax (D:=Jl) (C:=Jm) (wr:=(fun _=>false)) rfl Ao hD hC0 Tryz.func49 (fun _ _=>none) ?_
 clear hC0 hD hW
 intro cs p r h hf hp
 split at h
 case h_2=>cases h
 rename_i n
 cases h
 try simp only[A0,Bg,Ak,Go.Vc.lo,Go.Vc.hi,and_true] at hf
 (conv=>whnf)
 (repeat' ((first
  |((with_reducible refine aI ?_ ?_);focus (with_reducible exact⟨⟩))
  |fail)<;>(conv=>whnf)))
@[irreducible] def D7(s:List UInt8):Bool:=allDig s&&(s == [48] || (s != []&&s.getD 0 0 != 48))
def eG:PC:=PC.fun fun|[.str s]=>some (True,.bool (sB (D7 s)))|_=>none
def Aoa(s:List UInt8):LoopSpec:={
 α:=Nat
 keep:=[0,3]
 vals i:=[.str s,.int .i64 i]
 heap _:=[]
 ok i:=i≤s.length∧allDig (s.take i)=true
 μ i:=s.length - i }
def Pb:List AV→Nat→Option LR:=fun cs i=>match cs with|[.str s]=>cond (Nat.beq i 2) (some (.inv (Aoa s))) (none)|_=>none
theorem Ig{W:World}(hW:Tabs W):GoodP (Fw W) Tryz.prog 238 eG:=by
 have hD:=Bc hW
 have hC0:Ad (Fw W) Tryz.prog Am:=(Be hW)
 refine Ax (D:=A8) (C:=Am) (wr:=(fun _=>false)) rfl Ao hD hC0 Tryz.func238 (Pb) ?_
 clear hC0 hD hW
 intro cs p r h hf hp
 split at h
 case h_2=>cases h
 rename_i s
 cases h
 try simp only[A0,Bg,Ak,Go.Vc.lo,Go.Vc.hi,and_true] at hf
 (conv=>whnf)
 refine⟨?_,fun(i:Nat) (hi:i≤s.length∧allDig (s.take i)=true)=>?_⟩
 ·(conv=>whnf)
  refine⟨(0:Nat),[],?_,⟨⟨rfl,(nB rfl),rfl⟩,?_,?_⟩⟩
  ·exact⟨Nat.zero_le _,by simp[allDig]⟩
  ·exact Ac _
  ·exact tL
 ·obtain⟨h1,h2⟩:=hi
  have ei:(s.getD (Int.toNat (i:Int)) 0).toNat=(s.getD i 0).toNat:=rfl
  have hbad:i<s.length→¬(48≤(s.getD i 0).toNat∧(s.getD i 0).toNat≤57)→D7 s=false:=fun h hc=>by
   unfold D7;rw[V5 h hc];rfl
  have hfin:s.length≤i→D7 s=(s == [48] || (s != []&&s.getD 0 0 != 48)):=fun h=>by
   rw[List.take_of_length_le h] at h2
   unfold D7;rw[h2];rfl
  by_cases hs:s=[]
  ·subst hs
   (conv=>whnf)
   (repeat' ((first
    |with_reducible refine lnI fun hln=>?_
    |fail)<;>(conv=>whnf)))
   all_goals (try (show _=_;simp only[wQ]))
   simp[D7,allDig]
  ·have hpos:0<s.length:=List.length_pos_iff.2 hs
   have e0:s.getD (Int.toNat 0) 0=s.getD 0 0:=rfl
   (conv=>whnf)
   (repeat' ((first
    |((with_reducible refine aI ?_ ?_);focus (first|omega|exact tK))
    |(split<;>rename_i hh<;>(try simp only[wS] at hh))
    |with_reducible refine lnI fun hln=>?_
    |fail)<;>(conv=>whnf)))
   all_goals (try (show _=_;simp only[wQ]))
   all_goals try (rw[hbad (by omega) (by omega)];done)
   ·(conv=>whnf)
    refine⟨(i+1:Nat),[],?_,⟨⟨rfl,(nB rfl),rfl⟩,?_,?_⟩⟩
    ·exact⟨⟨show i+1≤s.length by omega,Ep (by omega) h2 (by omega) (by omega)⟩,show s.length - (i+1)<s.length - i by omega⟩
    ·exact Ac _
    ·exact tL
   ·have h:s=[48]:=by assumption
    rw[hfin (by omega),h];rfl
   ·rw[hfin (by omega),show eqI ((s.getD (Int.toNat 0) 0).toNat:Int) 48=(s.getD 0 0 == 48) from dZ _ 48]
    have a1:(s == [48])=false:=by rw[beq_eq_false_iff_ne];assumption
    have a2:(s != [])=true:=by rw[bne_iff_ne];assumption
    rw[a1,a2];rfl
   ·exact absurd (by assumption) hs
theorem Kl{s:List UInt8}(h:D7 s=true):allDig s=true∧s≠[]∧(∀ t,s=48::t→t=[]):=by
 unfold D7 at h
 simp only[Bool.and_eq_true,Bool.or_eq_true,beq_iff_eq,bne_iff_ne] at h
 obtain⟨h1,h2⟩:=h
 refine⟨h1,?_,?_⟩
 ·rcases h2 with rfl|⟨h2,_⟩
  ·simp
  ·exact h2
 ·rintro t rfl
  rcases h2 with h2|⟨_,h2⟩
  ·simpa using h2
  ·exact absurd rfl h2
theorem eH:∀ (s t:List UInt8),s.length=t.length→allDig s=true→allDig t=true→Op.bytesLess s t=decide (worth s<worth t)
 |[],[],_,_,_=>by simp[Op.bytesLess,worth]
 |[],_::_,h,_,_=>by simp at h
 |_::_,[],h,_,_=>by simp at h
 |a::s,b::t,h,hs,ht=>by
  have hl:s.length=t.length:=by simpa using h
  have h1:=Kg.1 (show Xi a=true by simp[allDig] at hs;exact hs.1)
  have h2:=Kg.1 (show Xi b=true by simp[allDig] at ht;exact ht.1)
  have h3:allDig s=true:=by simp[allDig] at hs ⊢;exact hs.2
  have h4:allDig t=true:=by simp[allDig] at ht ⊢;exact ht.2
  have ih:=eH s t hl h3 h4
  have w1:=K8 h3
  have w2:=K8 h4
  rw[Mx,Mx,hl]
  rw[hl] at w1
  unfold Op.bytesLess
  rw[ih]
  have hp:0<10 ^ t.length:=Nat.pow_pos (by omega)
  generalize 10 ^ t.length=p at*
  rcases Nat.lt_trichotomy a.toNat b.toNat with hlt|heq|hgt
  ·have e1:decide (a<b)=true:=decide_eq_true (UInt8.lt_iff_toNat_lt.2 hlt)
   rw[e1,Bool.true_or];symm;rw[decide_eq_true_eq]
   have:(a.toNat - 48+1)*p≤(b.toNat - 48)*p:=Nat.mul_le_mul_right _ (by omega)
   rw[Nat.add_mul] at this;omega
  ·have e2:a=b:=UInt8.toNat_inj.1 heq
   subst e2
   have e1:decide (a<a)=false:=decide_eq_false (fun h=>by have:=UInt8.lt_iff_toNat_lt.1 h;omega)
   rw[e1,Bool.false_or,beq_self_eq_true,Bool.true_and]
   rw[Bool.eq_iff_iff,decide_eq_true_eq,decide_eq_true_eq];omega
  ·have e1:decide (a<b)=false:=decide_eq_false (fun h=>by have:=UInt8.lt_iff_toNat_lt.1 h;omega)
   have e2:(a == b)=false:=by rw[beq_eq_false_iff_ne];rintro rfl;omega
   rw[e1,e2,Bool.false_or,Bool.false_and];symm;rw[decide_eq_false_iff_not]
   have:(b.toNat - 48+1)*p≤(a.toNat - 48)*p:=Nat.mul_le_mul_right _ (by omega)
   rw[Nat.add_mul] at this;omega
theorem Aaj(a b:Nat)(hab:a≤b):(decDigits a).length≤(decDigits b).length:=by
 rw[decDigits_length,decDigits_length]
 have:=lt_pow_nDigits b
 have:=nDigits_pos b
 exact Nat.le_trans (Ip (nDigits b - 1) a (by rw[show nDigits b - 1+1=nDigits b by omega];omega)) (by omega)
theorem Ae0{s:List UInt8}(h:D7 s=true)(m:Nat):((decDigits m).length<s.length→m<worth s)∧(s.length<(decDigits m).length→worth s<m)∧
  (s.length=(decDigits m).length→(!(Op.bytesLess s (decDigits m) || s == decDigits m))=decide (m<worth s)):=by
 obtain⟨hd,hn,hz⟩:=Kl h
 have hw:=oL hd hn hz
 have hs:(decDigits (worth s)).length=s.length:=by rw[hw]
 refine⟨fun hlt=>Nat.lt_of_not_le fun hle=>by have:=Aaj _ _ hle;omega,fun hlt=>Nat.lt_of_not_le fun hle=>by have:=Aaj _ _ hle;omega,fun heq=>?_⟩
 rw[eH _ _ heq hd (D6 m),Eo]
 by_cases he:worth s=m
 ·have:(s == decDigits m)=true:=by rw[beq_iff_eq,←he,hw]
  rw[this,Bool.or_true];symm;simp;omega
 ·have:(s == decDigits m)=false:=by rw[beq_eq_false_iff_ne];rintro hc;exact he (by rw[hc,Eo])
  rw[this,Bool.or_false,Bool.eq_iff_iff];simp;omega
def xO:PC:=PC.fun fun|[.str s,.int .u64 m]=>some (D7 s=true,.bool (sB (decide (m<worth s))))|_=>none
theorem L3{W:World}(hW:Tabs W):GoodP (Fw W) Tryz.prog 239 xO:=by
 have hD:=H1 hW
 have hC0:Ad (Fw W) Tryz.prog Eh:=(L2 hW)
 refine Ax (D:=Fj) (C:=Eh) (wr:=(fun _=>false)) rfl Ao hD hC0 Tryz.func239 (fun _ _=>none) ?_
 clear hC0 hD hW
 intro cs p r h hf hp
 split at h
 case h_2=>cases h
 rename_i s m
 cases h
 try simp only[A0,Bg,Ak,Go.Vc.lo,Go.Vc.hi,and_true] at hf
 obtain⟨a1,a2,a3⟩:=Ae0 hp m.toNat
 have hm:decide (m.toNat<worth s)=decide (m<(worth s:Int)):=by rw[Bool.eq_iff_iff,decide_eq_true_eq,decide_eq_true_eq];omega
 (conv=>whnf)
 (repeat' ((first
  |((with_reducible refine aI ?_ ?_);focus (with_reducible exact⟨⟩))
  |(split<;>rename_i hh<;>(try simp only[wS] at hh))
  |with_reducible refine lnI fun hln=>?_
  |fail)<;>(conv=>whnf)))
 all_goals (try (show _=_;simp only[wQ]))
 ·symm;rw[decide_eq_true_eq];have:=a1 (by omega);omega
 ·rw[←hm,←a3 (by omega)];rfl
 ·show false=_
  symm;rw[decide_eq_false_iff_not];have:=a2 (by omega);omega
def Aob(s:List UInt8):LoopSpec:={
 α:=Nat
 keep:=[0,3,4]
 vals i:=[.str s,.int .u64 (sI (worth (s.take i))),.int .i64 i]
 heap _:=[]
 ok i:=i≤s.length
 μ i:=s.length - i }
def eI:PC:=PC.fun fun|[.str s]=>some (allDig s=true∧worth s≤18446744073709551615,.int .u64 (sI (worth s)))|_=>none
theorem Lo{s:List UInt8}{i:Nat}(h:i≤s.length):worth (s.take i)≤worth s:=by
 have:=Xj (s.take i) (s.drop i)
 rw[List.take_append_drop] at this
 have hp:1≤10 ^ (s.drop i).length:=Nat.one_le_pow _ _ (by decide)
 have:=Nat.mul_le_mul_left (worth (s.take i)) hp
 omega
def U6:List AV→Nat→Option LR:=fun cs i=>match cs with|[.str s]=>cond (Nat.beq i 3) (some (.inv (Aob s))) (none)|_=>none
theorem L4{W:World}(hW:Tabs W):GoodP (Fw W) Tryz.prog 240 eI:=by
 have hD:=Bc hW
 have hC0:Ad (Fw W) Tryz.prog Am:=(Be hW)
 refine Ax (D:=A8) (C:=Am) (wr:=(fun _=>false)) rfl Ao hD hC0 Tryz.func240 (U6) ?_
 clear hC0 hD hW
 intro cs p r h hf hp
 split at h
 case h_2=>cases h
 rename_i s
 cases h
 try simp only[A0,Bg,Ak,Go.Vc.lo,Go.Vc.hi,and_true] at hf
 obtain⟨hd,hl⟩:=hp
 (conv=>whnf)
 refine⟨?_,fun(i:Nat) (hi:i≤s.length)=>?_⟩
 ·(conv=>whnf)
  refine⟨(0:Nat),[],?_,⟨⟨rfl,(nB rfl),rfl⟩,?_,?_⟩⟩
  ·exact Nat.zero_le _
  ·(conv=>whnf)
   (repeat' ((first|with_reducible exact⟨⟩|((with_reducible refine aI ?_ ?_);focus (exact tA))|with_reducible refine iA ?_ ?_|fail)<;>(conv=>whnf)))
   all_goals (try simp only[wQ])
   all_goals (try first|omega)
   simp[worth]
  ·exact tL
 ·have hw:=Lo hi
  have hdig:i<s.length→48≤(s.getD (Int.toNat (i:Int)) 0).toNat∧(s.getD (Int.toNat (i:Int)) 0).toNat≤57:=fun h=>Q4 h hd
  have hw3:i<s.length→worth (s.take (i+1))=10*worth (s.take i)+((s.getD (Int.toNat (i:Int)) 0).toNat - 48):=fun h=>D3 h
  have hw5:i<s.length→worth (s.take (i+1))≤worth s:=fun h=>Lo (by omega)
  have hsi:=Cm (worth (s.take i))
  (conv=>whnf)
  (repeat' ((first
   |((with_reducible refine aI ?_ ?_);focus (first|with_reducible rfl|omega|exact tK))
   |(split<;>rename_i hh<;>(try simp only[wS] at hh))
   |with_reducible refine lnI fun hln=>?_
   |fail)<;>(conv=>whnf)))
  all_goals (try (show _=_;simp only[wQ]))
  ·(conv=>whnf)
   refine⟨(i+1:Nat),[],?_,⟨⟨rfl,(nB rfl),rfl⟩,?_,?_⟩⟩
   ·exact⟨show i+1≤s.length by omega,show s.length - (i+1)<s.length - i by omega⟩
   ·exact tL
   ·exact tL
  ·rw[List.take_of_length_le (by omega)]
@[irreducible] def Et(s:List UInt8)(m:Int):Int × Int:=if D7 s=true then(if m<(worth s:Int) then(0,5) else((worth s:Int),0)) else(0,4)
def Uf:PC:=PC.fun fun|[.str s,.int .u64 m]=>some (True,.tup [.int .u64 (sI (Et s m).1),.int .i64 (sI (Et s m).2)])|_=>none
def Gl:PT:=C8 [(238,eG),(239,xO),(240,eI)]
theorem J8{W:World}(hW:Tabs W):Ct (Fw W) Tryz.prog Gl:=(Ab Tryz.call238 (Ig hW) (Ab Tryz.call239 (L3 hW) (Ab Tryz.call240 (L4 hW) Av)))
def Gm:FuncId→Option Ctr:=Az Gl []
theorem Ry{W:World}(hW:Tabs W):Ad (Fw W) Tryz.prog Gm:=(Aw (J8 hW))
theorem Rz{W:World}(hW:Tabs W):GoodP (Fw W) Tryz.prog 172 Uf:=by
 have hD:=J8 hW
 have hC0:Ad (Fw W) Tryz.prog Gm:=(Ry hW)
 refine Ax (D:=Gl) (C:=Gm) (wr:=(fun _=>false)) rfl Ao hD hC0 Tryz.func172 (fun _ _=>none) ?_
 clear hC0 hD hW
 intro cs p r h hf hp
 split at h
 case h_2=>cases h
 rename_i s m
 cases h
 try simp only[A0,Bg,Ak,Go.Vc.lo,Go.Vc.hi,and_true] at hf
 by_cases h1:D7 s=true
 ·by_cases h2:m<(worth s:Int)
  ·have e:Et s m=(0,5):=by unfold Et;rw[if_pos h1,if_pos h2]
   (conv=>whnf)
   (repeat' ((first
    |with_reducible exact⟨⟩
    |((with_reducible refine aI ?_ ?_);focus (first|with_reducible exact⟨⟩|with_reducible assumption|with_reducible rfl|omega))
    |(split<;>rename_i hh<;>(try simp only[wS] at hh))
    |with_reducible refine iA ?_ ?_
    |fail)<;>(conv=>whnf)))
   all_goals (try (show _=_;simp only[wQ]))
   all_goals first|(rw[e];done)|(simp_all;done)|skip
  ·have e:Et s m=((worth s:Int),0):=by unfold Et;rw[if_pos h1,if_neg h2]
   have h3:allDig s=true∧worth s≤18446744073709551615:=⟨(Kl h1).1,by omega⟩
   (conv=>whnf)
   (repeat' ((first
    |with_reducible exact⟨⟩
    |((with_reducible refine aI ?_ ?_);focus (first|with_reducible exact⟨⟩|with_reducible assumption|with_reducible rfl|omega))
    |(split<;>rename_i hh<;>(try simp only[wS] at hh))
    |with_reducible refine iA ?_ ?_
    |fail)<;>(conv=>whnf)))
   all_goals (try (show _=_;simp only[wQ]))
   all_goals first|(rw[e];done)|(simp_all;done)|skip
 ·have e:Et s m=(0,4):=by unfold Et;rw[if_neg h1]
  (conv=>whnf)
  (repeat' ((first
   |with_reducible exact⟨⟩
   |((with_reducible refine aI ?_ ?_);focus (first|with_reducible exact⟨⟩|with_reducible assumption|with_reducible rfl))
   |(split<;>rename_i hh<;>(try simp only[wS] at hh))
   |with_reducible refine iA ?_ ?_
   |fail)<;>(conv=>whnf)))
  all_goals (try (show _=_;simp only[wQ]))
  all_goals first|(rw[e];done)|(simp_all;done)|skip
def V9(c b:Int):Int:=if 48≤c∧c≤57 then(if c - 48≥b then -1 else c - 48) else if 97≤c∧c≤102 then(if c - 87≥b then -1 else c - 87) else -1
def Atc:PC:=PC.fun fun|[.int .i32 c,.int .i64 b]=>some (2≤b,.int .i64 (sI (V9 c b)))|_=>none
theorem xP{W:World}(hW:Tabs W):GoodP (Fw W) Tryz.prog 242 Atc:=by
 have hD:=Bc hW
 have hC0:Ad (Fw W) Tryz.prog Am:=(Be hW)
 refine Ax (D:=A8) (C:=Am) (wr:=(fun _=>false)) rfl Ao hD hC0 Tryz.func242 (fun _ _=>none) ?_
 clear hC0 hD hW
 intro cs p r h hf hp
 split at h
 case h_2=>cases h
 rename_i c b
 cases h
 try simp only[A0,Bg,Ak,Go.Vc.lo,Go.Vc.hi,and_true] at hf
 (conv=>whnf)
 (repeat' ((first
  |((with_reducible refine aI ?_ ?_);focus (first|with_reducible rfl|omega|exact tK))
  |(split<;>rename_i hh<;>(try simp only[wS] at hh))
  |fail)<;>(conv=>whnf)))
 all_goals (try (show _=_;simp only[wQ]))
 all_goals (unfold V9;repeat' split)<;>omega
end
end Go.Vc.Z
namespace Go.Vc.Z
open Go Go.Vc Go.Proofs Go.RowKit Go.Pl Go.Lib
noncomputable section
set_option maxRecDepth 100000
attribute [local irreducible] inK Utf8.decode Utf8.encode Lib.itoa Pl.worth Pl.allDig
theorem wrap_u64(n:Int):IntKind.u64.wrap n=n % 18446744073709551616:=by simp[IntKind.wrap,IntKind.bits,IntKind.signed]
def Aky(s:List UInt8)(m:Int):LoopSpec:={
 α:=Nat
 keep:=[1,6,7,23]
 vals i:=[.int .u64 m,.int .u64 (sI ((worth (s.take i) % 18446744073709551616:Nat):Int)),.bool (sB (decide (18446744073709551615<worth (s.take i)))),.iter 0]
 heap i:=[.iter s i]
 ok i:=i≤s.length∧allDig (s.take i)=true
 μ i:=s.length - i }
def M3:PT:=C8 [(242,Atc)]
theorem Sw{W:World}(hW:Tabs W):Ct (Fw W) Tryz.prog M3:=(Ab Tryz.call242 (xP hW) Av)
def M4:FuncId→Option Ctr:=Az M3 []
theorem eJ{W:World}(hW:Tabs W):Ad (Fw W) Tryz.prog M4:=(Aw (Sw hW))
def eK:List AV→Nat→Option LR:=fun cs i=>match cs with|[.str s,.int _ m]=>cond (Nat.beq i 5) (some (.inv (Aky s m))) (none)|_=>none
set_option maxHeartbeats 2000000 in
theorem eM{W:World}(hW:Tabs W):GoodP (Fw W) Tryz.prog 176 Uf:=by
 have hD:=Sw hW
 have hC0:Ad (Fw W) Tryz.prog M4:=(eJ hW)
 refine Ax (D:=M3) (C:=M4) (wr:=(fun t=>Nat.beq t 41 || Nat.beq t 44)) rfl Ao hD hC0 Tryz.func176 (eK) ?_
 clear hC0 hD hW
 intro cs p r h hf hp
 split at h
 case h_2=>cases h
 rename_i s m
 cases h
 try simp only[A0,Bg,Ak,Go.Vc.lo,Go.Vc.hi,and_true] at hf
 have e0:s.getD (Int.toNat 0) 0=s.getD 0 0:=rfl
 have hbyte:∀ c:UInt8,eqI (c.toNat:Int) 48=(c == 48):=fun c=>dZ c 48
 by_cases hs:s=[]
 ·subst hs
  have e:Et [] m=(0,4):=by unfold Et;rw[if_neg (by simp[D7])]
  (conv=>whnf)
  (repeat' ((first
   |with_reducible exact⟨⟩
   |((with_reducible refine aI ?_ ?_);focus (with_reducible rfl))
   |with_reducible refine iA ?_ ?_
   |fail)<;>(conv=>whnf)))
  all_goals (try (show _=_;simp only[wQ]))
  all_goals first|(rw[e];done)|skip
 ·have hpos:0<s.length:=List.length_pos_iff.2 hs
  by_cases hz:((s.getD (Int.toNat 0) 0).toNat:Int)=48∧¬s=[48]
  ·have e:Et s m=(0,4):=by
    unfold Et;rw[if_neg]
    unfold D7
    have a1:(s == [48])=false:=by rw[beq_eq_false_iff_ne];exact hz.2
    have a2:s.getD 0 0=48:=UInt8.toNat_inj.1 (Int.ofNat.inj hz.1)
    rw[a1,a2];simp
   (conv=>whnf)
   (repeat' ((first
    |with_reducible exact⟨⟩
    |((with_reducible refine aI ?_ ?_);focus (first|with_reducible rfl|omega))
    |(split<;>rename_i hh<;>(try simp only[wS] at hh))
    |with_reducible refine iA ?_ ?_
    |fail)<;>(conv=>whnf)))
   all_goals (try (show _=_;simp only[wQ]))
   all_goals first|(rw[e];done)|(simp_all;done)|skip
  ·have hdec:allDig s=true→D7 s=true:=fun h=>by
    unfold D7
    rw[h,Bool.true_and,Bool.or_eq_true,Bool.and_eq_true,beq_iff_eq,bne_iff_ne,bne_iff_ne]
    by_cases h1:s=[48]
    ·exact .inl h1
    ·refine .inr ⟨hs,fun h2=>hz ⟨?_,h1⟩⟩
     rw[e0,h2];rfl
   (conv=>whnf)
   (repeat' ((first
    |with_reducible exact⟨⟩
    |((with_reducible refine aI ?_ ?_);focus (first|with_reducible rfl|omega))
    |(split<;>rename_i hh<;>(try simp only[wS] at hh))
    |with_reducible refine iA ?_ ?_
    |fail)<;>(conv=>whnf)))
   all_goals (try (show _=_;simp only[wQ]))
   all_goals first|exact absurd (by assumption) hs|exact absurd ⟨by assumption,by assumption⟩ hz|skip
   all_goals (
    refine⟨?_,fun(i:Nat) (hi:i≤s.length∧allDig (s.take i)=true)=>?_⟩
    ·(conv=>whnf)
     refine⟨(0:Nat),[],?_,⟨⟨rfl,(nB rfl),rfl⟩,?_,?_⟩⟩
     ·exact⟨Nat.zero_le _,by simp[allDig]⟩
     ·(conv=>whnf)
      (repeat' ((first|with_reducible exact⟨⟩|((with_reducible refine aI ?_ ?_);focus (exact tA))|with_reducible refine iA ?_ ?_|fail)<;>(conv=>whnf)))
      all_goals (try simp only[wQ])
      all_goals simp[worth]
     ·exact tL
    ·obtain⟨h1,h2⟩:=hi
     have hdw:sI (V9 (Bj s i) 10)=V9 (Bj s i) 10:=Cm _
     have hcase:(48≤Bj s i∧Bj s i≤57∧V9 (Bj s i) 10=Bj s i - 48)∨(¬(48≤Bj s i∧Bj s i≤57)∧V9 (Bj s i) 10= -1):=by
      unfold V9;repeat' split
      all_goals omega
     have hbad:i<s.length→¬(48≤Bj s i∧Bj s i≤57)→Et s m=(0,4):=fun h hc=>by
      have:allDig s=false:=V5 h (by rcases Ef h with h6|h6<;>omega)
      unfold Et;rw[if_neg];unfold D7;rw[this];simp
     have hsi:=Cm ((worth (s.take i) % 18446744073709551616:Nat):Int)
     have hE:s.length≤i→Et s m=if m<(worth (s.take i):Int) then(0,5) else((worth (s.take i):Int),0):=fun h=>by
      rw[List.take_of_length_le h] at h2 ⊢
      unfold Et;rw[if_pos (hdec h2)]
     have hE1:s.length≤i→(18446744073709551615<worth (s.take i)∨m<(worth (s.take i):Int))→Et s m=(0,5):=fun h hc=>by rw[hE h,if_pos (by omega)]
     have hE2:s.length≤i→(worth (s.take i):Int)≤m→Et s m=((worth (s.take i):Int),0):=fun h hc=>by rw[hE h,if_neg (by omega)]
     (conv=>whnf)
     (repeat' ((first
      |with_reducible exact⟨⟩
      |((with_reducible refine aI ?_ ?_);focus (first|with_reducible rfl|omega|exact tK))
      |(split<;>rename_i hh<;>(try simp only[wS] at hh))
      |with_reducible refine iA ?_ ?_
      |fail)<;>(conv=>whnf)))
     all_goals (try (show _=_;simp only[wQ]))
     all_goals first|(rw[hbad (by omega) (by omega)];done)|(rw[hE1 (by omega) (by omega)];done)|(rw[hE2 (by omega) (by omega)];done)|(rw[hE2 (by omega) (by omega)];omega)|skip
     all_goals (
      obtain⟨h6,h7,h8⟩:Bj s i=((s.getD i 0).toNat:Int)∧Ai s i=1∧(s.getD i 0).toNat<128:=by
       rcases Ef (l:=s) (p:=i) (by omega) with h6|h6<;>omega
      have hst:=D3 (l:=s) (i:=i) (by omega)
      (conv=>whnf)
      refine⟨(i+1:Nat),[],?_,⟨⟨rfl,(nB rfl),rfl⟩,?_,?_⟩⟩
      ·exact⟨⟨show i+1≤s.length by omega,Ep (by omega) h2 (by omega) (by omega)⟩,show s.length - (i+1)<s.length - i by omega⟩
      ·(conv=>whnf)
       (repeat' ((first|with_reducible exact⟨⟩|((with_reducible refine aI ?_ ?_);focus (exact tA))|with_reducible refine iA ?_ ?_|fail)<;>(conv=>whnf)))
       all_goals (try simp only[wQ])
       all_goals first|(rw[dC,dC,wrap_u64,wrap_u64];omega)|(symm;rw[decide_eq_true_eq];omega)|(show ltI _ _=_;rw[F6,Bool.eq_iff_iff,decide_eq_true_eq,decide_eq_true_eq];omega)
      ·exact tL
      )
    )
@[irreducible] def Aq(s:List UInt8):Int × Bool:=((Et s 9223372036854775807).1,decide ((Et s 9223372036854775807).2=0))
theorem Aak(s:List UInt8)(m:Int)(hm:0≤m):0≤(Et s m).1∧(Et s m).1≤m:=by
 unfold Et;repeat' split
 all_goals (simp only[];omega)
def cP:PC:=PC.fun fun|[.str s]=>some (True,.tup [.int .i64 (sI (Aq s).1),.bool (sB (Aq s).2)])|_=>none
def M5:PT:=C8 [(176,Uf)]
theorem Sx{W:World}(hW:Tabs W):Ct (Fw W) Tryz.prog M5:=(Ab Tryz.call176 (eM hW) Av)
def M6:FuncId→Option Ctr:=Az M5 []
theorem eN{W:World}(hW:Tabs W):Ad (Fw W) Tryz.prog M6:=(Aw (Sx hW))
theorem M7{W:World}(hW:Tabs W):GoodP (Fw W) Tryz.prog 93 cP:=by
 have hD:=Sx hW
 have hC0:Ad (Fw W) Tryz.prog M6:=(eN hW)
 refine Ax (D:=M5) (C:=M6) (wr:=(fun _=>false)) rfl Ao hD hC0 Tryz.func93 (fun _ _=>none) ?_
 clear hC0 hD hW
 intro cs p r h hf hp
 split at h
 case h_2=>cases h
 rename_i s
 cases h
 try simp only[A0,Bg,Ak,Go.Vc.lo,Go.Vc.hi,and_true] at hf
 have h1:=Aak s 9223372036854775807 (by decide)
 have h2:=Cm (Et s 9223372036854775807).1
 have h3:(Aq s).1=(Et s 9223372036854775807).1:=by unfold Aq;rfl
 have h4:(Aq s).2=decide ((Et s 9223372036854775807).2=0):=by unfold Aq;rfl
 (conv=>whnf)
 (repeat' ((first
  |with_reducible exact⟨⟩
  |((with_reducible refine aI ?_ ?_);focus (first|with_reducible exact⟨⟩|with_reducible rfl|exact tK))
  |with_reducible refine iA ?_ ?_
  |fail)<;>(conv=>whnf)))
 all_goals (try (show _=_;simp only[wQ]))
 ·rw[h3]
 ·rw[h4,Bt,Bool.eq_iff_iff,beq_iff_eq,decide_eq_true_eq]
@[irreducible] def A9(s:List UInt8):Int:=if (Et s 4611686018427387904).2=0 then(Et s 4611686018427387904).1 else -1
def cQ:PC:=PC.fun fun|[.str s]=>some (True,.int .i64 (sI (A9 s)))|_=>none
def H3:PT:=C8 [(172,Uf)]
theorem L5{W:World}(hW:Tabs W):Ct (Fw W) Tryz.prog H3:=(Ab Tryz.call172 (Rz hW) Av)
def H4:FuncId→Option Ctr:=Az H3 []
theorem U7{W:World}(hW:Tabs W):Ad (Fw W) Tryz.prog H4:=(Aw (L5 hW))
theorem H5{W:World}(hW:Tabs W):GoodP (Fw W) Tryz.prog 87 cQ:=by
 have hD:=L5 hW
 have hC0:Ad (Fw W) Tryz.prog H4:=(U7 hW)
 refine Ax (D:=H3) (C:=H4) (wr:=(fun _=>false)) rfl Ao hD hC0 Tryz.func87 (fun _ _=>none) ?_
 clear hC0 hD hW
 intro cs p r h hf hp
 split at h
 case h_2=>cases h
 rename_i s
 cases h
 try simp only[A0,Bg,Ak,Go.Vc.lo,Go.Vc.hi,and_true] at hf
 have h1:=Aak s 4611686018427387904 (by decide)
 have h2:=Cm (Et s 4611686018427387904).1
 (conv=>whnf)
 (repeat' ((first
  |((with_reducible refine aI ?_ ?_);focus (first|with_reducible exact⟨⟩|with_reducible rfl|exact tK))
  |(split<;>rename_i hh<;>(try simp only[wS] at hh))
  |fail)<;>(conv=>whnf)))
 all_goals (try (show _=_;simp only[wQ]))
 ·unfold A9;rw[if_neg (by assumption)]
 ·unfold A9;rw[if_pos (by assumption)]
end
end Go.Vc.Z
