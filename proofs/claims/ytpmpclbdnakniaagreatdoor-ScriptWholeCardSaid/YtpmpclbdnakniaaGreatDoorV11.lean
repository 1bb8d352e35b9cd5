/- Numbers: parts, locators, made ones. -/
import Derived.Test.YtpmpclbdnakniaaGreatDoorV10
import Derived.Test.YtpmpclbdnakniaaGreatDoorV8
import Derived.Test.YtpmpclbdnakniaaGreatDoorV9
import Derived.Test.YtpmpclbdnakniaaGreatDoorProg
import Derived.Ground.NamesProg
import Derived.Shelf.Strings.OnBuilder
import Derived.Shelf.Strings.Builder1
import Derived.Shelf.Strconv.Itoa4
set_option linter.all false
set_option linter.unusedVariables false
set_option linter.unusedSimpArgs false
namespace Go.Vc.Z
open Go Go.Vc Go.Proofs Go.RowKit Go.Pl Go.Lib
noncomputable section
set_option maxRecDepth 100000
attribute [local irreducible] inK Utf8.decode Utf8.encode Lib.itoa Pl.worth Pl.allDig
theorem Aj8{n:Int}(h0:0≤n)(h1:n≤18446744073709551615):numOf (decDigits n.toNat)=if 1000000000000≤n∧n≤9999999999999 then(if checkN n=0 then(n,0) else(0,checkN n)) else(0,4):=by
 unfold numOf
 have hw:=F3 n.toNat
 have hl:=Abg n.toNat 12 (by omega)
 by_cases h:1000000000000≤n∧n≤9999999999999
 ·rw[if_pos ⟨hl.2 (by omega),Ed _⟩,if_pos h,hw,show((n.toNat:Nat):Int)=n by omega]
 ·rw[if_neg (fun hh=>h (by have:=hl.1 hh.1;omega)),if_neg h]
def He:PT:=C2 [(81,Sm),(88,Avu)]
theorem L1{W:World}(hW:Tabs W):Cl (Fw W) Tryz.prog He:=(Ab Tryz.call81 (K2 hW) (Ab Tryz.call88 (Zs hW) As))
def Hf:FuncId→Option Ctr:=Aw He []
theorem U0{W:World}(hW:Tabs W):Ad (Fw W) Tryz.prog Hf:=(Au (L1 hW))
theorem U1{W:World}(hW:Tabs W):GoodP (Fw W) Tryz.prog 135 T9:=by
 have hD:=L1 hW
 have hC0:Ad (Fw W) Tryz.prog Hf:=(U0 hW)
 refine Az (D:=He) (C:=Hf) (wr:=(fun _=>false)) rfl Ap hD hC0 Tryz.func135 (fun _ _=>none) ?_
 clear hC0 hD hW
 intro cs p r h hf hp
 split at h
 case h_2=>cases h
 rename_i n
 cases h
 try simp only[Ax,Bh,Am,Go.Vc.lo,Go.Vc.hi,and_true] at hf
 have hx:=Aj8 hf.1 hf.2
 have h2: ¬(1000000000000≤n∧n≤9999999999999)→checkN n=2:=fun h=>by unfold checkN;rw[if_pos (by omega)]
 have h3:(1000000000000≤n∧n≤9999999999999)→checkN n≠4:=fun h=>by rw[fI h.1 h.2];split<;>omega
 have h4:(numOf (decDigits n.toNat)).2=4→checkN n=2:=fun h=>by
  rw[hx] at h
  by_cases hc:1000000000000≤n∧n≤9999999999999
  ·rw[if_pos hc] at h;split at h
   ·cases h
   ·exact absurd h (h3 hc)
  ·exact h2 hc
 have h5: ¬(numOf (decDigits n.toNat)).2=4→(numOf (decDigits n.toNat)).2=checkN n:=fun h=>by
  rw[hx] at h ⊢
  by_cases hc:1000000000000≤n∧n≤9999999999999
  ·rw[if_pos hc];split
   ·rename_i h6;exact h6.symm
   ·rfl
  ·rw[if_neg hc] at h;exact absurd rfl h
 (conv=>whnf)
 (repeat' ((first
  |((with_reducible refine aI ?_ ?_);focus (first|with_reducible exact⟨⟩|with_reducible rfl))
  |(split<;>rename_i hh<;>(try simp only[wS] at hh))
  |fail)<;>(conv=>whnf)))
 all_goals (try (show _=_;simp only[wQ]))
 ·exact h5 (by assumption)
 ·rw[h4 (by assumption)]
def Pv(c:UInt8):Bool:=(decide (65≤c.toNat)&&decide (c.toNat≤90)) || (decide (50≤c.toNat)&&decide (c.toNat≤57))
@[irreducible] def Fx(s:List UInt8):Bool:=s.all Pv&&decide (s.length=6)
def Pw:PC:=PC.fun fun|[.str s]=>some (True,.bool (sB (Fx s)))|_=>none
def A4l(s:List UInt8):LoopSpec:={
 α:=Nat
 keep:=[0,6]
 vals i:=[.str s,.iter 0]
 heap i:=[.iter s i]
 ok i:=i≤s.length∧(s.take i).all Pv=true
 μ i:=s.length - i }
def Zt:List AV→Nat→Option LR:=fun cs i=>match cs with|[.str s]=>cond (Nat.beq i 2) (some (.inv (A4l s))) (none)|_=>none
theorem Px{W:World}(hW:Tabs W):GoodP (Fw W) Tryz.prog 195 Pw:=by
 have hD:=A9 hW
 have hC0:Ad (Fw W) Tryz.prog An:=(Bc hW)
 refine Az (D:=A8) (C:=An) (wr:=(fun _=>false)) rfl Ap hD hC0 Tryz.func195 (Zt) ?_
 clear hC0 hD hW
 intro cs p r h hf hp
 split at h
 case h_2=>cases h
 rename_i s
 cases h
 try simp only[Ax,Bh,Am,Go.Vc.lo,Go.Vc.hi,and_true] at hf
 (conv=>whnf)
 refine⟨?_,fun(i:Nat) (hi:i≤s.length∧(s.take i).all Pv=true)=>?_⟩
 ·(conv=>whnf)
  refine⟨(0:Nat),[],?_,⟨⟨rfl,(nB rfl),rfl⟩,?_,?_⟩⟩
  ·exact⟨Nat.zero_le _,rfl⟩
  ·exact tL
  ·exact tL
 ·obtain⟨h1,h2⟩:=hi
  have hbad:i<s.length→¬(65≤Bg s i∧Bg s i≤90∨50≤Bg s i∧Bg s i≤57)→Fx s=false:=fun h hc=>by
   have:Pv (s.getD i 0)=false:=by
    simp only[Pv,Bool.or_eq_false_iff,Bool.and_eq_false_iff,decide_eq_false_iff_not]
    rcases D4 h with h6|h6<;>omega
   unfold Fx;rw[Mw h this];rfl
  have hgood:i<s.length→(65≤Bg s i∧Bg s i≤90∨50≤Bg s i∧Bg s i≤57)→(s.take (i+1)).all Pv=true∧Ai s i=1:=fun h hc=>by
   rcases D4 h with h6|h6
   ·refine⟨?_,h6.2.1⟩
    rw[Ho h,h2,Bool.true_and]
    simp only[Pv,Bool.or_eq_true,Bool.and_eq_true,decide_eq_true_eq];omega
   ·omega
  have hfin:s.length≤i→Fx s=decide (s.length=6):=fun h=>by
   rw[List.take_of_length_le h] at h2
   unfold Fx;rw[h2];rfl
  (conv=>whnf)
  (repeat' ((first
   |(split<;>rename_i hh<;>(try simp only[wS] at hh))
   |with_reducible refine lnI fun hln=>?_
   |fail)<;>(conv=>whnf)))
  all_goals (try (show _=_;simp only[wQ]))
  all_goals try (rw[hbad (by omega) (by omega)];done)
  all_goals try (
   obtain⟨g1,g2⟩:=hgood (by omega) (by omega)
   (conv=>whnf)
   refine⟨(i+1:Nat),[],?_,⟨⟨rfl,(nB rfl),rfl⟩,?_,?_⟩⟩
   ·exact⟨⟨show i+1≤s.length by omega,g1⟩,show s.length - (i+1)<s.length - i by omega⟩
   ·exact tL
   ·exact tL
   )
  ·rw[hfin (by omega),Be,Bool.eq_iff_iff,beq_iff_eq,decide_eq_true_eq];omega
def A1y(s:List UInt8):LoopSpec:={
 α:=Nat
 keep:=[0,3]
 vals i:=[.str s,.int .i64 i]
 heap _:=[]
 ok i:=i≤s.length∧(s.take i).all Pv=true
 μ i:=s.length - i }
def Rs:List AV→Nat→Option LR:=fun cs i=>match cs with|[.str s]=>cond (Nat.beq i 2) (some (.inv (A1y s))) (none)|_=>none
theorem Rt{W:World}(hW:Tabs W):GoodP (Fw W) Tryz.prog 64 Pw:=by
 have hD:=A9 hW
 have hC0:Ad (Fw W) Tryz.prog An:=(Bc hW)
 refine Az (D:=A8) (C:=An) (wr:=(fun _=>false)) rfl Ap hD hC0 Tryz.func64 (Rs) ?_
 clear hC0 hD hW
 intro cs p r h hf hp
 split at h
 case h_2=>cases h
 rename_i s
 cases h
 try simp only[Ax,Bh,Am,Go.Vc.lo,Go.Vc.hi,and_true] at hf
 (conv=>whnf)
 refine⟨?_,fun(i:Nat) (hi:i≤s.length∧(s.take i).all Pv=true)=>?_⟩
 ·(conv=>whnf)
  refine⟨(0:Nat),[],?_,⟨⟨rfl,(nB rfl),rfl⟩,?_,?_⟩⟩
  ·exact⟨Nat.zero_le _,rfl⟩
  ·exact Ac _
  ·exact tL
 ·obtain⟨h1,h2⟩:=hi
  have ei:(s.getD (Int.toNat (i:Int)) 0).toNat=(s.getD i 0).toNat:=rfl
  have hbad:i<s.length→¬(65≤(s.getD i 0).toNat∧(s.getD i 0).toNat≤90∨50≤(s.getD i 0).toNat∧(s.getD i 0).toNat≤57)→Fx s=false:=fun h hc=>by
   have:Pv (s.getD i 0)=false:=by
    simp only[Pv,Bool.or_eq_false_iff,Bool.and_eq_false_iff,decide_eq_false_iff_not];omega
   unfold Fx;rw[Mw h this];rfl
  have hgood:i<s.length→(65≤(s.getD i 0).toNat∧(s.getD i 0).toNat≤90∨50≤(s.getD i 0).toNat∧(s.getD i 0).toNat≤57)→(s.take (i+1)).all Pv=true:=fun h hc=>by
   rw[Ho h,h2,Bool.true_and]
   simp only[Pv,Bool.or_eq_true,Bool.and_eq_true,decide_eq_true_eq];omega
  have hfin:s.length≤i→Fx s=decide (s.length=6):=fun h=>by
   rw[List.take_of_length_le h] at h2
   unfold Fx;rw[h2];rfl
  (conv=>whnf)
  (repeat' ((first
   |((with_reducible refine aI ?_ ?_);focus (first|omega|exact tK))
   |(split<;>rename_i hh<;>(try simp only[wS] at hh))
   |with_reducible refine lnI fun hln=>?_
   |fail)<;>(conv=>whnf)))
  all_goals (try (show _=_;simp only[wQ]))
  all_goals try (rw[hbad (by omega) (by omega)];done)
  all_goals try (
   have g1:=hgood (by omega) (by omega)
   (conv=>whnf)
   refine⟨(i+1:Nat),[],?_,⟨⟨rfl,(nB rfl),rfl⟩,?_,?_⟩⟩
   ·exact⟨⟨show i+1≤s.length by omega,g1⟩,show s.length - (i+1)<s.length - i by omega⟩
   ·exact Ac _
   ·exact tL
   )
  ·rw[hfin (by omega),Be,Bool.eq_iff_iff,beq_iff_eq,decide_eq_true_eq];omega
def O0:PT:=C2 [(292,L9),(293,bE)]
theorem Vi{W:World}(hW:Tabs W):Cl (Fw W) Tryz.prog O0:=(Ab Tryz.call292 (Uv hW) (Ab Tryz.call293 (V7 hW) As))
def O1:FuncId→Option Ctr:=Aw O0 []
theorem oF{W:World}(hW:Tabs W):Ad (Fw W) Tryz.prog O1:=(Au (Vi hW))
end
end Go.Vc.Z
namespace Go.Vc.Z
open Go Go.Vc Go.Proofs Go.RowKit Go.Pl Go.Lib
noncomputable section
set_option maxRecDepth 100000
attribute [local irreducible] inK Utf8.decode Utf8.encode Lib.itoa Pl.worth Pl.allDig
@[irreducible] def Ir(s:Int):Bool:=decide (1≤s)&&decide (s≤9)
theorem Sp{s:Int}:Ir s=true↔1≤s∧s≤9:=by unfold Ir;simp
theorem Qs{s:Int}(h:Ir s=true):s=1∨s=2∨s=3∨s=4∨s=5∨s=6∨s=7∨s=8∨s=9:=by have:=Sp.1 h;omega
def fK:PC:=PC.fun fun|[.int .i64 s]=>some (True,.bool (sB (Ir s)))|_=>none
theorem zA{W:World}(hW:Tabs W):GoodP (Fw W) Tryz.prog 133 fK:=by
 have hD:=A9 hW
 have hC0:Ad (Fw W) Tryz.prog An:=(Bc hW)
 refine Az (D:=A8) (C:=An) (wr:=(fun _=>false)) rfl Ap hD hC0 Tryz.func133 (fun _ _=>none) ?_
 clear hC0 hD hW
 intro cs p r h hf hp
 split at h
 case h_2=>cases h
 rename_i s
 cases h
 try simp only[Ax,Bh,Am,Go.Vc.lo,Go.Vc.hi,and_true] at hf
 (conv=>whnf)
 (repeat' ((first
  |(split<;>rename_i hh<;>(try simp only[wS] at hh))
  |fail)<;>(conv=>whnf)))
 all_goals (try (show _=_;simp only[wQ]))
 all_goals (try simp (disch:=omega) only[Int.tdiv_eq_ediv_of_nonneg,Int.tmod_eq_emod_of_nonneg]);all_goals (first|(simp_all[Cg,Bd,A0,Dr,Ca,Be,Ir];done)|(simp_all[Cg,Bd,A0,Dr,Ca,Be,Ir];omega))
theorem Oc{W:World}(hW:Tabs W):GoodP (Fw W) Tryz.prog 69 fK:=by
 have hD:=A9 hW
 have hC0:Ad (Fw W) Tryz.prog An:=(Bc hW)
 refine Az (D:=A8) (C:=An) (wr:=(fun _=>false)) rfl Ap hD hC0 Tryz.func69 (fun _ _=>none) ?_
 clear hC0 hD hW
 intro cs p r h hf hp
 split at h
 case h_2=>cases h
 rename_i s
 cases h
 try simp only[Ax,Bh,Am,Go.Vc.lo,Go.Vc.hi,and_true] at hf
 (conv=>whnf)
 (repeat' ((first
  |(split<;>rename_i hh<;>(try simp only[wS] at hh))
  |fail)<;>(conv=>whnf)))
 all_goals (try (show _=_;simp only[wQ]))
 all_goals (try simp (disch:=omega) only[Int.tdiv_eq_ediv_of_nonneg,Int.tmod_eq_emod_of_nonneg]);all_goals (first|(simp_all[Cg,Bd,A0,Dr,Ca,Be,Ir];done)|(simp_all[Cg,Bd,A0,Dr,Ca,Be,Ir];omega))
def stL:List UInt8:=[79,67,76,70,69,82,86,83,65]
@[irreducible] def Dg(s:Int):List UInt8:=if Ir s=true then(stL.drop (s - 1).toNat).take 1 else []
def Xl:PC:=PC.fun fun|[.int .i64 s]=>some (True,.str (sS (Dg s)))|_=>none
def Ln:PT:=C2 [(133,fK)]
theorem Rj{W:World}(hW:Tabs W):Cl (Fw W) Tryz.prog Ln:=(Ab Tryz.call133 (zA hW) As)
def Lo:FuncId→Option Ctr:=Aw Ln []
theorem cT{W:World}(hW:Tabs W):Ad (Fw W) Tryz.prog Lo:=(Au (Rj hW))
theorem cU{W:World}(hW:Tabs W):GoodP (Fw W) Tryz.prog 61 Xl:=by
 have hD:=Rj hW
 have hC0:Ad (Fw W) Tryz.prog Lo:=(cT hW)
 refine Az (D:=Ln) (C:=Lo) (wr:=(fun _=>false)) rfl Ap hD hC0 Tryz.func61 (fun _ _=>none) ?_
 clear hC0 hD hW
 intro cs p r h hf hp
 split at h
 case h_2=>cases h
 rename_i s
 cases h
 try simp only[Ax,Bh,Am,Go.Vc.lo,Go.Vc.hi,and_true] at hf
 have hi:=Sp (s:=s)
 (conv=>whnf)
 (repeat' ((first
  |((with_reducible refine aI ?_ ?_);focus (with_reducible exact⟨⟩))
  |(split<;>rename_i hh<;>(try simp only[wS] at hh))
  |fail)<;>(conv=>whnf)))
 all_goals (try (show _=_;simp only[wQ]))
 ·unfold Dg;rw[if_neg (by simp_all)]
 ·have:=hi.1 (by assumption)
  (conv=>whnf)
  (repeat' ((first
   |((with_reducible refine aI ?_ ?_);focus (first|omega|exact tK|(simp only[List.length_append,bytesOf_length,List.toList_toArray,List.length_cons,List.length_nil,List.length_take,List.length_drop,A0];omega)))
   |fail)<;>(conv=>whnf)))
  all_goals (try (show _=_;simp only[wQ]))
  unfold Dg
  rw[if_pos (by assumption)]
  show(stL.drop (s - 1).toNat).take (s.toNat - (s - 1).toNat)=_
  congr 1;omega
def Ahj:List (List UInt8):=[[79,67,69,82,86,83,65],[67,79,76],[76,67,70],[70],[69],[82],[86],[83,79,82],[65,79,70]]
def Amn:PC:=PC.fun fun|[]=>some (True,.sl false 1 9 (fun e=>[.str (Ahj.getD e [])]))|_=>none
theorem V8{W:World}(hW:Tabs W):GoodP (Fw W) Tryz.prog 169 Amn:=by
 have hD:=A9 hW
 have hC0:Ad (Fw W) Tryz.prog An:=(Bc hW)
 refine Az (D:=A8) (C:=An) (wr:=(fun _=>false)) rfl Ap hD hC0 Tryz.func169 (fun _ _=>none) ?_
 clear hC0 hD hW
 intro cs p r h hf hp
 split at h
 case h_2=>cases h
 skip
 cases h
 try simp only[Ax,Bh,Am,Go.Vc.lo,Go.Vc.hi,and_true] at hf
 (conv=>whnf)
 (repeat' ((first
  |((with_reducible refine aI ?_ ?_);focus (first|with_reducible rfl|decide))
  |fail)<;>(conv=>whnf)))
 intro e he
 match e,he with
 |0,_=>first|rfl|exact⟨rfl,rfl⟩
 |1,_=>first|rfl|exact⟨rfl,rfl⟩
 |2,_=>first|rfl|exact⟨rfl,rfl⟩
 |3,_=>first|rfl|exact⟨rfl,rfl⟩
 |4,_=>first|rfl|exact⟨rfl,rfl⟩
 |5,_=>first|rfl|exact⟨rfl,rfl⟩
 |6,_=>first|rfl|exact⟨rfl,rfl⟩
 |7,_=>first|rfl|exact⟨rfl,rfl⟩
 |8,_=>first|rfl|exact⟨rfl,rfl⟩
 |e+9,he=>exact absurd he (by omega)
theorem Abl{s:Int}(h:Ir s=true):(Ahj.getD (s - 1).toNat []).take 1=Dg s∧1≤(Ahj.getD (s - 1).toNat []).length:=by
 unfold Dg;rw[if_pos h]
 rcases Qs h with rfl|rfl|rfl|rfl|rfl|rfl|rfl|rfl|rfl<;>exact⟨rfl,by decide⟩
def Gq:PT:=C2 [(69,fK),(169,Amn)]
theorem K3{W:World}(hW:Tabs W):Cl (Fw W) Tryz.prog Gq:=(Ab Tryz.call69 (Oc hW) (Ab Tryz.call169 (V8 hW) As))
def Gr:FuncId→Option Ctr:=Aw Gq []
theorem Sq{W:World}(hW:Tabs W):Ad (Fw W) Tryz.prog Gr:=(Au (K3 hW))
theorem Sr{W:World}(hW:Tabs W):GoodP (Fw W) Tryz.prog 82 Xl:=by
 have hD:=K3 hW
 have hC0:Ad (Fw W) Tryz.prog Gr:=(Sq hW)
 refine Az (D:=Gq) (C:=Gr) (wr:=(fun _=>false)) rfl Ap hD hC0 Tryz.func82 (fun _ _=>none) ?_
 clear hC0 hD hW
 intro cs p r h hf hp
 split at h
 case h_2=>cases h
 rename_i s
 cases h
 try simp only[Ax,Bh,Am,Go.Vc.lo,Go.Vc.hi,and_true] at hf
 have hi:=Sp (s:=s)
 have hr:=Abl (s:=s)
 (conv=>whnf)
 (repeat' ((first
  |((with_reducible refine aI ?_ ?_);focus (with_reducible exact⟨⟩))
  |(split<;>rename_i hh<;>(try simp only[wS] at hh))
  |fail)<;>(conv=>whnf)))
 all_goals (try (show _=_;simp only[wQ]))
 ·unfold Dg;rw[if_neg (by simp_all)]
 ·have h1:=hi.1 (by assumption)
  have h2:=hr (by assumption)
  have h3:Int.toNat 1≤(Ahj.getD (s - 1).toNat []).length:=h2.2
  (conv=>whnf)
  (repeat' ((first
   |((with_reducible refine aI ?_ ?_);focus (first|omega|exact tK))
   |fail)<;>(conv=>whnf)))
  all_goals (try (show _=_;simp only[wQ]))
  exact h2.1
theorem Af4{s:Int}(h:Ir s=true):∃ c,Dg s=[c]∧stL[(s - 1).toNat]? =some c:=by
 unfold Dg;rw[if_pos h]
 rcases Qs h with rfl|rfl|rfl|rfl|rfl|rfl|rfl|rfl|rfl<;>exact⟨_,rfl,rfl⟩
end
end Go.Vc.Z
namespace Go.Vc.Z
open Go Go.Vc Go.Proofs Go.RowKit Go.Pl Go.Lib
noncomputable section
set_option maxRecDepth 100000
attribute [local irreducible] inK Utf8.decode Utf8.encode Lib.itoa Pl.worth Pl.allDig
@[irreducible] def Fy(n:Int):Bool:=decide (0≤n)&&decide (n≤1000000)
@[irreducible] def Do(n:Int):Bool:=decide (-1000000000000≤n)&&decide (n≤1000000000000)
@[irreducible] def Dh(n:Int):Bool:=decide (0≤n)&&decide (n≤1000000000000)
@[irreducible] def Ee(n:Int):Bool:=decide (checkN n=0)
def Amo:PC:=PC.fun fun|[.int .i64 n]=>some (True,.bool (sB (Fy n)))|_=>none
def zB:PC:=PC.fun fun|[.int .i64 n]=>some (True,.bool (sB (Do n)))|_=>none
def zC:PC:=PC.fun fun|[.int .i64 n]=>some (True,.bool (sB (Dh n)))|_=>none
def Amp:PC:=PC.fun fun|[.int .u64 n]=>some (True,.bool (sB (Ee n)))|_=>none
theorem Od{W:World}(hW:Tabs W):GoodP (Fw W) Tryz.prog 138 Amo:=by
 have hD:=A9 hW
 have hC0:Ad (Fw W) Tryz.prog An:=(Bc hW)
 refine Az (D:=A8) (C:=An) (wr:=(fun _=>false)) rfl Ap hD hC0 Tryz.func138 (fun _ _=>none) ?_
 clear hC0 hD hW
 intro cs p r h hf hp
 split at h
 case h_2=>cases h
 rename_i n
 cases h
 try simp only[Ax,Bh,Am,Go.Vc.lo,Go.Vc.hi,and_true] at hf
 (conv=>whnf)
 (repeat' ((first
  |(split<;>rename_i hh<;>(try simp only[wS] at hh))
  |fail)<;>(conv=>whnf)))
 all_goals (try (show _=_;simp only[wQ]))
 all_goals (try simp (disch:=omega) only[Int.tdiv_eq_ediv_of_nonneg,Int.tmod_eq_emod_of_nonneg]);all_goals (first|(simp_all[Cg,Bd,A0,Dr,Ca,Be,Fy];done)|(simp_all[Cg,Bd,A0,Dr,Ca,Be,Fy];omega))
theorem fL{W:World}(hW:Tabs W):GoodP (Fw W) Tryz.prog 207 zB:=by
 have hD:=A9 hW
 have hC0:Ad (Fw W) Tryz.prog An:=(Bc hW)
 refine Az (D:=A8) (C:=An) (wr:=(fun _=>false)) rfl Ap hD hC0 Tryz.func207 (fun _ _=>none) ?_
 clear hC0 hD hW
 intro cs p r h hf hp
 split at h
 case h_2=>cases h
 rename_i n
 cases h
 try simp only[Ax,Bh,Am,Go.Vc.lo,Go.Vc.hi,and_true] at hf
 (conv=>whnf)
 (repeat' ((first
  |(split<;>rename_i hh<;>(try simp only[wS] at hh))
  |fail)<;>(conv=>whnf)))
 all_goals (try (show _=_;simp only[wQ]))
 all_goals (try simp (disch:=omega) only[Int.tdiv_eq_ediv_of_nonneg,Int.tmod_eq_emod_of_nonneg]);all_goals (first|(simp_all[Cg,Bd,A0,Dr,Ca,Be,Do];done)|(simp_all[Cg,Bd,A0,Dr,Ca,Be,Do];omega))
def Hp:PT:=C2 [(207,zB)]
theorem O2{W:World}(hW:Tabs W):Cl (Fw W) Tryz.prog Hp:=(Ab Tryz.call207 (fL hW) As)
theorem H1{W:World}(hW:Tabs W):GoodP (Fw W) Tryz.prog 139 zC:=by
 have hD:=A9 hW
 have hC0:Ad (Fw W) Tryz.prog An:=(Bc hW)
 refine Az (D:=A8) (C:=An) (wr:=(fun _=>false)) rfl Ap hD hC0 Tryz.func139 (fun _ _=>none) ?_
 clear hC0 hD hW
 intro cs p r h hf hp
 split at h
 case h_2=>cases h
 rename_i n
 cases h
 try simp only[Ax,Bh,Am,Go.Vc.lo,Go.Vc.hi,and_true] at hf
 (conv=>whnf)
 (repeat' ((first
  |(split<;>rename_i hh<;>(try simp only[wS] at hh))
  |fail)<;>(conv=>whnf)))
 all_goals (try (show _=_;simp only[wQ]))
 all_goals (try simp (disch:=omega) only[Int.tdiv_eq_ediv_of_nonneg,Int.tmod_eq_emod_of_nonneg]);all_goals (first|(simp_all[Cg,Bd,A0,Dr,Ca,Be,Dh];done)|(simp_all[Cg,Bd,A0,Dr,Ca,Be,Dh];omega))
def Fj:PT:=C2 [(135,T9)]
theorem Iw{W:World}(hW:Tabs W):Cl (Fw W) Tryz.prog Fj:=(Ab Tryz.call135 (U1 hW) As)
def Fl:FuncId→Option Ctr:=Aw Fj []
theorem Qt{W:World}(hW:Tabs W):Ad (Fw W) Tryz.prog Fl:=(Au (Iw hW))
theorem Qu{W:World}(hW:Tabs W):GoodP (Fw W) Tryz.prog 63 Amp:=by
 have hD:=Iw hW
 have hC0:Ad (Fw W) Tryz.prog Fl:=(Qt hW)
 refine Az (D:=Fj) (C:=Fl) (wr:=(fun _=>false)) rfl Ap hD hC0 Tryz.func63 (fun _ _=>none) ?_
 clear hC0 hD hW
 intro cs p r h hf hp
 split at h
 case h_2=>cases h
 rename_i n
 cases h
 try simp only[Ax,Bh,Am,Go.Vc.lo,Go.Vc.hi,and_true] at hf
 (conv=>whnf)
 (repeat' ((first
  |((with_reducible refine aI ?_ ?_);focus (with_reducible exact⟨⟩))
  |fail)<;>(conv=>whnf)))
 all_goals (try (show _=_;simp only[wQ]))
 all_goals (try simp (disch:=omega) only[Int.tdiv_eq_ediv_of_nonneg,Int.tmod_eq_emod_of_nonneg]);all_goals (first|(rw[Bool.eq_iff_iff];simp[Cg,Bd,A0,Dr,Ca,Be,Ee];done))
end
end Go.Vc.Z
namespace Go.Vc.Z
open Go Go.Vc Go.Proofs Go.RowKit Go.Pl Go.Lib
noncomputable section
set_option maxRecDepth 100000
attribute [local irreducible] inK Utf8.decode Utf8.encode Lib.itoa Pl.worth Pl.allDig
def Cs:Int→List Tax→Bool
 |_,[]=>true
 |least,x::t=>decide (least≤x.code)&&decide (x.code≤99)&&Dh x.amount&&Cs (x.code+1) t
@[irreducible] def De(l:List Tax):Bool:=Cs 1 l&&decide (l.length≤4)
def Ahk:PC:=PC.of (fun l:List Tax=>[slE 2 Tax.enc l]) (fun _=>True) (fun l=>.bool (sB (De l)))
theorem pU{α:Type}[Inhabited α]{l:List α}{i:Nat}(h:i<l.length):l.drop i=l.getD i default::l.drop (i+1):=by
 rw[List.drop_eq_getElem_cons h,List.getD_eq_getElem?_getD,List.getElem?_eq_getElem h];rfl
end
end Go.Vc.Z
namespace Go.Vc.Z
open Go Go.Vc Go.Proofs Go.RowKit Go.Pl Go.Lib
noncomputable section
set_option maxRecDepth 100000
attribute [local irreducible] inK Utf8.decode Utf8.encode Lib.itoa Pl.worth Pl.allDig
end
end Go.Vc.Z
namespace Go.Vc.Z
open Go Go.Vc Go.Proofs Go.RowKit Go.Pl Go.Lib
noncomputable section
set_option maxRecDepth 100000
attribute [local irreducible] inK Utf8.decode Utf8.encode Lib.itoa Pl.worth Pl.allDig
theorem Eh{n:Int}(h:Fy n=true):0≤n∧n≤1000000:=by
 unfold Fy at h;simp at h;omega
end
end Go.Vc.Z
namespace Go.Vc.Z
open Go Go.Vc Go.Proofs Go.RowKit Go.Pl Go.Lib
noncomputable section
set_option maxRecDepth 100000
attribute [local irreducible] inK Utf8.decode Utf8.encode Lib.itoa Pl.worth Pl.allDig
end
end Go.Vc.Z
namespace Go.Vc.Z
open Go Go.Vc Go.Proofs Go.RowKit Go.Pl Go.Lib
noncomputable section
set_option maxRecDepth 100000
attribute [local irreducible] inK Utf8.decode Utf8.encode Lib.itoa Pl.worth Pl.allDig
@[irreducible] def Hg(c:Coupon)(s:Int):Bool:=
 decide (1≤c.flight)&&decide (c.flight≤9999)&&Fy c.day&&Dh c.value&&decide (c.status=s)&&decide (c.holder=0)&&decide (c.next=0)
theorem fM(k:Nat)(f d v s h x f' d' v' s' h' x':Int):eqA TY (k+3) 45 (.agg [.int .i64 f,.int .i64 d,.int .i64 v,.int .i64 s,.int .i64 h,.int .u64 x]) (.agg [.int .i64 f',.int .i64 d',.int .i64 v',.int .i64 s',.int .i64 h',.int .u64 x'])=some (f == f'&&(d == d'&&(v == v'&&(s == s'&&(h == h'&&x == x'))))):=by
 have e45:TY 45=some Cu:=rfl
 have e3:TY 3=some ty3:=rfl
 have e2:TY 2=some ty2:=rfl
 have e43:TY 43=some Cp:=rfl
 have e37:TY 37=some Co:=rfl
 simp[eqA,Aae,e45,e3,e2,e43,e37,Cu,ty3,ty2,Cp,Co,Ml,Be]
theorem Oe{k:Nat}{f d v s h x f' d' v' s' h' x':Int}{N:Bool→Prop}(hN:N (f == f'&&(d == d'&&(v == v'&&(s == s'&&(h == h'&&x == x')))))):Hz (eqA TY (k+3) 45 (.agg [.int .i64 f,.int .i64 d,.int .i64 v,.int .i64 s,.int .i64 h,.int .u64 x]) (.agg [.int .i64 f',.int .i64 d',.int .i64 v',.int .i64 s',.int .i64 h',.int .u64 x'])) N:=by
 rw[fM];exact hN
def Ahl:PC:=PC.of (fun x:Coupon × Int=>[.agg x.1.enc,.int .i64 x.2]) (fun _=>True) (fun x=>.bool (sB (Hg x.1 x.2)))
def Hh:PT:=C2 [(138,Amo),(139,zC)]
theorem L2{W:World}(hW:Tabs W):Cl (Fw W) Tryz.prog Hh:=(Ab Tryz.call138 (Od hW) (Ab Tryz.call139 (H1 hW) As))
def Hi:FuncId→Option Ctr:=Aw Hh []
theorem U2{W:World}(hW:Tabs W):Ad (Fw W) Tryz.prog Hi:=(Au (L2 hW))
set_option maxHeartbeats 2000000 in
theorem U3{W:World}(hW:Tabs W):GoodP (Fw W) Tryz.prog 70 Ahl:=by
 have hD:=L2 hW
 have hC0:∀ x:Coupon × Int,Ad (Fw W) Tryz.prog Hi:=fun x=>(U2 hW)
 refine Ar (D:=Hh) (C:=fun x=>Hi) (wr:=(fun _=>false)) rfl Ap hD hC0 Tryz.func70 (fun _ _=>none) (fun _=>rfl) ?_
 rintro⟨c,s⟩ hf hp
 clear hf
 (conv=>whnf)
 (repeat' ((first
  |((with_reducible refine aI ?_ ?_);focus (with_reducible exact⟨⟩))
  |(split<;>rename_i hh<;>(try simp only[wS] at hh))
  |fail)<;>(conv=>whnf)))
 all_goals (try (show _=_;simp only[wQ]))
 all_goals (unfold Hg;first|(simp_all[Dr,Ca,Be];done)|(rw[Bool.eq_iff_iff];simp_all[Dr,Ca,Be];done)|(rw[Bool.eq_iff_iff];simp_all[Dr,Ca,Be];omega))
def cellOf(H:List Blk)(p k:Nat):Option AV:=match H[p]? with|some (.var cs _)=>cs[k]? |_=>none
def Dj(g:Bool)(lo n hi:Int):Bool:=g&&(leI lo n&&leI n hi)
theorem C4{g:Bool}{lo n hi:Int}(h:n<lo):false=Dj g lo n hi:=by
 unfold Dj;rw[Ca,decide_eq_false (by omega)];simp
theorem C5{lo n hi:Int}(h:lo≤n):leI n hi=Dj true lo n hi:=by
 unfold Dj;rw[Ca lo,decide_eq_true h];simp
theorem Abm{TY:TypeId→Option TI}{C:FuncId→Option Ctr}{D:PT}{wr:Tmp→Bool}{L:List AV→List Blk→Nat→Option LR}{fn:Func}{H:List Blk}{Q:AV→List Blk→Prop}{p q j:Nat}{sz lo hi n:Int}{g:Bool}(hg:cellOf H p 2=some (.bool g))(hn:cellOf H q j=some (.int .i64 n))
  (h1:fnE TY C D wr (L [.ptr p 0,.ptr q j,.int .i64 sz,.int .i64 lo,.int .i64 hi] H) fn [.ptr p 0,.ptr q j,.int .i64 sz,.int .i64 lo,.int .i64 hi] H (fun c H'=>c= .tup []∧∃ b,b=Dj g lo n hi∧H'=setCell (setCell H p 2 (.bool b)) q j (.int .i64 0)))
  (h2:Q (.tup []) (setCell (setCell H p 2 (.bool (sB (Dj g lo n hi)))) q j (.int .i64 0))):Uu TY C D wr L fn [.ptr p 0,.ptr q j,.int .i64 sz,.int .i64 lo,.int .i64 hi] H Q:=
 Amh _ p 2 q j _ _ h1 h2
end
end Go.Vc.Z
namespace Go.Vc.Z
open Go Go.Vc Go.Proofs Go.RowKit Go.Pl Go.Lib
noncomputable section
set_option maxRecDepth 100000
attribute [local irreducible] inK Utf8.decode Utf8.encode Lib.itoa Pl.worth Pl.allDig
end
end Go.Vc.Z
namespace Go.Vc.Z
open Go Go.Vc Go.Proofs Go.RowKit Go.Pl Go.Lib
noncomputable section
set_option maxRecDepth 100000
attribute [local irreducible] inK Utf8.decode Utf8.encode Lib.itoa Pl.worth Pl.allDig
end
end Go.Vc.Z
namespace Go.Vc.Z
open Go Go.Vc Go.Proofs Go.RowKit Go.Pl Go.Lib
noncomputable section
set_option maxRecDepth 100000
attribute [local irreducible] inK Utf8.decode Utf8.encode Lib.itoa Pl.worth Pl.allDig
def V9:List AV→Nat→Option LR:=fun cs i=>match cs with|[.int .u64 n]=>cond (Nat.beq i 2) (some (.inv (Ahg n))) (none)|_=>none
theorem Wa{W:World}(hW:Tabs W):GoodP (Fw W) Tryz.prog 192 Sm:=by
 have hD:=A9 hW
 have hC0:Ad (Fw W) Tryz.prog An:=(Bc hW)
 refine Az (D:=A8) (C:=An) (wr:=(fun _=>false)) rfl Ap hD hC0 Tryz.func192 (V9) ?_
 clear hC0 hD hW
 intro cs p r h hf hp
 split at h
 case h_2=>cases h
 rename_i n
 cases h
 try simp only[Ax,Bh,Am,Go.Vc.lo,Go.Vc.hi,and_true] at hf
 (conv=>whnf)
 refine⟨?_,fun(x:Nat × List UInt8) (hx:x.1≤n.toNat∧(if x.1=0∧x.2≠[] then x.2 else decDigits x.1++x.2)=decDigits n.toNat)=>?_⟩
 ·(conv=>whnf)
  refine⟨((n.toNat,[]):Nat × List UInt8),[],?_,⟨⟨rfl,(nB rfl),rfl⟩,?_,?_⟩⟩
  ·exact⟨Nat.le_refl _,by simp⟩
  ·exact tL
  ·exact tL
 ·obtain⟨h1,h2⟩:=hx
  have hl:x.2.length≤30:=by
   have:=congrArg List.length h2
   have h20:(decDigits n.toNat).length≤30:=by rw[decDigits_length];exact Nat.le_trans (J7 29 _ (by omega)) (by omega)
   split at this<;>(try simp at this)<;>omega
  (conv=>whnf)
  (repeat' ((first
   |((with_reducible refine aI ?_ ?_);focus (first|omega|(intro e he;rcases(by omega:e=0∨e=1∨e=2) with rfl|rfl|rfl<;>first|rfl|(exfalso;omega))|exact tK|(simp only[List.length_append,bytesOf_length,List.toList_toArray,List.length_cons,List.length_nil,List.length_take,List.length_drop,A0];omega)))
   |(split<;>rename_i hh<;>(try simp only[wS] at hh))
   |fail)<;>(conv=>whnf)))
  all_goals (try (show _=_;simp only[wQ]))
  ·(conv=>whnf)
   refine⟨((x.1 / 10,UInt8.ofNat (48+x.1 % 10)::x.2):Nat × List UInt8),[],?_,⟨⟨rfl,(nB rfl),rfl⟩,?_,?_⟩⟩
   ·refine⟨⟨show x.1 / 10≤n.toNat by omega,(Il (n:=x.1) (s:=x.2) (.inl (by omega))).trans h2⟩,?_⟩
    show 2*(x.1 / 10)+(if UInt8.ofNat (48+x.1 % 10)::x.2=[] then 1 else 0)<2*x.1+(if x.2=[] then 1 else 0)
    rw[if_neg (by simp)];omega
   ·exact Ac _
   ·exact tL
  ·(conv=>whnf)
   refine⟨((x.1 / 10,UInt8.ofNat (48+x.1 % 10)::x.2):Nat × List UInt8),[],?_,⟨⟨rfl,(nB rfl),rfl⟩,?_,?_⟩⟩
   ·refine⟨⟨show x.1 / 10≤n.toNat by omega,(Il (n:=x.1) (s:=x.2) (.inr (by assumption))).trans h2⟩,?_⟩
    show 2*(x.1 / 10)+(if UInt8.ofNat (48+x.1 % 10)::x.2=[] then 1 else 0)<2*x.1+(if x.2=[] then 1 else 0)
    rw[if_neg (by simp),if_pos (by assumption)];omega
   ·exact Ac _
   ·exact tL
  ·have h0:x.1=0:=by omega
   rw[←h2,if_pos ⟨h0,by assumption⟩]
def fO:PC:=PC.fun fun|[.int .i64 n]=>some (True,.str (sS (Lib.itoa n)))|_=>none
def Hj:PT:=C2 [(192,Sm)]
theorem L3{W:World}(hW:Tabs W):Cl (Fw W) Tryz.prog Hj:=(Ab Tryz.call192 (Wa hW) As)
def Hk:FuncId→Option Ctr:=Aw Hj []
theorem U4{W:World}(hW:Tabs W):Ad (Fw W) Tryz.prog Hk:=(Au (L3 hW))
theorem U5{W:World}(hW:Tabs W):GoodP (Fw W) Tryz.prog 117 fO:=by
 have hD:=L3 hW
 have hC0:Ad (Fw W) Tryz.prog Hk:=(U4 hW)
 refine Az (D:=Hj) (C:=Hk) (wr:=(fun _=>false)) rfl Ap hD hC0 Tryz.func117 (fun _ _=>none) ?_
 clear hC0 hD hW
 intro cs p r h hf hp
 split at h
 case h_2=>cases h
 rename_i n
 cases h
 try simp only[Ax,Bh,Am,Go.Vc.lo,Go.Vc.hi,and_true] at hf
 have e1:0≤n→Lib.itoa n=decDigits n.toNat:=fun h=>by unfold Lib.itoa;rw[if_neg (by omega)]
 have e2:n<0→Lib.itoa n=45::decDigits (-(n+1)+1).toNat:=fun h=>by unfold Lib.itoa;rw[if_pos h];congr 2;omega
 have h20:(decDigits (-(n+1)+1).toNat).length≤30:=by
  rw[decDigits_length]
  exact Nat.le_trans (J7 29 _ (by omega)) (by omega)
 (conv=>whnf)
 (repeat' ((first
  |((with_reducible refine aI ?_ ?_);focus (first|with_reducible exact⟨⟩|exact tK|(simp only[List.length_append,bytesOf_length,List.toList_toArray,List.length_cons,List.length_nil,List.length_take,List.length_drop,A0];omega)))
  |(split<;>rename_i hh<;>(try simp only[wS] at hh))
  |fail)<;>(conv=>whnf)))
 all_goals (try (show _=_;simp only[wQ]))
 ·rw[e1 (by assumption)]
 ·rw[e2 (by assumption)];rfl
def Ix:PT:=C2 [(117,fO)]
theorem Of{W:World}(hW:Tabs W):Cl (Fw W) Tryz.prog Ix:=(Ab Tryz.call117 (U5 hW) As)
def Iy:FuncId→Option Ctr:=Aw Ix []
theorem Xm{W:World}(hW:Tabs W):Ad (Fw W) Tryz.prog Iy:=(Au (Of hW))
theorem Gf{W:World}(hW:Tabs W):GoodP (Fw W) Tryz.prog 49 fO:=by
 have hD:=Of hW
 have hC0:Ad (Fw W) Tryz.prog Iy:=(Xm hW)
 refine Az (D:=Ix) (C:=Iy) (wr:=(fun _=>false)) rfl Ap hD hC0 Tryz.func49 (fun _ _=>none) ?_
 clear hC0 hD hW
 intro cs p r h hf hp
 split at h
 case h_2=>cases h
 rename_i n
 cases h
 try simp only[Ax,Bh,Am,Go.Vc.lo,Go.Vc.hi,and_true] at hf
 (conv=>whnf)
 (repeat' ((first
  |((with_reducible refine aI ?_ ?_);focus (with_reducible exact⟨⟩))
  |fail)<;>(conv=>whnf)))
@[irreducible] def Gg(s:List UInt8):Bool:=allDig s&&(s == [48] || (s != []&&s.getD 0 0 != 48))
theorem Af5{s:List UInt8}(h:Gg s=true):allDig s=true∧s≠[]∧(∀ t,s=48::t→t=[]):=by
 unfold Gg at h
 simp only[Bool.and_eq_true,Bool.or_eq_true,beq_iff_eq,bne_iff_ne] at h
 obtain⟨h1,h2⟩:=h
 refine⟨h1,?_,?_⟩
 ·rcases h2 with rfl|⟨h2,_⟩
  ·simp
  ·exact h2
 ·rintro t rfl
  rcases h2 with h2|⟨_,h2⟩
  ·simpa using h2
  ·exact absurd rfl h2
@[irreducible] def Gh(s:List UInt8)(m:Int):Int × Int:=if Gg s=true then(if m<(worth s:Int) then(0,5) else((worth s:Int),0)) else(0,4)
def pV:PC:=PC.fun fun|[.str s,.int .u64 m]=>some (True,.tup [.int .u64 (sI (Gh s m).1),.int .i64 (sI (Gh s m).2)])|_=>none
def Wb(c b:Int):Int:=if 48≤c∧c≤57 then(if c - 48≥b then -1 else c - 48) else if 97≤c∧c≤102 then(if c - 87≥b then -1 else c - 87) else -1
def Avv:PC:=PC.fun fun|[.int .i32 c,.int .i64 b]=>some (2≤b,.int .i64 (sI (Wb c b)))|_=>none
theorem zD{W:World}(hW:Tabs W):GoodP (Fw W) Tryz.prog 242 Avv:=by
 have hD:=A9 hW
 have hC0:Ad (Fw W) Tryz.prog An:=(Bc hW)
 refine Az (D:=A8) (C:=An) (wr:=(fun _=>false)) rfl Ap hD hC0 Tryz.func242 (fun _ _=>none) ?_
 clear hC0 hD hW
 intro cs p r h hf hp
 split at h
 case h_2=>cases h
 rename_i c b
 cases h
 try simp only[Ax,Bh,Am,Go.Vc.lo,Go.Vc.hi,and_true] at hf
 (conv=>whnf)
 (repeat' ((first
  |((with_reducible refine aI ?_ ?_);focus (first|with_reducible rfl|omega|exact tK))
  |(split<;>rename_i hh<;>(try simp only[wS] at hh))
  |fail)<;>(conv=>whnf)))
 all_goals (try (show _=_;simp only[wQ]))
 all_goals (unfold Wb;repeat' split)<;>omega
end
end Go.Vc.Z
namespace Go.Vc.Z
open Go Go.Vc Go.Proofs Go.RowKit Go.Pl Go.Lib
noncomputable section
set_option maxRecDepth 100000
attribute [local irreducible] inK Utf8.decode Utf8.encode Lib.itoa Pl.worth Pl.allDig
theorem wrap_u64(n:Int):IntKind.u64.wrap n=n % 18446744073709551616:=by simp[IntKind.wrap,IntKind.bits,IntKind.signed]
def Amq(s:List UInt8)(m:Int):LoopSpec:={
 α:=Nat
 keep:=[1,6,7,23]
 vals i:=[.int .u64 m,.int .u64 (sI ((worth (s.take i) % 18446744073709551616:Nat):Int)),.bool (sB (decide (18446744073709551615<worth (s.take i)))),.iter 0]
 heap i:=[.iter s i]
 ok i:=i≤s.length∧allDig (s.take i)=true
 μ i:=s.length - i }
def Mx:PT:=C2 [(242,Avv)]
theorem Ss{W:World}(hW:Tabs W):Cl (Fw W) Tryz.prog Mx:=(Ab Tryz.call242 (zD hW) As)
def My:FuncId→Option Ctr:=Aw Mx []
theorem fP{W:World}(hW:Tabs W):Ad (Fw W) Tryz.prog My:=(Au (Ss hW))
def fQ:List AV→Nat→Option LR:=fun cs i=>match cs with|[.str s,.int _ m]=>cond (Nat.beq i 5) (some (.inv (Amq s m))) (none)|_=>none
set_option maxHeartbeats 2000000 in
theorem fR{W:World}(hW:Tabs W):GoodP (Fw W) Tryz.prog 176 pV:=by
 have hD:=Ss hW
 have hC0:Ad (Fw W) Tryz.prog My:=(fP hW)
 refine Az (D:=Mx) (C:=My) (wr:=(fun t=>Nat.beq t 41 || Nat.beq t 44)) rfl Ap hD hC0 Tryz.func176 (fQ) ?_
 clear hC0 hD hW
 intro cs p r h hf hp
 split at h
 case h_2=>cases h
 rename_i s m
 cases h
 try simp only[Ax,Bh,Am,Go.Vc.lo,Go.Vc.hi,and_true] at hf
 have e0:s.getD (Int.toNat 0) 0=s.getD 0 0:=rfl
 have hbyte:∀ c:UInt8,eqI (c.toNat:Int) 48=(c == 48):=fun c=>Abi c 48
 by_cases hs:s=[]
 ·subst hs
  have e:Gh [] m=(0,4):=by unfold Gh;rw[if_neg (by simp[Gg])]
  (conv=>whnf)
  (repeat' ((first
   |with_reducible exact⟨⟩
   |((with_reducible refine aI ?_ ?_);focus (with_reducible rfl))
   |with_reducible refine iA ?_ ?_
   |fail)<;>(conv=>whnf)))
  all_goals (try (show _=_;simp only[wQ]))
  all_goals first|(rw[e];done)|skip
 ·have hpos:0<s.length:=List.length_pos_iff.2 hs
  by_cases hz:((s.getD (Int.toNat 0) 0).toNat:Int)=48∧¬s=[48]
  ·have e:Gh s m=(0,4):=by
    unfold Gh;rw[if_neg]
    unfold Gg
    have a1:(s == [48])=false:=by rw[beq_eq_false_iff_ne];exact hz.2
    have a2:s.getD 0 0=48:=UInt8.toNat_inj.1 (Int.ofNat.inj hz.1)
    rw[a1,a2];simp
   (conv=>whnf)
   (repeat' ((first
    |with_reducible exact⟨⟩
    |((with_reducible refine aI ?_ ?_);focus (first|with_reducible rfl|omega))
    |(split<;>rename_i hh<;>(try simp only[wS] at hh))
    |with_reducible refine iA ?_ ?_
    |fail)<;>(conv=>whnf)))
   all_goals (try (show _=_;simp only[wQ]))
   all_goals first|(rw[e];done)|(simp_all;done)|skip
  ·have hdec:allDig s=true→Gg s=true:=fun h=>by
    unfold Gg
    rw[h,Bool.true_and,Bool.or_eq_true,Bool.and_eq_true,beq_iff_eq,bne_iff_ne,bne_iff_ne]
    by_cases h1:s=[48]
    ·exact .inl h1
    ·refine .inr ⟨hs,fun h2=>hz ⟨?_,h1⟩⟩
     rw[e0,h2];rfl
   (conv=>whnf)
   (repeat' ((first
    |with_reducible exact⟨⟩
    |((with_reducible refine aI ?_ ?_);focus (first|with_reducible rfl|omega))
    |(split<;>rename_i hh<;>(try simp only[wS] at hh))
    |with_reducible refine iA ?_ ?_
    |fail)<;>(conv=>whnf)))
   all_goals (try (show _=_;simp only[wQ]))
   all_goals first|exact absurd (by assumption) hs|exact absurd ⟨by assumption,by assumption⟩ hz|skip
   all_goals (
    refine⟨?_,fun(i:Nat) (hi:i≤s.length∧allDig (s.take i)=true)=>?_⟩
    ·(conv=>whnf)
     refine⟨(0:Nat),[],?_,⟨⟨rfl,(nB rfl),rfl⟩,?_,?_⟩⟩
     ·exact⟨Nat.zero_le _,by simp[allDig]⟩
     ·(conv=>whnf)
      (repeat' ((first|with_reducible exact⟨⟩|((with_reducible refine aI ?_ ?_);focus (exact tA))|with_reducible refine iA ?_ ?_|fail)<;>(conv=>whnf)))
      all_goals (try simp only[wQ])
      all_goals simp[worth]
     ·exact tL
    ·obtain⟨h1,h2⟩:=hi
     have hdw:sI (Wb (Bg s i) 10)=Wb (Bg s i) 10:=Cg _
     have hcase:(48≤Bg s i∧Bg s i≤57∧Wb (Bg s i) 10=Bg s i - 48)∨(¬(48≤Bg s i∧Bg s i≤57)∧Wb (Bg s i) 10= -1):=by
      unfold Wb;repeat' split
      all_goals omega
     have hbad:i<s.length→¬(48≤Bg s i∧Bg s i≤57)→Gh s m=(0,4):=fun h hc=>by
      have:allDig s=false:=fH h (by rcases D4 h with h6|h6<;>omega)
      unfold Gh;rw[if_neg];unfold Gg;rw[this];simp
     have hsi:=Cg ((worth (s.take i) % 18446744073709551616:Nat):Int)
     have hE:s.length≤i→Gh s m=if m<(worth (s.take i):Int) then(0,5) else((worth (s.take i):Int),0):=fun h=>by
      rw[List.take_of_length_le h] at h2 ⊢
      unfold Gh;rw[if_pos (hdec h2)]
     have hE1:s.length≤i→(18446744073709551615<worth (s.take i)∨m<(worth (s.take i):Int))→Gh s m=(0,5):=fun h hc=>by rw[hE h,if_pos (by omega)]
     have hE2:s.length≤i→(worth (s.take i):Int)≤m→Gh s m=((worth (s.take i):Int),0):=fun h hc=>by rw[hE h,if_neg (by omega)]
     (conv=>whnf)
     (repeat' ((first
      |with_reducible exact⟨⟩
      |((with_reducible refine aI ?_ ?_);focus (first|with_reducible rfl|omega|exact tK))
      |(split<;>rename_i hh<;>(try simp only[wS] at hh))
      |with_reducible refine iA ?_ ?_
      |fail)<;>(conv=>whnf)))
     all_goals (try (show _=_;simp only[wQ]))
     all_goals first|(rw[hbad (by omega) (by omega)];done)|(rw[hE1 (by omega) (by omega)];done)|(rw[hE2 (by omega) (by omega)];done)|(rw[hE2 (by omega) (by omega)];omega)|skip
     all_goals (
      obtain⟨h6,h7,h8⟩:Bg s i=((s.getD i 0).toNat:Int)∧Ai s i=1∧(s.getD i 0).toNat<128:=by
       rcases D4 (l:=s) (p:=i) (by omega) with h6|h6<;>omega
      have hst:=Eo (l:=s) (i:=i) (by omega)
      (conv=>whnf)
      refine⟨(i+1:Nat),[],?_,⟨⟨rfl,(nB rfl),rfl⟩,?_,?_⟩⟩
      ·exact⟨⟨show i+1≤s.length by omega,E4 (by omega) h2 (by omega) (by omega)⟩,show s.length - (i+1)<s.length - i by omega⟩
      ·(conv=>whnf)
       (repeat' ((first|with_reducible exact⟨⟩|((with_reducible refine aI ?_ ?_);focus (exact tA))|with_reducible refine iA ?_ ?_|fail)<;>(conv=>whnf)))
       all_goals (try simp only[wQ])
       all_goals first|(rw[eC,eC,wrap_u64,wrap_u64];omega)|(symm;rw[decide_eq_true_eq];omega)|(show ltI _ _=_;rw[Dr,Bool.eq_iff_iff,decide_eq_true_eq,decide_eq_true_eq];omega)
      ·exact tL
      )
    )
@[irreducible] def Aj(s:List UInt8):Int × Bool:=((Gh s 9223372036854775807).1,decide ((Gh s 9223372036854775807).2=0))
theorem Amr(s:List UInt8)(m:Int)(hm:0≤m):0≤(Gh s m).1∧(Gh s m).1≤m:=by
 unfold Gh;repeat' split
 all_goals (simp only[];omega)
def Ua:PC:=PC.fun fun|[.str s]=>some (True,.tup [.int .i64 (sI (Aj s).1),.bool (sB (Aj s).2)])|_=>none
def Mz:PT:=C2 [(176,pV)]
theorem Su{W:World}(hW:Tabs W):Cl (Fw W) Tryz.prog Mz:=(Ab Tryz.call176 (fR hW) As)
def M0:FuncId→Option Ctr:=Aw Mz []
theorem fV{W:World}(hW:Tabs W):Ad (Fw W) Tryz.prog M0:=(Au (Su hW))
theorem Gs{W:World}(hW:Tabs W):GoodP (Fw W) Tryz.prog 93 Ua:=by
 have hD:=Su hW
 have hC0:Ad (Fw W) Tryz.prog M0:=(fV hW)
 refine Az (D:=Mz) (C:=M0) (wr:=(fun _=>false)) rfl Ap hD hC0 Tryz.func93 (fun _ _=>none) ?_
 clear hC0 hD hW
 intro cs p r h hf hp
 split at h
 case h_2=>cases h
 rename_i s
 cases h
 try simp only[Ax,Bh,Am,Go.Vc.lo,Go.Vc.hi,and_true] at hf
 have h1:=Amr s 9223372036854775807 (by decide)
 have h2:=Cg (Gh s 9223372036854775807).1
 have h3:(Aj s).1=(Gh s 9223372036854775807).1:=by unfold Aj;rfl
 have h4:(Aj s).2=decide ((Gh s 9223372036854775807).2=0):=by unfold Aj;rfl
 (conv=>whnf)
 (repeat' ((first
  |with_reducible exact⟨⟩
  |((with_reducible refine aI ?_ ?_);focus (first|with_reducible exact⟨⟩|with_reducible rfl|exact tK))
  |with_reducible refine iA ?_ ?_
  |fail)<;>(conv=>whnf)))
 all_goals (try (show _=_;simp only[wQ]))
 ·rw[h3]
 ·rw[h4,Be,Bool.eq_iff_iff,beq_iff_eq,decide_eq_true_eq]
@[irreducible] def M1(s:List UInt8):Int:=if (Gh s 4611686018427387904).2=0 then(Gh s 4611686018427387904).1 else -1
end
end Go.Vc.Z
namespace Go.Proofs
open Go.Shelf Go.RowKit
set_option maxRecDepth 1000000
def Tryz.laysJoin_ren:Go.Shelf.Ren:=⟨fun|156=>62|165=>134|166=>101|169=>102|240=>182|241=>209|276=>249|277=>271|n=>n,fun|31=>32|9=>9|3=>3|4=>4|0=>0|20=>20|72=>152|76=>155|70=>149|37=>150|75=>154|127=>221|164=>264|5=>5|80=>162|n=>n,fun|n=>n⟩
theorem Tryz.laysJoin:Go.Proofs.Lays.n156 Tryz.prog Tryz.laysJoin_ren:={
 mixed:=by kernel_rfl
 f156:=Tryz.func62.trans (congrArg some (by kernel_rfl))
 f165:=Tryz.func134.trans (congrArg some (by kernel_rfl))
 f166:=Tryz.func101.trans (congrArg some (by kernel_rfl))
 f169:=Tryz.func102.trans (congrArg some (by kernel_rfl))
 f240:=Tryz.func182.trans (congrArg some (by kernel_rfl))
 f241:=Tryz.func209.trans (congrArg some (by kernel_rfl))
 f276:=Tryz.func249.trans (congrArg some (by kernel_rfl))
 f277:=Tryz.func271.trans (congrArg some (by kernel_rfl))
 t0:=Tryz.underlying0
 a0:=Tryz.isAgg0
 z0:=Tryz.sizeOf0
 v0:=Tryz.zeroValue0
 t3:=Tryz.underlying3
 a3:=Tryz.isAgg3
 z3:=Tryz.sizeOf3
 v3:=Tryz.zeroValue3
 t4:=Tryz.underlying4
 a4:=Tryz.isAgg4
 z4:=Tryz.sizeOf4
 v4:=Tryz.zeroValue4
 t9:=Tryz.underlying9
 a9:=Tryz.isAgg9
 z9:=Tryz.sizeOf9
 v9:=Tryz.zeroValue9
 t20:=Tryz.underlying20
 a20:=Tryz.isAgg20
 z20:=Tryz.sizeOf20
 v20:=Tryz.zeroValue20
 t31:=Tryz.underlying32
 a31:=Tryz.isAgg32
 z31:=Tryz.sizeOf32
 v31:=Tryz.zeroValue32
 t37:=Tryz.underlying150
 a37:=Tryz.isAgg150
 z37:=Tryz.sizeOf150
 v37:=Tryz.zeroValue150
 t70:=Tryz.underlying149
 a70:=Tryz.isAgg149
 z70:=Tryz.sizeOf149
 v70:=Tryz.zeroValue149
 t72:=Tryz.underlying152
 a72:=Tryz.isAgg152
 z72:=Tryz.sizeOf152
 v72:=Tryz.zeroValue152
 t75:=Tryz.underlying154
 a75:=Tryz.isAgg154
 z75:=Tryz.sizeOf154
 v75:=Tryz.zeroValue154
 t76:=Tryz.underlying155
 a76:=Tryz.isAgg155
 z76:=Tryz.sizeOf155
 v76:=Tryz.zeroValue155
 t127:=Tryz.underlying221
 a127:=Tryz.isAgg221
 z127:=Tryz.sizeOf221
 v127:=Tryz.zeroValue221
 t164:=Tryz.underlying264
 a164:=Tryz.isAgg264
 z164:=Tryz.sizeOf264
 v164:=Tryz.zeroValue264 }
def Tryz.laysItoa_ren:Go.Shelf.Ren:=⟨fun|171=>111|243=>189|246=>190|283=>203|284=>204|285=>205|286=>206|129=>267|317=>266|318=>268|319=>269|320=>270|337=>301|338=>302|n=>n,fun|3=>3|9=>9|2=>2|4=>4|171=>233|0=>0|53=>37|37=>150|5=>5|173=>235|212=>281|51=>282|20=>20|213=>283|46=>284|232=>323|233=>324|n=>n,fun|17=>0|18=>4|19=>5|n=>n⟩
theorem Tryz.laysItoa:Go.Proofs.LaysM.n171 Tryz.prog Tryz.laysItoa_ren:={
 mixed:=by kernel_rfl
 f129:=Tryz.func267.trans (congrArg some (by kernel_rfl))
 f171:=Tryz.func111.trans (congrArg some (by kernel_rfl))
 f243:=Tryz.func189.trans (congrArg some (by kernel_rfl))
 f246:=Tryz.func190.trans (congrArg some (by kernel_rfl))
 f283:=Tryz.func203.trans (congrArg some (by kernel_rfl))
 f284:=Tryz.func204.trans (congrArg some (by kernel_rfl))
 f285:=Tryz.func205.trans (congrArg some (by kernel_rfl))
 f286:=Tryz.func206.trans (congrArg some (by kernel_rfl))
 f317:=Tryz.func266.trans (congrArg some (by kernel_rfl))
 f318:=Tryz.func268.trans (congrArg some (by kernel_rfl))
 f319:=Tryz.func269.trans (congrArg some (by kernel_rfl))
 f320:=Tryz.func270.trans (congrArg some (by kernel_rfl))
 f337:=Tryz.func301.trans (congrArg some (by kernel_rfl))
 f338:=Tryz.func302.trans (congrArg some (by kernel_rfl))
 t0:=Tryz.underlying0
 a0:=Tryz.isAgg0
 z0:=Tryz.sizeOf0
 v0:=Tryz.zeroValue0
 t2:=Tryz.underlying2
 a2:=Tryz.isAgg2
 z2:=Tryz.sizeOf2
 v2:=Tryz.zeroValue2
 t3:=Tryz.underlying3
 a3:=Tryz.isAgg3
 z3:=Tryz.sizeOf3
 v3:=Tryz.zeroValue3
 t4:=Tryz.underlying4
 a4:=Tryz.isAgg4
 z4:=Tryz.sizeOf4
 v4:=Tryz.zeroValue4
 t5:=Tryz.underlying5
 a5:=Tryz.isAgg5
 z5:=Tryz.sizeOf5
 v5:=Tryz.zeroValue5
 t9:=Tryz.underlying9
 a9:=Tryz.isAgg9
 z9:=Tryz.sizeOf9
 v9:=Tryz.zeroValue9
 t20:=Tryz.underlying20
 a20:=Tryz.isAgg20
 z20:=Tryz.sizeOf20
 v20:=Tryz.zeroValue20
 t37:=Tryz.underlying150
 a37:=Tryz.isAgg150
 z37:=Tryz.sizeOf150
 v37:=Tryz.zeroValue150
 t46:=Tryz.underlying284
 a46:=Tryz.isAgg284
 z46:=Tryz.sizeOf284
 v46:=Tryz.zeroValue284
 t51:=Tryz.underlying282
 a51:=Tryz.isAgg282
 z51:=Tryz.sizeOf282
 v51:=Tryz.zeroValue282
 t53:=Tryz.underlying37
 a53:=Tryz.isAgg37
 z53:=Tryz.sizeOf37
 v53:=Tryz.zeroValue37
 t171:=Tryz.underlying233
 a171:=Tryz.isAgg233
 z171:=Tryz.sizeOf233
 v171:=Tryz.zeroValue233
 t173:=Tryz.underlying235
 a173:=Tryz.isAgg235
 z173:=Tryz.sizeOf235
 v173:=Tryz.zeroValue235
 t212:=Tryz.underlying281
 a212:=Tryz.isAgg281
 z212:=Tryz.sizeOf281
 v212:=Tryz.zeroValue281
 t213:=Tryz.underlying283
 a213:=Tryz.isAgg283
 z213:=Tryz.sizeOf283
 t232:=Tryz.underlying323
 a232:=Tryz.isAgg323
 z232:=Tryz.sizeOf323
 v232:=Tryz.zeroValue323
 t233:=Tryz.underlying324
 a233:=Tryz.isAgg324
 z233:=Tryz.sizeOf324
 v233:=Tryz.zeroValue324
 g17:=by kernel_rfl
 g18:=by kernel_rfl
 g19:=by kernel_rfl
 i0:=by kernel_rfl
 i2:=by kernel_rfl
 i3:=by kernel_rfl
 i4:=by kernel_rfl
 i5:=by kernel_rfl
 i9:=by kernel_rfl
 i20:=by kernel_rfl
 i37:=by kernel_rfl
 i46:=by kernel_rfl
 i51:=by kernel_rfl
 i53:=by kernel_rfl
 i171:=by kernel_rfl
 i173:=by kernel_rfl
 i212:=by kernel_rfl
 i232:=by kernel_rfl
 i233:=by kernel_rfl
 m17:=by kernel_rfl
 m18:=by kernel_rfl
 m19:=by kernel_rfl }
end Go.Proofs
namespace Go.Proofs
open Go.Shelf Go.RowKit
theorem Tryz.extra:Builder.Extra Tryz.prog Tryz.laysJoin_ren:={
 sizeBuilder:=by kernel_rfl
 liesBuilder:=by kernel_rfl
 t5:=by kernel_rfl
 a5:=fun w=>Tryz.isAgg5 w
 z5:=fun w=>Tryz.sizeOf5 w
 v5:=fun w=>Tryz.zeroValue5 w
 infoByte:=by kernel_rfl
 cellsByte:=by kernel_rfl
 sizeByte:=by kernel_rfl
 neB5:=by decide }
end Go.Proofs
namespace Go.Vc
open Go Go.Proofs Go.RowKit
theorem pW{S:Nat→Prop}{w w':World}(h:Below w.heap.size w w'):Ext (fun _=>none) S w (fun _=>none) S w':=
 ⟨fun _ _ h=>(by cases h),fun _ h=>h,fun b hb _=>h.block b hb,h.size,fun b arr T fr hb=>⟨arr,fr,(h.block b (lt_of_some hb)).trans hb,rfl⟩,fun _ _ h=>(by cases h),fun _ h=>.inl h,h.os,h.tape,h.output⟩
theorem K4{F:Nat→Obj→Prop}{P:Program}{f:FuncId}{α:Type}{args:α→List AV}{pre:α→Prop}{res:α→AV}(hflat:∀ x,(res x).flat=true)(hu:∀ x,E3 0 (args x)=true)
  (h:∀ x S w vs,pre x→Ax (args x)→Sok F S w→VL (fun _=>none) S w (args x) vs→Calls P f vs w fun e w'=>∃ v,e= .returned v∧(∀ S' w',V (fun _=>none) S' w' (res x) v)∧Below w.heap.size w w'):GoodP F P f (PC.of args pre res):=by
 intro S w cs vs Q hs hv hpre
 obtain⟨x,h1,h2,h3⟩:=hpre
 have hl:=J3 h2
 have hv':VL (fun _=>none) S w (args x) vs:=by
  refine⟨by rw[←hl];exact hv.1,fun i c v hc hv'=>?_⟩
  have hi:i<cs.length:=by
   rcases Nat.lt_or_ge i (args x).length with h'|h'
   ·omega
   ·rw[List.getElem?_eq_none h'] at hc;cases hc
  exact(hv.2 i cs[i] v (List.getElem?_eq_getElem hi) hv').le (σ:=fun i=>i) (n:=0) (fun i b hi=>by omega) (Qn h2 i _ _ (List.getElem?_eq_getElem hi) hc) (Ds (hu x) i c hc)
 refine(h x S w vs h1 hv'.fact hs hv').mono ?_
 rintro e w' ⟨v,rfl,hV,hb⟩
 exact⟨v,res x,S,rfl,h3,hV S w',pW hb,hs.still (pW hb)⟩
theorem V.slR{ρ:Nat→Option Nat}{S:Nat→Prop}{w:World}{clip:Bool}{sz len:Nat}{get:Nat→List AV}{v:Value}(h:V ρ S w (.sl clip sz len get) v):
  (len=0∧∃ ao,v= .slice ao 0 0)∨∃ b o cap,∃ f:Nat→Nat→Value,v= .slice (some ⟨b,o,none⟩) len cap∧(0<len→S b∧b<w.heap.size)∧len≤cap∧cap≤maxLen∧(∀ e,e<len→(get e).length=sz)∧
   (∀ e j,e<len→j<sz→w.cell? ⟨b,o+e*sz+j,none⟩=some (f e j))∧(∀ (e j:Nat) (c:AV),e<len→(get e)[j]? =some c→VI S w (fun _=>none) c (f e j)):=by
 cases h with
 |sln=>exact .inl ⟨rfl,_,rfl⟩
 |sl _ _ _ _ b o cap f hs hl hm hcl hz hc hv=>exact .inr ⟨b,o,cap,f,rfl,hs,hl,hm,hz,hc,hv⟩
theorem V.strR'{ρ:Nat→Option Nat}{S:Nat→Prop}{w:World}{l:List UInt8}{v:Value}(h:V ρ S w (.str l) v):∃ s:ByteArray,v= .string s∧s.data.toList=l∧l.length≤maxLen:=by
 cases h with|str _ s h1 h2=>exact⟨s,rfl,h1,h2⟩
abbrev slS(l:List (List UInt8)):AV:=.sl false 1 l.length (fun e=>[.str (l.getD e [])])
def Aw1:PC:=PC.of (fun x:List (List UInt8) × List UInt8=>[slS x.1,.str x.2]) (fun x=>(Lib.join x.1 x.2).length≤140737488355328∧x.1.length≤140737488355328) (fun x=>.str (Lib.join x.1 x.2))
theorem Ams{F:Nat→Obj→Prop}:GoodP F Tryz.prog 62 Aw1:=by
 refine K4 (fun _=>rfl) (fun _=>rfl) ?_
 rintro⟨l,sep⟩ S w vs ⟨hpre,hlen⟩ hf hs hv
 simp only at hpre hlen hv
 obtain⟨vs⟩:=vs
 match vs,hv with
 |[a,b],hv=>
  have ha:=hv.2 0 _ _ rfl rfl
  have hb:=hv.2 1 _ _ rfl rfl
  obtain⟨sb,rfl,hsb,h2⟩:=V.strR' hb
  have fin:∀ r:List UInt8,r.length≤140737488355328→∀ S' w',V (fun _=>none) S' w' (.str r) (.string ⟨r.toArray⟩):=fun r hr S' w'=>.str _ _ (by simp) (by rw[Cm];omega)
  rcases ha.slR with ⟨h0,ao,rfl⟩|⟨b,o,cap,f,rfl,hst,hl,hm,hz,hc,hv'⟩
  ·obtain rfl:l=[]:=List.length_eq_zero_iff.1 h0
   refine(Any.strings_Join_none Tryz.laysJoin Tryz.extra ao 0 sb w).mono ?_
   rintro e w' ⟨rfl,rfl⟩
   exact⟨_,rfl,fin [] (by simp),Below.refl _ _⟩
  ·have hstr:∀ (j:Nat),j<l.length→∃ s:ByteArray,f j 0= .string s∧s.data.toList=l.getD j []:=fun j hj=>by
    obtain⟨s,h1,h3,_⟩:=V.strR' (hv' j 0 _ hj rfl)
    exact⟨s,h1,h3⟩
   have hxs:∃ xs:List ByteArray,xs.map (·.data.toList)=l∧∀ (j:Nat) x,xs[j]? =some x→w.cell? ⟨b,o+j,none⟩=some (.string x):=by
    refine⟨l.map fun s=>⟨s.toArray⟩,by simp[Function.comp_def],fun j x hx=>?_⟩
    rw[List.getElem?_map] at hx
    cases hj:l[j]? with
    |none=>rw[hj] at hx;cases hx
    |some s=>
     rw[hj] at hx
     cases hx
     have hlt:j<l.length:=(List.getElem?_eq_some_iff.1 hj).1
     obtain⟨s',h1,h3⟩:=hstr j hlt
     have:=hc j 0 hlt (by omega)
     rw[Nat.mul_one,Nat.add_zero] at this
     rw[this,h1]
     have e:l.getD j []=s:=by rw[List.getD_eq_getElem?_getD,hj];rfl
     rw[e] at h3
     rw[←h3]
   obtain⟨xs,hx1,hx2⟩:=hxs
   have hxl:xs.length=l.length:=by rw[←hx1];simp
   by_cases h0:l.length=0
   ·obtain rfl:l=[]:=List.length_eq_zero_iff.1 h0
    refine(Any.strings_Join_none Tryz.laysJoin Tryz.extra (some ⟨b,o,none⟩) cap sb w).mono ?_
    rintro e w' ⟨rfl,rfl⟩
    exact⟨_,rfl,fin [] (by simp),Below.refl _ _⟩
   ·have:=Any.strings_Join Tryz.laysJoin Tryz.extra b o cap xs sb w hx2 (hst (by omega)).2 (by omega) (by omega) (by rw[hx1,hsb];exact hpre)
    rw[hx1,hsb,hxl] at this
    refine this.mono ?_
    rintro e w' ⟨rfl,hb⟩
    exact⟨_,rfl,fin _ hpre,hb⟩
 |[],hv=>simp[VL] at hv
 |[_],hv=>simp[VL] at hv
 |_::_::_::_,hv=>have:=hv.1;simp at this
end Go.Vc
namespace Go.Vc
open Go Go.Proofs Go.RowKit Go.Sort
theorem below_grow{w:World}(k:Nat)(os:Array Obj):Below w.heap.size w (grow (w.drewN k) os):=by
 refine⟨rfl,rfl,rfl,?_,fun b hb=>?_⟩
 ·show w.heap.size≤(w.heap++os).size
  simp
 ·show(w.heap++os)[b]? =w.heap[b]?
  rw[Array.getElem?_append_left hb]
def Aw2:PC:=PC.of (fun n:Int=>[.int .i64 n]) (fun _=>True) (fun n=>.str (Lib.itoa n))
theorem fW:∀ (k u:Nat),u<10 ^ (k+1)→Lib.nDigits u≤k+1
 |0,u,h=>by rw[Lib.nDigits_small (by simpa using h)];omega
 |k+1,u,h=>by
  by_cases h1:u<10
  ·rw[Lib.nDigits_small h1];omega
  ·rw[Lib.nDigits_big h1]
   have:=fW k (u / 10) (by rw[Nat.pow_succ] at h;omega)
   omega
theorem Ahm{u:Nat}(h:u<10000000000000000000000000000000):(Lib.decDigits u).length≤31:=by
 rw[Lib.decDigits_length]
 exact fW 30 u h
theorem Bl(n:Int)(h0: -9223372036854775808≤n)(h1:n≤9223372036854775807):(Lib.itoa n).length≤32:=by
 unfold Lib.itoa
 split
 ·have:=Ahm (u:=n.natAbs) (by omega)
  simp;omega
 ·have:=Ahm (u:=n.toNat) (by omega)
  omega
theorem Amt{W:World}(hW:Tabs W):GoodP (Fw W) Tryz.prog 111 Aw2:=by
 refine K4 (fun _=>rfl) (fun _=>rfl) ?_
 intro n S w vs _ hf hs hv
 obtain⟨vs⟩:=vs
 match vs,hv with
 |[a],hv=>
  obtain⟨rfl,hn⟩:=(hv.2 0 _ _ rfl rfl).intR
  obtain⟨h0,h1⟩:=hn
  refine(Any.strconv_Itoa Tryz.laysItoa n h0 h1 w (hW.pow hs)).mono ?_
  rintro e w' ⟨rfl,k,os,rfl⟩
  exact⟨_,rfl,fun S' w'=>.str _ _ (by simp) (by rw[Cm];have:=Bl n h0 h1;omega),below_grow k os⟩
 |[],hv=>simp[VL] at hv
 |_::_::_,hv=>have:=hv.1;simp at this
end Go.Vc
namespace Go.Vc
open Go Go.Proofs Go.RowKit Go.Sort
end Go.Vc
namespace Go.Vc
open Go Go.Proofs Go.RowKit Go.Sort
end Go.Vc
namespace Go.Vc.Z
open Go Go.Vc Go.Proofs Go.RowKit
set_option maxRecDepth 100000
attribute [local irreducible] inK
end Go.Vc.Z
namespace Go.Vc.Z
open Go Go.Vc Go.Proofs Go.RowKit
set_option maxRecDepth 100000
attribute [local irreducible] inK
end Go.Vc.Z
