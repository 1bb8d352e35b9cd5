/- strings.TrimSuffix at a line's end; a site's words read; a script of too many acts. -/
import Derived.Test.YtpmpclbdnakniaaGreatDoorV43
set_option linter.all false
set_option linter.unusedVariables false
set_option linter.unusedSimpArgs false
namespace Go.Vc.Z
open Go Go.Vc Go.Proofs Go.RowKit Go.Pl Go.Lib
theorem Adk{s:List UInt8}{c:UInt8}(h:1≤s.length):s.drop (s.length - 1)=[c]↔s.getLast? =some c:=by
 obtain⟨t,d,rfl⟩:∃ t d,s=t++[d]:=⟨s.dropLast,s.getLast (by intro e;rw[e] at h;simp at h),(List.dropLast_concat_getLast _).symm⟩
 simp
noncomputable section
set_option maxRecDepth 100000
attribute [local irreducible] inK Utf8.decode Utf8.encode Lib.itoa Pl.worth Pl.allDig
attribute [local irreducible] Lib.join Br Aa
def Abl:PC:=PC.fun fun|[.str s,.str p]=>some (p=[10],.str (sS (N4 s)))|_=>none
def H1:List (FuncId × Ctr):=(251,inl TY Ek Dh (fun _=>false) (fun _ _ _=>none) Tryz.f251)::[]
def H3:FuncId→Option Ctr:=Av Dh H1
theorem H4{W:World}(hW:Tabs W):Ad (Fw W) Tryz.prog H3:=Ab Tryz.call251 (Af rfl Aq (Ej hW) (Gt hW) Tryz.func251 (fun _ _ _=>none)) (Gt hW)
def Ob:List (FuncId × Ctr):=(184,inl TY H3 Dh (fun _=>false) (fun _ _ _=>none) Tryz.f184)::H1
def Fq:FuncId→Option Ctr:=Av Dh Ob
theorem Oc{W:World}(hW:Tabs W):Ad (Fw W) Tryz.prog Fq:=Ab Tryz.call184 (Af rfl Aq (Ej hW) (H4 hW) Tryz.func184 (fun _ _ _=>none)) (H4 hW)
theorem Pm{W:World}(hW:Tabs W):GoodP (Fw W) Tryz.prog 104 Abl:=by
 have hD:=Ej hW
 have hC0:Ad (Fw W) Tryz.prog Fq:=(Oc hW)
 refine Be (D:=Dh) (C:=Fq) (wr:=(fun _=>false)) rfl Aq hD hC0 Tryz.func104 (fun _ _=>none) ?_
 clear hC0 hD hW
 intro cs p r h hf hp
 split at h
 case h_2=>cases h
 rename_i s p
 cases h
 try simp only[Bl,Cm,Ar,Go.Vc.lo,Go.Vc.hi,and_true] at hf
 subst hp
 have h4:(([10]:List UInt8).length:Int)=1:=rfl
 have t0: ¬s.getLast? =some 10→s=N4 s:=fun h=>by unfold N4;rw[if_neg h]
 have t1:s.getLast? =some 10→s.dropLast=N4 s:=fun h=>by unfold N4;rw[if_pos h]
 have e1:1≤s.length→((s.length:Int) - (([10]:List UInt8).length:Int)).toNat=s.length - 1:=fun h=>by rw[h4];omega
 have e2:1≤s.length→(List.take (s.length - ((s.length:Int) - (([10]:List UInt8).length:Int)).toNat) (List.drop ((s.length:Int) - (([10]:List UInt8).length:Int)).toNat s)=[10]↔s.getLast? =some 10):=fun h=>by
  rw[e1 h,List.take_of_length_le (by rw[List.length_drop];exact Nat.le_refl _)];exact Adk h
 have hpos:(([10]:List UInt8).length:Int)≤(s.length:Int)→1≤s.length:=fun h=>by rw[h4] at h;omega
 (conv=>whnf)
 (repeat' ((first
  |(with_reducible refine Ac ?_)
  |((with_reducible refine aI ?_ ?_);focus (first|omega|exact tK))
  |(split<;>rename_i hh<;>(try simp only[wS] at hh))
  |with_reducible refine lnI fun hln=>?_
  |fail)<;>(conv=>whnf)))
 all_goals (try (show _=_;simp only[wQ]))
 ·have hl:=hpos (by assumption)
  rw[e1 hl,List.drop_zero,Nat.sub_zero,←List.dropLast_eq_take]
  exact t1 ((e2 hl).1 (by assumption))
 ·exact t0 (fun h=>absurd ((e2 (hpos (by assumption))).2 h) (by assumption))
 ·refine t0 fun h=>?_
  have:s=[]:=List.length_eq_zero_iff.1 (by rw[h4] at*;omega)
  rw[this] at h;cases h
def Adl:PC:=PC.of (fun x:Setup × List Act=>[.agg x.1.enc,slE 17 Act.enc x.2]) (fun x=>10000<x.2.length) (fun _=>.tup [.str [],.int .i64 3])
def Adm:Setup × List Act→Nat→Option LR:=fun x i=>cond (Nat.beq i 9) (some (.unroll 5)) (cond (Nat.beq i 14) (some (.unroll 1)) (none))
set_option maxHeartbeats 4000000 in
theorem Adn{W:World}(hW:Tabs W):GoodP (Fw W) Tryz.prog 39 Adl:=by
 have hD:=D7 hW
 have hC0:∀ x:Setup × List Act,Ad (Fw W) Tryz.prog C8:=fun x=>(Ge hW)
 refine Ax (D:=C6) (C:=fun x=>C8) (wr:=(fun _=>false)) rfl Aq hD hC0 Tryz.func39 (Adm) (fun _=>rfl) ?_
 rintro⟨s,A⟩ hf hp
 clear hf
 have hp2:10000<A.length:=hp
 (conv=>whnf)
 (repeat' ((first
  |with_reducible exact⟨⟩
  |((with_reducible refine aI ?_ ?_);focus (with_reducible rfl))
  |(split<;>rename_i hh<;>(try simp only[wS] at hh))
  |with_reducible refine lnI fun hln=>?_
  |with_reducible refine iA ?_ ?_
  |fail)<;>(conv=>whnf)))
 all_goals first|rfl|(exfalso;omega)
def Anh:PC:=PC.of (fun x:Setup × List Act × List UInt8 × Int=>[.agg x.1.enc,slE 17 Act.enc x.2.1]) (fun x=>((Et x.1=true∧x.2.1.length≤10000∧∀ i,i<x.2.1.length→Am (x.2.1.getD i default)=true)∧x.2.2=(scW x.1 x.2.1,0))∨(10000<x.2.1.length∧x.2.2=([],3))) (fun x=>.tup [.str (sS x.2.2.1),.int .i64 x.2.2.2])
theorem At2{W:World}(hW:Tabs W):GoodP (Fw W) Tryz.prog 39 Anh:=by
 intro S w cs vs Q hs hv hT
 obtain⟨x,h1,h2,h3⟩:=hT
 rcases h1 with ⟨h1,e⟩|⟨h1,e⟩
 ·refine Wp hW S w cs vs Q hs hv ⟨(x.1,x.2.1),h1,h2,?_⟩
  have h4:Q (.tup [.str (sS x.2.2.1),.int .i64 x.2.2.2]):=h3
  rw[e] at h4;exact h4
 ·refine Adn hW S w cs vs Q hs hv ⟨(x.1,x.2.1),h1,h2,?_⟩
  have h4:Q (.tup [.str (sS x.2.2.1),.int .i64 x.2.2.2]):=h3
  rw[e,Ap] at h4;exact h4
def wU:PC:=PC.of (fun x:Site × List (List UInt8)=>[slS x.2]) (fun x=>G8 x.1=true∧x.2=(A8 x.1).drop 1) (fun x=>.tup [.agg x.1.enc,.bool true])
def L3:PT:=D1 [(93,Pw)]
theorem Qp{W:World}(hW:Tabs W):Dj (Fw W) Tryz.prog L3:=(Ae Tryz.call93 (F0 hW) A6)
def L4:FuncId→Option Ctr:=Av L3 []
theorem dH{W:World}(hW:Tabs W):Ad (Fw W) Tryz.prog L4:=(A7 (Qp hW))
def dI:Site × List (List UInt8)→Nat→Option LR:=fun x i=>cond (Nat.beq i 5) (some (.unroll 7)) (none)
set_option maxHeartbeats 4000000 in
theorem dJ{W:World}(hW:Tabs W):GoodP (Fw W) Tryz.prog 105 wU:=by
 have hD:=Qp hW
 have hC0:∀ x:Site × List (List UInt8),Ad (Fw W) Tryz.prog L4:=fun x=>(dH hW)
 refine Ax (D:=L3) (C:=fun x=>L4) (wr:=(fun _=>false)) rfl Aq hD hC0 Tryz.func105 (dI) (fun _=>rfl) ?_
 rintro⟨s,L⟩ hf hp
 clear hf
 obtain⟨hs,hL⟩:=hp
 have hs2:G8 s=true:=hs
 obtain⟨h1,h2,h3,h4,h5,h6⟩:=Abk hs2
 have hL2:L=[Lib.itoa s.carrier,Lib.itoa s.first,Lib.itoa s.count,Lib.itoa s.sectors,Lib.itoa s.pages,Lib.itoa s.frames]:=hL
 clear hL
 subst hL2
 have w1:=Bz (n:=s.carrier) h1.1 (by omega)
 have w2:=Bz (n:=s.first) h2.1 (by omega)
 have w3:=Bz (n:=s.count) h3.1 (by omega)
 have w4:=Bz (n:=s.sectors) h4.1 (by omega)
 have w5:=Bz (n:=s.pages) h5.1 (by omega)
 have w6:=Bz (n:=s.frames) h6.1 (by omega)
 (conv=>whnf)
 (repeat' ((first
  |with_reducible exact⟨⟩
  |(exact Bool.noConfusion ((congrArg Prod.snd w1).symm.trans hh))
  |(exact Bool.noConfusion ((congrArg Prod.snd w2).symm.trans hh))
  |(exact Bool.noConfusion ((congrArg Prod.snd w3).symm.trans hh))
  |(exact Bool.noConfusion ((congrArg Prod.snd w4).symm.trans hh))
  |(exact Bool.noConfusion ((congrArg Prod.snd w5).symm.trans hh))
  |(exact Bool.noConfusion ((congrArg Prod.snd w6).symm.trans hh))
  |((with_reducible refine aI ?_ ?_);focus (first|with_reducible exact⟨⟩|with_reducible rfl|omega|exact tK|(simp only[List.length_append,bytesOf_length,List.toList_toArray,List.length_cons,List.length_nil,List.length_take,List.length_drop,Ap];omega)))
  |(split<;>rename_i hh<;>(try simp only[wS] at hh))
  |with_reducible refine lnI fun hln=>?_
  |with_reducible refine iA ?_ ?_
  |fail)<;>(conv=>whnf)))
 all_goals (try (show _=_;simp only[wQ]))
 all_goals first|rfl|exact congrArg Prod.fst w1|exact congrArg Prod.fst w2|exact congrArg Prod.fst w3|exact congrArg Prod.fst w4|exact congrArg Prod.fst w5|exact congrArg Prod.fst w6
end
end Go.Vc.Z
