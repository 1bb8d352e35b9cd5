/- Lines of what was told. -/
import Derived.Test.YtpmpclbdnakniaaGreatDoorV12
import Derived.Test.YtpmpclbdnakniaaGreatDoorV10
import Derived.Ground.NamesProg
import Derived.Shelf.LaysC
import Derived.Shelf.Strconv.AtoiAll
import Derived.Shelf.Strings.Search3
import Derived.Shelf.Strings.Cut
import Derived.Shelf.Strings.Split
set_option linter.all false
set_option linter.unusedVariables false
set_option linter.unusedSimpArgs false
namespace Go.Vc.Z
open Go Go.Vc Go.Proofs Go.RowKit Go.Pl Go.Lib
noncomputable section
set_option maxRecDepth 100000
attribute [local irreducible] inK Utf8.decode Utf8.encode Lib.itoa Pl.worth Pl.allDig
attribute [local irreducible] Lib.join
def Axb:List (List UInt8):=[[111,107],[110,105,108],[97,114,103],[108,111,110,103],[98,121,116,101,115],[114,97,110,103,101],[110,111,110,101],[101,120,105,115,116,115],[102,117,108,108],[115,116,97,116,101],[100,101,97,100],[100,105,103,105,116],[115,116,111,99,107],[99,111,110,116,114,111,108],[109,111,110,101,121],[100,97,121],[107,101,121],[98,117,115,121]]
@[irreducible] def M7(e:Int):List UInt8:=if 0≤e∧e≤17 then Axb.getD e.toNat [] else []
def Am3:PC:=PC.fun fun|[.int .i64 e]=>some (True,.str (sS (M7 e)))|_=>none
theorem Am4{e:Int}(h:0≤e∧e≤17):M7 e≠[]∧(M7 e).length≤10:=by
 unfold M7;rw[if_pos h]
 rcases(by omega:e=0∨e=1∨e=2∨e=3∨e=4∨e=5∨e=6∨e=7∨e=8∨e=9∨e=10∨e=11∨e=12∨e=13∨e=14∨e=15∨e=16∨e=17) with rfl|rfl|rfl|rfl|rfl|rfl|rfl|rfl|rfl|rfl|rfl|rfl|rfl|rfl|rfl|rfl|rfl|rfl<;>decide
theorem pZ{e:Int}(h: ¬(0≤e∧e≤17)):M7 e=[]:=by
 unfold M7;rw[if_neg h]
theorem qA(e:Int):(M7 e).length≤10:=by
 by_cases h:0≤e∧e≤17
 ·exact(Am4 h).2
 ·rw[pZ h];simp
theorem oG{W:World}(hW:Tabs W):GoodP (Fw W) Tryz.prog 16 Am3:=by
 have hD:=A9 hW
 have hC0:Ad (Fw W) Tryz.prog An:=(Bc hW)
 refine Az (D:=A8) (C:=An) (wr:=(fun _=>false)) rfl Ap hD hC0 Tryz.func16 (fun _ _=>none) ?_
 clear hC0 hD hW
 intro cs p r h hf hp
 split at h
 case h_2=>cases h
 rename_i e
 cases h
 try simp only[Ax,Bh,Am,Go.Vc.lo,Go.Vc.hi,and_true] at hf
 by_cases h:0≤e∧e≤17
 ·rcases(by omega:e=0∨e=1∨e=2∨e=3∨e=4∨e=5∨e=6∨e=7∨e=8∨e=9∨e=10∨e=11∨e=12∨e=13∨e=14∨e=15∨e=16∨e=17) with rfl|rfl|rfl|rfl|rfl|rfl|rfl|rfl|rfl|rfl|rfl|rfl|rfl|rfl|rfl|rfl|rfl|rfl
  all_goals (
   (conv=>whnf)
   (repeat' ((first
    |((with_reducible refine aI ?_ ?_);focus (omega))
    |with_reducible refine lnI fun hln=>?_
    |fail)<;>(conv=>whnf)))
   all_goals (try (show _=_;simp only[wQ]))
   )
  all_goals (unfold M7;rfl)
 ·clear hf
  (conv=>whnf)
  (repeat' ((first
   |((with_reducible refine aI ?_ ?_);focus (omega))
   |(split<;>rename_i hh<;>(try simp only[wS] at hh))
   |with_reducible refine lnI fun hln=>?_
   |fail)<;>(conv=>whnf)))
  all_goals (try (show _=_;simp only[wQ]))
  all_goals try (rw[pZ h];done)
  all_goals (exfalso;omega)
end
end Go.Vc.Z
namespace Go.Vc.Z
open Go Go.Vc Go.Proofs Go.RowKit Go.Pl Go.Lib
noncomputable section
set_option maxRecDepth 100000
attribute [local irreducible] inK Utf8.decode Utf8.encode Lib.itoa Pl.worth Pl.allDig
attribute [local irreducible] Lib.join
theorem Am5{α:Type}[Inhabited α]{f:α→List UInt8}{l:List α}{i:Nat}{B:List (List UInt8)}(h:i<l.length):(B++(l.take i).map f)++[f (l.getD (Int.toNat (i:Int)) default)]=B++(l.take (i+1)).map f:=by
 rw[List.append_assoc,List.take_add_one,List.map_append,List.getElem?_eq_getElem h]
 have:l.getD (Int.toNat (i:Int)) default=l[i]:=by
  rw[show Int.toNat (i:Int)=i from rfl,List.getD_eq_getElem?_getD,List.getElem?_eq_getElem h];rfl
 rw[this];rfl
end
end Go.Vc.Z
namespace Go.Vc.Z
open Go Go.Vc Go.Proofs Go.RowKit Go.Pl Go.Lib
noncomputable section
set_option maxRecDepth 100000
attribute [local irreducible] inK Utf8.decode Utf8.encode Lib.itoa Pl.worth Pl.allDig
attribute [local irreducible] Lib.join
theorem Uc{α:Type}[Inhabited α]{f:α→List UInt8}{l:List α}{i:Nat}(h:i<l.length)(sep:List UInt8):Lib.join ((l.take (i+1)).map f) sep=(if i=0 then [] else Lib.join ((l.take i).map f) sep++sep)++f (l.getD (Int.toNat (i:Int)) default):=by
 have:=Am5 (f:=f) (l:=l) (i:=i) (B:=[]) h
 simp only[List.nil_append] at this
 rw[←this]
 split
 ·rename_i h0
  subst h0
  simp[Lib.join_one]
 ·rw[Zu (by rw[ne_eq,List.map_eq_nil_iff,List.take_eq_nil_iff];intro hc;rcases hc with hc|hc<;>first|omega|(rw[hc] at h;simp at h)),List.append_assoc]
theorem G7{n:Int}(h:Do n=true):Gu n=Du n:=by unfold Du;rw[if_pos h]
theorem Zz{n:Int}(h:Dh n=true):Do n=true∧ -9223372036854775807≤n:=by
 unfold Dh at h;simp at h
 exact⟨by unfold Do;simp;omega,by omega⟩
theorem Z0{n:Int}(h:Do n=true): -9223372036854775807≤n:=by
 unfold Do at h;simp at h;omega
def qB:PC:=PC.fun fun|[.agg [.int .i64 cf,.int .i64 cd,.int .i64 cv,.int .i64 cs,.int .i64 ch,.int .u64 cx]]=>some (Do cv=true,.str (sS (Bv (Coupon.mk cf cd cv cs ch cx))))|_=>none
def Er:PT:=C2 [(49,fO),(83,fY)]
theorem Gv{W:World}(hW:Tabs W):Cl (Fw W) Tryz.prog Er:=(Ab Tryz.call49 (Gf hW) (Ab Tryz.call83 (M4 hW) As))
def D1:FuncId→Option Ctr:=Aw Er []
theorem K6{W:World}(hW:Tabs W):Ad (Fw W) Tryz.prog D1:=(Au (Gv hW))
theorem Sy{W:World}(hW:Tabs W):GoodP (Fw W) Tryz.prog 171 qB:=by
 have hD:=Gv hW
 have hC0:Ad (Fw W) Tryz.prog D1:=(K6 hW)
 refine Az (D:=Er) (C:=D1) (wr:=(fun _=>false)) rfl Ap hD hC0 Tryz.func171 (fun _ _=>none) ?_
 clear hC0 hD hW
 intro cs p r h hf hp
 split at h
 case h_2=>cases h
 rename_i cf cd cv cs ch cx
 cases h
 try simp only[Ax,Bh,Am,Go.Vc.lo,Go.Vc.hi,and_true] at hf
 have l1:=Bl cf (by omega) (by omega)
 have l2:=Bl cd (by omega) (by omega)
 have hlo:=Z0 hp
 have l3:(Gu cv).length≤31:=by rw[G7 hp];exact G5 cv
 clear hf
 (conv=>whnf)
 (repeat' ((first
  |((with_reducible refine aI ?_ ?_);focus (first|with_reducible exact⟨⟩|with_reducible assumption|exact tO|(simp only[List.length_append,bytesOf_length,List.toList_toArray,List.length_cons,List.length_nil,List.length_take,List.length_drop,A0];omega)))
  |fail)<;>(conv=>whnf)))
 all_goals (try (show _=_;simp only[wQ]))
 unfold Bv;rw[G7 hp]
def Abv:PC:=PC.of (fun l:List Tax=>[slE 2 Tax.enc l]) (fun l=>De l=true) (fun l=>.str (sS (B7 l)))
def A10(l:List Tax):LoopSpec:={
 α:=Nat
 keep:=[0,3,4]
 vals i:=[slE 2 Tax.enc l,.str (sS (Lib.join ((l.take i).map Fo) [44])),.int .i64 i]
 heap _:=[]
 ok i:=i≤l.length
 μ i:=l.length - i }
theorem Af9{l:List Tax}:∀ {k:Int},Cs k l=true→∀ x ∈ l,Dh x.amount=true:=by
 induction l with
 |nil=>intro k _ x hx;cases hx
 |cons y l ih=>
  intro k h x hx
  simp only[Cs,Bool.and_eq_true] at h
  rcases List.mem_cons.1 hx with rfl|hx
  ·exact h.1.2
  ·exact ih h.2 x hx
theorem G8{l:List Tax}(h:De l=true):l.length≤4∧∀ i,i<l.length→Dh (l.getD (Int.toNat (i:Int)) default).amount=true:=by
 unfold De at h
 simp only[Bool.and_eq_true,decide_eq_true_eq] at h
 refine⟨h.2,fun i hi=>Af9 h.1 _ ?_⟩
 rw[show Int.toNat (i:Int)=i from rfl,List.getD_eq_getElem?_getD,List.getElem?_eq_getElem hi]
 exact List.getElem_mem hi
def U6:List Tax→Nat→Option LR:=fun l i=>cond (Nat.beq i 5) (some (.inv (A10 l))) (none)
set_option maxHeartbeats 2000000 in
theorem U7{W:World}(hW:Tabs W):GoodP (Fw W) Tryz.prog 85 Abv:=by
 have hD:=Gv hW
 have hC0:∀ l:List Tax,Ad (Fw W) Tryz.prog D1:=fun l=>(K6 hW)
 refine Ar (D:=Er) (C:=fun l=>D1) (wr:=(fun _=>false)) rfl Ap hD hC0 Tryz.func85 (U6) (fun _=>rfl) ?_
 intro l hf hp
 obtain⟨p1,p2⟩:=G8 hp
 have hw:=P0 hf
 have hx:∀ i,i<l.length→ -9223372036854775808≤(l.getD (Int.toNat (i:Int)) default).code∧(l.getD (Int.toNat (i:Int)) default).code≤9223372036854775807:=fun i hi=>by
  simp only[Ax,Bh] at hf
  exact Am.1 (hf.1.2 i hi).2.1
 clear hf
 (conv=>whnf)
 (repeat' ((first
  |(split<;>rename_i hh<;>(try simp only[wS] at hh))
  |with_reducible refine lnI fun hln=>?_
  |fail)<;>(conv=>whnf)))
 all_goals (try (show _=_;simp only[wQ]))
 ·unfold B7;rw[if_pos (by omega)]
 ·refine⟨?_,fun(i:Nat) (hi:i≤l.length)=>?_⟩
  ·(conv=>whnf)
   refine⟨(0:Nat),[],?_,⟨⟨rfl,(nB rfl),rfl⟩,?_,?_⟩⟩
   ·exact Nat.zero_le _
   ·(conv=>whnf)
    (repeat' ((first|with_reducible exact⟨⟩|((with_reducible refine aI ?_ ?_);focus (exact tA))|with_reducible refine iA ?_ ?_|fail)<;>(conv=>whnf)))
    all_goals (try simp only[wQ])
    all_goals (try first|omega|exact⟨fun h=>h,fun _ _=>True.intro⟩)
    simp[Lib.join_nil]
   ·exact tL
  ·have hj:=K0 [44] 200 ((l.take i).map Fo) (fun s hs=>hw s (List.mem_of_mem_take (by rwa[List.map_take] at hs)))
   have hj2:(Lib.join ((l.take i).map Fo) [44]).length≤1000:=by
    have h4:((l.take i).map Fo).length≤4:=by simp;omega
    have:=Nat.mul_le_mul_right (200+[(44:UInt8)].length) h4
    simp only[List.length_cons,List.length_nil] at this hj
    omega
   have q1:i<l.length→(Lib.itoa (l.getD (Int.toNat (i:Int)) default).code).length≤32:=fun h=>Bl _ (hx i h).1 (hx i h).2
   have q2:i<l.length→(Gu (l.getD (Int.toNat (i:Int)) default).amount).length≤31:=fun h=>by rw[G7 (Zz (p2 i h)).1];exact G5 _
   have q3:i<l.length→ -9223372036854775807≤(l.getD (Int.toNat (i:Int)) default).amount:=fun h=>(Zz (p2 i h)).2
   have q4:i<l.length→Fo (l.getD (Int.toNat (i:Int)) default)=Lib.itoa (l.getD (Int.toNat (i:Int)) default).code++[61]++Gu (l.getD (Int.toNat (i:Int)) default).amount:=fun h=>by unfold Fo;rw[G7 (Zz (p2 i h)).1]
   (conv=>whnf)
   (repeat' ((first
    |((with_reducible refine aI ?_ ?_);focus (first|with_reducible exact⟨⟩|exact tO|omega|exact tK|(simp only[List.length_append,bytesOf_length,List.toList_toArray,List.length_cons,List.length_nil,List.length_take,List.length_drop,A0];omega)))
    |(split<;>rename_i hh<;>(try simp only[wS] at hh))
    |with_reducible refine lnI fun hln=>?_
    |fail)<;>(conv=>whnf)))
   all_goals (try (show _=_;simp only[wQ]))
   ·(conv=>whnf)
    refine⟨(i+1:Nat),[],?_,⟨⟨rfl,(nB rfl),rfl⟩,?_,?_⟩⟩
    ·exact⟨show i+1≤l.length by omega,show l.length - (i+1)<l.length - i by omega⟩
    ·(conv=>whnf)
     (repeat' ((first|with_reducible exact⟨⟩|((with_reducible refine aI ?_ ?_);focus (exact tA))|with_reducible refine iA ?_ ?_|fail)<;>(conv=>whnf)))
     all_goals (try simp only[wQ])
     all_goals (try first|omega|exact⟨fun h=>h,fun _ _=>True.intro⟩)
     rw[Uc (by omega),if_neg (by omega),q4 (by omega)];simp
    ·exact tL
   ·(conv=>whnf)
    refine⟨(i+1:Nat),[],?_,⟨⟨rfl,(nB rfl),rfl⟩,?_,?_⟩⟩
    ·exact⟨show i+1≤l.length by omega,show l.length - (i+1)<l.length - i by omega⟩
    ·(conv=>whnf)
     (repeat' ((first|with_reducible exact⟨⟩|((with_reducible refine aI ?_ ?_);focus (exact tA))|with_reducible refine iA ?_ ?_|fail)<;>(conv=>whnf)))
     all_goals (try simp only[wQ])
     all_goals (try first|omega|exact⟨fun h=>h,fun _ _=>True.intro⟩)
     obtain rfl:i=0:=by omega
     rw[Uc (by omega),if_pos rfl,q4 (by omega)];simp[Lib.join_nil]
    ·exact tL
   ·unfold B7;rw[if_neg (by omega),List.take_of_length_le (by omega)]
end
end Go.Vc.Z
namespace Go.Vc.Z
open Go Go.Vc Go.Proofs Go.RowKit Go.Pl Go.Lib
noncomputable section
set_option maxRecDepth 100000
attribute [local irreducible] inK Utf8.decode Utf8.encode Lib.itoa Pl.worth Pl.allDig
attribute [local irreducible] Lib.join
def S1(t:Ticket)(i:Nat):List UInt8:=Lib.join (Axa t++((numsL t).take i).map A4o) [32]
def S2(t:Ticket)(i:Nat):List UInt8:=S1 t 5++(if i=0 then [] else 32::Lib.join ((t.coupons.take i).map Aqk) [44])
def S3(t:Ticket)(i:Nat):List UInt8:=S2 t t.coupons.length++[32]++B7 t.taxes++[32]++Lib.join ((t.history.take i).map Aw9) [44]
end
end Go.Vc.Z
namespace Go.Vc.Z
open Go Go.Vc Go.Proofs Go.RowKit Go.Pl Go.Lib
noncomputable section
set_option maxRecDepth 100000
attribute [local irreducible] inK Utf8.decode Utf8.encode Lib.itoa Pl.worth Pl.allDig
attribute [local irreducible] Lib.join
end
end Go.Vc.Z
namespace Go.Vc.Z
open Go Go.Vc Go.Proofs Go.RowKit Go.Pl Go.Lib
noncomputable section
set_option maxRecDepth 100000
attribute [local irreducible] inK Utf8.decode Utf8.encode Lib.itoa Pl.worth Pl.allDig
end
end Go.Vc.Z
namespace Go.Vc.Z
open Go Go.Vc Go.Proofs Go.RowKit Go.Pl Go.Lib
noncomputable section
set_option maxRecDepth 100000
attribute [local irreducible] inK Utf8.decode Utf8.encode Lib.itoa Pl.worth Pl.allDig
attribute [local irreducible] Lib.join
def isKey(c:UInt8):Bool:=(decide (97≤c.toNat)&&decide (c.toNat≤122)) || (decide (48≤c.toNat)&&decide (c.toNat≤57))
theorem P4{c:UInt8}:isKey c=true↔(97≤c.toNat∧c.toNat≤122)∨(48≤c.toNat∧c.toNat≤57):=by simp[isKey]
@[irreducible] def Fp(s:List UInt8):Bool:=s.all isKey&&decide (1≤s.length)&&decide (s.length≤16)
def Sz:PC:=PC.fun fun|[.str s]=>some (True,.bool (sB (Fp s)))|_=>none
def A4p(s:List UInt8):LoopSpec:={
 α:=Nat
 keep:=[0,6]
 vals i:=[.str s,.iter 0]
 heap i:=[.iter s i]
 ok i:=i≤s.length∧(s.take i).all isKey=true
 μ i:=s.length - i }
def Z1:List AV→Nat→Option LR:=fun cs i=>match cs with|[.str s]=>cond (Nat.beq i 2) (some (.inv (A4p s))) (none)|_=>none
theorem P5{W:World}(hW:Tabs W):GoodP (Fw W) Tryz.prog 275 Sz:=by
 have hD:=A9 hW
 have hC0:Ad (Fw W) Tryz.prog An:=(Bc hW)
 refine Az (D:=A8) (C:=An) (wr:=(fun _=>false)) rfl Ap hD hC0 Tryz.func275 (Z1) ?_
 clear hC0 hD hW
 intro cs p r h hf hp
 split at h
 case h_2=>cases h
 rename_i s
 cases h
 try simp only[Ax,Bh,Am,Go.Vc.lo,Go.Vc.hi,and_true] at hf
 (conv=>whnf)
 refine⟨?_,fun(i:Nat) (hi:i≤s.length∧(s.take i).all isKey=true)=>?_⟩
 ·(conv=>whnf)
  refine⟨(0:Nat),[],?_,⟨⟨rfl,(nB rfl),rfl⟩,?_,?_⟩⟩
  ·exact⟨Nat.zero_le _,by simp⟩
  ·exact tL
  ·exact tL
 ·obtain⟨h1,h2⟩:=hi
  have hk:i<s.length→((97≤Bg s i∧Bg s i≤122)∨(48≤Bg s i∧Bg s i≤57))→isKey (s.getD i 0)=true∧Ai s i=1:=fun h hc=>by
   rcases D4 h with ⟨h6,h7,h8⟩|⟨h6,h7⟩
   ·exact⟨P4.2 (by omega),h7⟩
   ·omega
  have hn:i<s.length→¬((97≤Bg s i∧Bg s i≤122)∨(48≤Bg s i∧Bg s i≤57))→Fp s=false:=fun h hc=>by
   unfold Fp
   rw[Mw h (by
    rcases D4 h with ⟨h6,h7,h8⟩|⟨h6,h7⟩
    ·exact Bool.eq_false_iff.2 fun h=>by have:=P4.1 h;omega
    ·exact Bool.eq_false_iff.2 fun h=>by have:=P4.1 h;omega)]
   rfl
  have hst:=Ho (p:=isKey) (l:=s) (i:=i)
  have hfin:s.length≤i→Fp s=(decide (1≤s.length)&&decide (s.length≤16)):=fun h=>by
   rw[List.take_of_length_le h] at h2
   unfold Fp;rw[h2,Bool.true_and]
  (conv=>whnf)
  (repeat' ((first
   |(split<;>rename_i hh<;>(try simp only[wS] at hh))
   |with_reducible refine lnI fun hln=>?_
   |fail)<;>(conv=>whnf)))
  all_goals (try (show _=_;simp only[wQ]))
  all_goals try (rw[hn (by omega) (by omega)];done)
  all_goals try (
   obtain⟨h6,h7⟩:=hk (by omega) (by omega)
   (conv=>whnf)
   refine⟨(i+1:Nat),[],?_,⟨⟨rfl,(nB rfl),rfl⟩,?_,?_⟩⟩
   ·exact⟨⟨show i+1≤s.length by omega,by rw[hst (by omega),h2,h6];rfl⟩,show s.length - (i+1)<s.length - i by omega⟩
   ·exact tL
   ·(conv=>whnf)
    (repeat' ((first|with_reducible exact⟨⟩|((with_reducible refine aI ?_ ?_);focus (exact tA))|with_reducible refine iB ?_ ?_|fail)<;>(conv=>whnf)))
    all_goals (try first|omega)
    all_goals (rw[h7])
   done)
  all_goals (rw[hfin (by omega)];first|(rw[Ca,decide_eq_true (show 1≤s.length by omega),Bool.true_and];exact decide_eq_decide.2 ⟨fun h=>by omega,fun h=>by omega⟩)|(rw[decide_eq_false (show¬1≤s.length by omega)];rfl))
theorem Am6{k f d u st m g j k' f' d' u' st' m' g' j':Int}{a b a' b':List UInt8}:eqA TY 12 244 (.agg [.int .i64 k,.str a,.str b,.int .i64 f,.int .i64 d,.int .u64 u,.int .i64 st,.int .i64 m,.int .i64 g,.int .i64 j]) (.agg [.int .i64 k',.str a',.str b',.int .i64 f',.int .i64 d',.int .u64 u',.int .i64 st',.int .i64 m',.int .i64 g',.int .i64 j'])=some (k == k'&&(a == a'&&(b == b'&&(f == f'&&(d == d'&&(u == u'&&(st == st'&&(m == m'&&(g == g'&&(j == j')))))))))):=by
 have e244:TY 244=some Ahb:=rfl
 have e54:TY 54=some Amb:=rfl
 have e9:TY 9=some ty9:=rfl
 have e3:TY 3=some ty3:=rfl
 have e2:TY 2=some ty2:=rfl
 have e43:TY 43=some Cp:=rfl
 have e37:TY 37=some Co:=rfl
 simp[eqA,Aae,e244,e54,e9,e3,e2,e43,e37,Ahb,Amb,ty9,ty3,ty2,Cp,Co,Ml,Be]
theorem Z2{k f d u st m g j k' f' d' u' st' m' g' j':Int}{a b a' b':List UInt8}{N:Bool→Prop}(hN:N (k == k'&&(a == a'&&(b == b'&&(f == f'&&(d == d'&&(u == u'&&(st == st'&&(m == m'&&(g == g'&&(j == j'))))))))))):Hz (eqA TY 12 244 (.agg [.int .i64 k,.str a,.str b,.int .i64 f,.int .i64 d,.int .u64 u,.int .i64 st,.int .i64 m,.int .i64 g,.int .i64 j]) (.agg [.int .i64 k',.str a',.str b',.int .i64 f',.int .i64 d',.int .u64 u',.int .i64 st',.int .i64 m',.int .i64 g',.int .i64 j'])) N:=by
 rw[Am6];exact hN
def c7:Coupon:=⟨7,9,1000,0,0,0⟩
end
end Go.Vc.Z
namespace Go.Vc.Z
open Go Go.Vc Go.Proofs Go.RowKit Go.Pl Go.Lib
theorem K7{n:Int}(h0:0≤n)(h:n<10):Lib.itoa n=[UInt8.ofNat (48+n.toNat)]:=by
 unfold Lib.itoa;rw[if_neg (by omega),decDigits_one (by omega)]
theorem Aga:Bv ⟨7,9,1000,0,0,0⟩=[55,64,57,61,49,48,46,48,48]:=by
 unfold Bv Du Do Gu Ce
 simp only[K7 (n:=7) (by decide) (by decide),K7 (n:=9) (by decide) (by decide)]
 rw[show Lib.decDigits (1000 / 10 / 10:Int).toNat=[49,48] from decDigits_two (by decide) (by decide)]
 rfl
theorem Agb:B7 []=[45]:=by unfold B7;rfl
noncomputable section
set_option maxRecDepth 100000
attribute [local irreducible] inK Utf8.decode Utf8.encode Lib.itoa Pl.worth Pl.allDig
attribute [local irreducible] Lib.join
def Ahq:List UInt8:=[105,115,115,117,101,32,107,55,32,51,32,65,66,67,50,51,52,32,55,64,57,61,49,48,46,48,48,32,45]
end
end Go.Vc.Z
namespace Go.Vc.Z
open Go Go.Vc Go.Proofs Go.RowKit Go.Pl Go.Lib
def zI:List (List UInt8):=[[99,114,97,115,104],Lib.itoa 1,Lib.itoa 4,Lib.itoa (-1)]
theorem Aql:Lib.itoa (-1)=[45,49]:=by
 unfold Lib.itoa;rw[if_pos (by decide)]
 rw[show(-1:Int).natAbs=1 from rfl,decDigits_one (by decide)];rfl
theorem Avx:Lib.join zI [32]=[99,114,97,115,104,32,49,32,52,32,45,49]:=by
 unfold zI;rw[Aql,K7 (n:=1) (by decide) (by decide),K7 (n:=4) (by decide) (by decide)];rfl
theorem Axc:(Lib.join zI [32]).length≤140737488355328:=by rw[Avx];decide
noncomputable section
set_option maxRecDepth 100000
attribute [local irreducible] inK Utf8.decode Utf8.encode Lib.itoa Pl.worth Pl.allDig
attribute [local irreducible] Lib.join
def A11:Bool→AV
 |true=>.agg [.int .i64 1,.int .i64 0,.str [107,55],.int .i64 1,.int .i64 3,.int .u64 0,.int .i64 0,.int .i64 0,.str [65,66,67,50,51,52],slE 6 Coupon.enc [c7],.nilsl,.int .i64 0,.int .i64 0,.int .i64 0,.int .i64 0,.nilsl,.bool false]
 |false=>.agg [.int .i64 4,.int .i64 1,.str [],.int .i64 0,.int .i64 0,.int .u64 0,.int .i64 0,.int .i64 0,.str [],.nilsl,.nilsl,.int .i64 0,.int .i64 0,.int .i64 0,.int .i64 0,.sl false 1 2 (fun e=>[.int .i64 (([4, -1]:List Int).getD e 0)]),.bool false]
def Am7:PC:=PC.of (fun b:Bool=>[A11 b]) (fun _=>True) (fun _=>.bool (sB true))
def Am8:Bool→List UInt8
 |true=>[100,111,32,48,32]++Ahq
 |false=>[99,114,97,115,104,32,49,32,52,32,45,49]
def Am9:PC:=PC.of (fun b:Bool=>[A11 b]) (fun _=>True) (fun b=>.str (sS (Am8 b)))
end
end Go.Vc.Z
namespace Go.Vc.Z
open Go Go.Vc Go.Proofs Go.RowKit Go.Pl Go.Lib
def Abw:Told:=⟨⟨6,[],[],[]⟩,0,0⟩
noncomputable section
set_option maxRecDepth 100000
attribute [local irreducible] inK Utf8.decode Utf8.encode Lib.itoa Pl.worth Pl.allDig
attribute [local irreducible] Lib.join
def Ahr:PC:=PC.fun fun|[]=>some (True,.bool (sB true))|_=>none
end
end Go.Vc.Z
namespace Go.Vc.Z
open Go Go.Vc Go.Proofs Go.RowKit Go.Pl Go.Lib
noncomputable section
set_option maxRecDepth 100000
attribute [local irreducible] inK Utf8.decode Utf8.encode Lib.itoa Pl.worth Pl.allDig
attribute [local irreducible] Lib.join
end
end Go.Vc.Z
namespace Go.Vc.Z
open Go Go.Vc Go.Proofs Go.RowKit Go.Pl Go.Lib
noncomputable section
set_option maxRecDepth 100000
attribute [local irreducible] inK Utf8.decode Utf8.encode Lib.itoa Pl.worth Pl.allDig
attribute [local irreducible] Lib.join
open Classical in
@[irreducible] def cEq(a b:Coupon):Bool:=decide (a=b)
theorem Xo{a b:Coupon}:cEq a b=true↔a=b:=by unfold cEq;simp
open Classical in
@[irreducible] def xEq(a b:Tax):Bool:=decide (a=b)
theorem Xp{a b:Tax}:xEq a b=true↔a=b:=by unfold xEq;simp
theorem Aqm(k:Nat)(c m c' m':Int):eqA TY (k+3) 113 (.agg [.int .i64 c,.int .i64 m]) (.agg [.int .i64 c',.int .i64 m'])=some (c == c'&&m == m'):=by
 have e1:TY 113=some Bj:=rfl
 have e3:TY 3=some ty3:=rfl
 have e2:TY 2=some ty2:=rfl
 simp[eqA,Aae,e1,e3,e2,Bj,ty3,ty2,Ml,Be]
theorem Abx{k:Nat}{c d:Coupon}{N:Bool→Prop}(hN:N (cEq c d)):Hz (eqA TY (k+3) 45 (.agg [.int .i64 c.flight,.int .i64 c.day,.int .i64 c.value,.int .i64 c.status,.int .i64 c.holder,.int .u64 c.next]) (.agg [.int .i64 d.flight,.int .i64 d.day,.int .i64 d.value,.int .i64 d.status,.int .i64 d.holder,.int .u64 d.next])) N:=by
 rw[fM]
 have:cEq c d=(c.flight == d.flight&&(c.day == d.day&&(c.value == d.value&&(c.status == d.status&&(c.holder == d.holder&&c.next == d.next))))):=by
  cases c;cases d;rw[Bool.eq_iff_iff,Xo];simp
 rw[this] at hN;exact hN
theorem Aby{k:Nat}{c d:Tax}{N:Bool→Prop}(hN:N (xEq c d)):Hz (eqA TY (k+3) 113 (.agg [.int .i64 c.code,.int .i64 c.amount]) (.agg [.int .i64 d.code,.int .i64 d.amount])) N:=by
 rw[Aqm]
 have:xEq c d=(c.code == d.code&&c.amount == d.amount):=by
  cases c;cases d;rw[Bool.eq_iff_iff,Xp];simp
 rw[this] at hN;exact hN
theorem I0{α:Type}[Inhabited α]:∀ {l m:List α},l.length=m.length→(∀ j,j<l.length→l.getD j default=m.getD j default)→l=m
 |[],[],_,_=>rfl
 |[],_::_,h,_=>by simp at h
 |_::_,[],h,_=>by simp at h
 |a::l,b::m,h,hj=>by
  have h0:a=b:=hj 0 (by simp)
  have:=I0 (l:=l) (m:=m) (by simpa using h) (fun j hl=>by
   have:=hj (j+1) (by simp;omega)
   exact this)
  rw[h0,this]
end
end Go.Vc.Z
namespace Go.Vc.Z
open Go Go.Vc Go.Proofs Go.RowKit Go.Pl Go.Lib
structure Request where
 key:List UInt8
 kind:Int
 day:Int
 ticket:Int
 coupon:Int
 status:Int
 locator:List UInt8
 coupons:List Coupon
 taxes:List Tax
 amount:Int
 frm:Int
 til:Int
deriving Inhabited
abbrev Request.enc(r:Request):List AV:=[.str r.key,.int .i64 r.kind,.int .i64 r.day,.int .u64 r.ticket,.int .i64 r.coupon,.int .i64 r.status,.str r.locator,slE 6 Coupon.enc r.coupons,slE 2 Tax.enc r.taxes,.int .i64 r.amount,.int .i64 r.frm,.int .i64 r.til]
noncomputable section
set_option maxRecDepth 100000
attribute [local irreducible] inK Utf8.decode Utf8.encode Lib.itoa Pl.worth Pl.allDig
attribute [local irreducible] Lib.join
@[irreducible] def Abz(r:Request):Bool:=decide (40<r.coupons.length) || decide (40<r.taxes.length) || decide (200<r.key.length) || decide (200<r.locator.length)
def Ahs:PC:=PC.of (fun r:Request=>[.agg r.enc]) (fun _=>True) (fun r=>.bool (sB (Abz r)))
theorem We{W:World}(hW:Tabs W):GoodP (Fw W) Tryz.prog 23 Ahs:=by
 have hD:=A9 hW
 have hC0:∀ r:Request,Ad (Fw W) Tryz.prog An:=fun r=>(Bc hW)
 refine Ar (D:=A8) (C:=fun r=>An) (wr:=(fun _=>false)) rfl Ap hD hC0 Tryz.func23 (fun _ _=>none) (fun _=>rfl) ?_
 intro t hf hp
 clear hf
 have hm:Abz t=(decide (40<t.coupons.length) || decide (40<t.taxes.length) || decide (200<t.key.length) || decide (200<t.locator.length)):=by unfold Abz;rfl
 (conv=>whnf)
 (repeat' ((first
  |(split<;>rename_i hh<;>(try simp only[wS] at hh))
  |with_reducible refine lnI fun hln=>?_
  |fail)<;>(conv=>whnf)))
 all_goals (try (show _=_;simp only[wQ]))
 ·rw[hm,decide_eq_true (show 40<t.coupons.length by omega)];simp
 ·rw[hm,decide_eq_true (show 40<t.taxes.length by omega)];simp
 ·rw[hm,decide_eq_true (show 200<t.key.length by omega)];simp
 ·rw[hm,Dr,decide_eq_false (show¬40<t.coupons.length by omega),decide_eq_false (show¬40<t.taxes.length by omega),decide_eq_false (show¬200<t.key.length by omega)]
  simp only[Bool.false_or];exact decide_eq_decide.2 ⟨fun h=>by omega,fun h=>by omega⟩
def Aqn(k:Int):List UInt8:=cond (eqI k 1) [75,68,76,74,88] (cond (eqI k 2) [75,68,84,78,83] (cond (eqI k 3) [75,68,84] (cond (eqI k 4) [75,68,84,65] (cond (eqI k 5) [75,68,84,65,67,88] (cond (eqI k 6) [75,68,84,78] (cond (eqI k 7) [75,68,84,78] (cond (eqI k 8) [84] (cond (eqI k 9) [76] (cond (eqI k 10) [82] [])))))))))
theorem Aht{k:Int}(h: ¬(1≤k∧k≤10)):Aqn k=[]:=by
 unfold Aqn
 have e:∀ m:Int,1≤m→m≤10→eqI k m=false:=fun m h1 h2=>by
  rw[Be,beq_eq_false_iff_ne];omega
 simp only[e 1 (by decide) (by decide),e 2 (by decide) (by decide),e 3 (by decide) (by decide),e 4 (by decide) (by decide),e 5 (by decide) (by decide),e 6 (by decide) (by decide),e 7 (by decide) (by decide),e 8 (by decide) (by decide),e 9 (by decide) (by decide),e 10 (by decide) (by decide),cond_false]
theorem kinds{k:Int}(h:1≤k∧k≤10):k=1∨k=2∨k=3∨k=4∨k=5∨k=6∨k=7∨k=8∨k=9∨k=10:=by omega
def Ahu:PC:=PC.fun fun|[.int .i64 e]=>some (True,.str (Aqn e))|_=>none
theorem I1{W:World}(hW:Tabs W):GoodP (Fw W) Tryz.prog 75 Ahu:=by
 have hD:=A9 hW
 have hC0:Ad (Fw W) Tryz.prog An:=(Bc hW)
 refine Az (D:=A8) (C:=An) (wr:=(fun _=>false)) rfl Ap hD hC0 Tryz.func75 (fun _ _=>none) ?_
 clear hC0 hD hW
 intro cs p r h hf hp
 split at h
 case h_2=>cases h
 rename_i e
 cases h
 try simp only[Ax,Bh,Am,Go.Vc.lo,Go.Vc.hi,and_true] at hf
 by_cases h:1≤e∧e≤10
 ·rcases kinds h with rfl|rfl|rfl|rfl|rfl|rfl|rfl|rfl|rfl|rfl
  all_goals (
   (conv=>whnf)
   (repeat' ((first
    |((with_reducible refine aI ?_ ?_);focus (first|omega|exact tK))
    |with_reducible refine lnI fun hln=>?_
    |fail)<;>(conv=>whnf)))
   all_goals (try (show _=_;simp only[wQ]))
   )
  all_goals rfl
 ·clear hf
  (conv=>whnf)
  (repeat' ((first
   |((with_reducible refine aI ?_ ?_);focus (omega))
   |(split<;>rename_i hh<;>(try simp only[wS] at hh))
   |with_reducible refine lnI fun hln=>?_
   |fail)<;>(conv=>whnf)))
  all_goals (try (show _=_;simp only[wQ]))
  all_goals try (rw[Aht h];done)
  all_goals (exfalso;omega)
def D2:List (List UInt8):=[[105,115,115,117,101],[109,111,118,101],[118,111,105,100],[114,101,102,117,110,100],[101,120,99,104,97,110,103,101],[97,115,107],[114,101,116,117,114,110],[115,104,111,119],[102,105,110,100],[114,101,112,111,114,116]]
def Ahv:PC:=PC.fun fun|[]=>some (True,.sl false 1 10 (fun e=>[.str (D2.getD e [])]))|_=>none
theorem U8{W:World}(hW:Tabs W):GoodP (Fw W) Tryz.prog 80 Ahv:=by
 have hD:=A9 hW
 have hC0:Ad (Fw W) Tryz.prog An:=(Bc hW)
 refine Az (D:=A8) (C:=An) (wr:=(fun _=>false)) rfl Ap hD hC0 Tryz.func80 (fun _ _=>none) ?_
 clear hC0 hD hW
 intro cs p r h hf hp
 split at h
 case h_2=>cases h
 skip
 cases h
 try simp only[Ax,Bh,Am,Go.Vc.lo,Go.Vc.hi,and_true] at hf
 (conv=>whnf)
 (repeat' ((first
  |((with_reducible refine aI ?_ ?_);focus (first|with_reducible rfl|decide))
  |fail)<;>(conv=>whnf)))
 intro e he
 match e,he with
 |0,_=>first|rfl|exact⟨rfl,rfl⟩
 |1,_=>first|rfl|exact⟨rfl,rfl⟩
 |2,_=>first|rfl|exact⟨rfl,rfl⟩
 |3,_=>first|rfl|exact⟨rfl,rfl⟩
 |4,_=>first|rfl|exact⟨rfl,rfl⟩
 |5,_=>first|rfl|exact⟨rfl,rfl⟩
 |6,_=>first|rfl|exact⟨rfl,rfl⟩
 |7,_=>first|rfl|exact⟨rfl,rfl⟩
 |8,_=>first|rfl|exact⟨rfl,rfl⟩
 |9,_=>first|rfl|exact⟨rfl,rfl⟩
 |e+10,he=>exact absurd he (by omega)
def A12(s:List UInt8):LoopSpec:={
 α:=Nat
 keep:=[0,3]
 vals i:=[.str s,.int .i64 i]
 heap _:=[]
 ok i:=i≤s.length∧(s.take i).all isKey=true
 μ i:=s.length - i }
def S0:List AV→Nat→Option LR:=fun cs i=>match cs with|[.str s]=>cond (Nat.beq i 2) (some (.inv (A12 s))) (none)|_=>none
theorem S4{W:World}(hW:Tabs W):GoodP (Fw W) Tryz.prog 165 Sz:=by
 have hD:=A9 hW
 have hC0:Ad (Fw W) Tryz.prog An:=(Bc hW)
 refine Az (D:=A8) (C:=An) (wr:=(fun _=>false)) rfl Ap hD hC0 Tryz.func165 (S0) ?_
 clear hC0 hD hW
 intro cs p r h hf hp
 split at h
 case h_2=>cases h
 rename_i s
 cases h
 try simp only[Ax,Bh,Am,Go.Vc.lo,Go.Vc.hi,and_true] at hf
 (conv=>whnf)
 refine⟨?_,fun(i:Nat) (hi:i≤s.length∧(s.take i).all isKey=true)=>?_⟩
 ·(conv=>whnf)
  refine⟨(0:Nat),[],?_,⟨⟨rfl,(nB rfl),rfl⟩,?_,?_⟩⟩
  ·exact⟨Nat.zero_le _,by simp⟩
  ·exact Ac _
  ·exact tL
 ·obtain⟨h1,h2⟩:=hi
  have hk:i<s.length→((97≤((s.getD (Int.toNat (i:Int)) 0).toNat:Int)∧((s.getD (Int.toNat (i:Int)) 0).toNat:Int)≤122)∨(48≤((s.getD (Int.toNat (i:Int)) 0).toNat:Int)∧((s.getD (Int.toNat (i:Int)) 0).toNat:Int)≤57))→isKey (s.getD i 0)=true:=fun h hc=>P4.2 (by
   have hc':((97≤((s.getD i 0).toNat:Int)∧((s.getD i 0).toNat:Int)≤122)∨(48≤((s.getD i 0).toNat:Int)∧((s.getD i 0).toNat:Int)≤57)):=hc
   omega)
  have hn:i<s.length→¬((97≤((s.getD (Int.toNat (i:Int)) 0).toNat:Int)∧((s.getD (Int.toNat (i:Int)) 0).toNat:Int)≤122)∨(48≤((s.getD (Int.toNat (i:Int)) 0).toNat:Int)∧((s.getD (Int.toNat (i:Int)) 0).toNat:Int)≤57))→Fp s=false:=fun h hc=>by
   unfold Fp
   rw[Mw h (Bool.eq_false_iff.2 fun h=>by
    have h':=P4.1 h
    have hc': ¬((97≤((s.getD i 0).toNat:Int)∧((s.getD i 0).toNat:Int)≤122)∨(48≤((s.getD i 0).toNat:Int)∧((s.getD i 0).toNat:Int)≤57)):=hc
    omega)]
   rfl
  have hst:=Ho (p:=isKey) (l:=s) (i:=i)
  have hfin:s.length≤i→Fp s=(decide (1≤s.length)&&decide (s.length≤16)):=fun h=>by
   rw[List.take_of_length_le h] at h2
   unfold Fp;rw[h2,Bool.true_and]
  (conv=>whnf)
  (repeat' ((first
   |((with_reducible refine aI ?_ ?_);focus (first|omega|exact tK))
   |(split<;>rename_i hh<;>(try simp only[wS] at hh))
   |with_reducible refine lnI fun hln=>?_
   |fail)<;>(conv=>whnf)))
  all_goals (try (show _=_;simp only[wQ]))
  all_goals try (rw[hn (by omega) (by omega)];done)
  all_goals try (
   have h6:=hk (by omega) (by omega)
   (conv=>whnf)
   refine⟨(i+1:Nat),[],?_,⟨⟨rfl,(nB rfl),rfl⟩,?_,?_⟩⟩
   ·exact⟨⟨show i+1≤s.length by omega,by rw[hst (by omega),h2,h6];rfl⟩,show s.length - (i+1)<s.length - i by omega⟩
   ·exact Ac _
   ·exact tL
   done)
  all_goals (rw[hfin (by omega)];first|(rw[Ca,decide_eq_true (show 1≤s.length by omega),Bool.true_and];exact decide_eq_decide.2 ⟨fun h=>by omega,fun h=>by omega⟩)|(rw[decide_eq_false (show¬1≤s.length by omega)];rfl))
@[irreducible] def E8(most:Int)(l:List Coupon):Bool:=l.all (fun c=>Hg c 0)&&decide (1≤l.length)&&decide ((l.length:Int)≤most)
def Ahw:PC:=PC.of (fun x:List Coupon × Int=>[slE 6 Coupon.enc x.1,.int .i64 x.2]) (fun _=>True) (fun x=>.bool (sB (E8 x.2 x.1)))
def LCo(l:List Coupon)(m:Int):LoopSpec:={
 α:=Nat
 keep:=[0,1,5]
 vals i:=[slE 6 Coupon.enc l,.int .i64 m,.int .i64 i]
 heap _:=[]
 ok i:=i≤l.length∧∀ j,j<i→Hg (l.getD j default) 0=true
 μ i:=l.length - i }
theorem Axd{α:Type}[Inhabited α]{p:α→Bool}{l:List α}(h:∀ j,j<l.length→p (l.getD j default)=true):l.all p=true:=by
 refine List.all_eq_true.2 fun x hx=>?_
 obtain⟨i,hi,rfl⟩:=List.getElem_of_mem hx
 have:=h i hi
 rw[List.getD_eq_getElem?_getD,List.getElem?_eq_getElem hi] at this
 exact this
theorem Agc{α:Type}[Inhabited α]{p:α→Bool}{l:List α}{i:Nat}(hi:i<l.length)(h:p (l.getD i default)=false):l.all p=false:=by
 refine Bool.eq_false_iff.2 fun ha=>?_
 rw[List.getD_eq_getElem?_getD,List.getElem?_eq_getElem hi] at h
 have:=List.all_eq_true.1 ha _ (List.getElem_mem hi)
 rw[show(some l[i]).getD default=l[i] from rfl,this] at h
 cases h
def Ez:PT:=C2 [(70,Ahl)]
theorem Hq{W:World}(hW:Tabs W):Cl (Fw W) Tryz.prog Ez:=(Ab Tryz.call70 (U3 hW) As)
def E0:FuncId→Option Ctr:=Aw Ez []
theorem O3{W:World}(hW:Tabs W):Ad (Fw W) Tryz.prog E0:=(Au (Hq hW))
def O4:List Coupon × Int→Nat→Option LR:=fun x i=>cond (Nat.beq i 2) (some (.inv (LCo x.1 x.2))) (none)
theorem O5{W:World}(hW:Tabs W):GoodP (Fw W) Tryz.prog 166 Ahw:=by
 have hD:=Hq hW
 have hC0:∀ x:List Coupon × Int,Ad (Fw W) Tryz.prog E0:=fun x=>(O3 hW)
 refine Ar (D:=Ez) (C:=fun x=>E0) (wr:=(fun _=>false)) rfl Ap hD hC0 Tryz.func166 (O4) (fun _=>rfl) ?_
 rintro⟨l,m⟩ hf hp
 clear hf
 (conv=>whnf)
 refine⟨?_,fun(i:Nat) hi=>?_⟩
 ·(conv=>whnf)
  refine⟨(0:Nat),[],?_,⟨⟨rfl,(nB rfl),rfl⟩,?_,?_⟩⟩
  ·exact⟨Nat.zero_le _,fun j hj=>absurd hj (Nat.not_lt_zero _)⟩
  ·exact Ac _
  ·exact tL
 ·obtain⟨h1,h2⟩:=hi
  have h1:i≤l.length:=h1
  (conv=>whnf)
  (repeat' ((first
   |((with_reducible refine aI ?_ ?_);focus (((with_reducible refine⟨?_,?_⟩)<;>first|with_reducible assumption|omega)))
   |(split<;>rename_i hh<;>(try simp only[wS] at hh))
   |with_reducible refine lnI fun hln=>?_
   |fail)<;>(conv=>whnf)))
  all_goals (try (show _=_;simp only[wQ]))
  refine⟨(l.getD (Int.toNat (i:Int)) default,(0:Int)),True.intro,?_,?_⟩
  ·exact Ac _
  (conv=>whnf)
  (repeat' ((first
   |((with_reducible refine aI ?_ ?_);focus ((dsimp only at*;simp only[Am,Go.Vc.lo,Go.Vc.hi];omega)))
   |(split<;>rename_i hh<;>(try simp only[wS] at hh))
   |fail)<;>(conv=>whnf)))
  all_goals (try (show _=_;simp only[wQ]))
  ·have:l.all (fun c=>Hg c 0)=false:=Agc (i:=i) (by omega) (by assumption)
   unfold E8;rw[this];rfl
  ·(conv=>whnf)
   refine⟨(i+1:Nat),[],?_,⟨⟨rfl,(nB rfl),rfl⟩,?_,?_⟩⟩
   ·refine⟨⟨show i+1≤l.length by omega,fun j hj=>?_⟩,show l.length - (i+1)<l.length - i by omega⟩
    have hj:j<i+1:=hj
    by_cases he:j=i
    ·subst he;assumption
    ·exact h2 j (by omega)
   ·exact Ac _
   ·exact tL
  all_goals (
   have:l.all (fun c=>Hg c 0)=true:=Axd fun j hj=>h2 j (by omega)
   unfold E8;rw[this];simp only[Bool.true_and,Ca])
  all_goals first|(rw[decide_eq_true (show 1≤l.length by omega),Bool.true_and];rfl)|(rw[decide_eq_false (show¬1≤l.length by omega)];rfl)
def LTx(l:List Tax):LoopSpec:={
 α:=Nat
 keep:=[0,3]
 vals i:=[slE 2 Tax.enc l,.int .i64 i]
 heap _:=[]
 ok i:=i≤l.length∧(0<i→1≤(l.getD (i - 1) default).code)∧Cs (if i=0 then 1 else(l.getD (i - 1) default).code+1) (l.drop i)=Cs 1 l
 μ i:=l.length - i }
def Fq:PT:=C2 [(139,zC)]
theorem I2{W:World}(hW:Tabs W):Cl (Fw W) Tryz.prog Fq:=(Ab Tryz.call139 (H1 hW) As)
def Fs:FuncId→Option Ctr:=Aw Fq []
theorem Qw{W:World}(hW:Tabs W):Ad (Fw W) Tryz.prog Fs:=(Au (I2 hW))
def Qx:List Tax→Nat→Option LR:=fun l i=>cond (Nat.beq i 2) (some (.inv (LTx l))) (none)
theorem Qy{W:World}(hW:Tabs W):GoodP (Fw W) Tryz.prog 167 Ahk:=by
 have hD:=I2 hW
 have hC0:∀ l:List Tax,Ad (Fw W) Tryz.prog Fs:=fun l=>(Qw hW)
 refine Ar (D:=Fq) (C:=fun l=>Fs) (wr:=(fun _=>false)) rfl Ap hD hC0 Tryz.func167 (Qx) (fun _=>rfl) ?_
 intro l hf hp
 have hbad:∀ (h:(Cs 1 l=true→False)),false=De l:=fun h=>by
  symm
  refine Bool.eq_false_iff.2 fun hm=>?_
  unfold De at hm
  simp only[Bool.and_eq_true,decide_eq_true_eq] at hm
  exact h hm.1
 (conv=>whnf)
 refine⟨?_,fun(k:Nat) hk=>?_⟩
 ·(conv=>whnf)
  refine⟨(0:Nat),[],?_,⟨⟨rfl,(nB rfl),rfl⟩,?_,?_⟩⟩
  ·exact⟨Nat.zero_le _,fun h=>absurd h (by omega),rfl⟩
  ·exact Ac _
  ·exact tL
 ·obtain⟨g1,g2,g3⟩:=hk
  have g1:k≤l.length:=g1
  have e1:Int.toNat ((k:Int) - 1)=k - 1:=by omega
  have hd2:k<l.length→Cs 1 l=true→((0<k→(l.getD (Int.toNat ((k:Int) - 1)) default).code+1≤(l.getD (Int.toNat (k:Int)) default).code)∧(k=0→1≤(l.getD (Int.toNat (k:Int)) default).code))∧(l.getD (Int.toNat (k:Int)) default).code≤99∧Dh (l.getD (Int.toNat (k:Int)) default).amount=true:=fun h h2=>by
   rw[←g3,pU h] at h2
   simp only[Cs,Bool.and_eq_true,decide_eq_true_eq] at h2
   obtain⟨⟨⟨b1,b2⟩,b3⟩,b4⟩:=h2
   rw[e1]
   refine⟨⟨fun hk=>?_,fun hk=>?_⟩,b2,b3⟩
   ·rw[if_neg (by omega)] at b1;exact b1
   ·rw[if_pos hk] at b1;exact b1
  have hd3:k<l.length→(0<k→(l.getD (Int.toNat ((k:Int) - 1)) default).code<(l.getD (Int.toNat (k:Int)) default).code)→1≤(l.getD (Int.toNat (k:Int)) default).code→(l.getD (Int.toNat (k:Int)) default).code≤99→Dh (l.getD (Int.toNat (k:Int)) default).amount=true→(LTx l).ok (k+1)∧(LTx l).μ (k+1)<(LTx l).μ k:=fun h b1 b2 b3 b4=>by
   refine⟨⟨show k+1≤l.length by omega,fun _=>b2,?_⟩,show l.length - (k+1)<l.length - k by omega⟩
   show Cs (if k+1=0 then 1 else(l.getD k default).code+1) (l.drop (k+1))=_
   rw[←g3,pU h,if_neg (by omega)]
   simp only[Cs]
   rw[e1] at b1
   rw[show decide ((if k=0 then 1 else(l.getD (k - 1) default).code+1)≤(l.getD k default).code)=true from ?_,decide_eq_true (show(l.getD k default).code≤99 from b3),(show Dh (l.getD k default).amount=true from b4)]
   ·rfl
   ·rw[decide_eq_true_eq]
    by_cases hk:k=0
    ·rw[if_pos hk];exact b2
    ·rw[if_neg hk];exact b1 (by omega)
  rw[←e1] at g2
  clear hf
  (conv=>whnf)
  (repeat' ((first
   |((with_reducible refine aI ?_ ?_);focus (first|with_reducible exact⟨⟩|exact tO|omega|exact tK))
   |(split<;>rename_i hh<;>(try simp only[wS] at hh))
   |with_reducible refine lnI fun hln=>?_
   |fail)<;>(conv=>whnf)))
  all_goals (try (show _=_;simp only[wQ]))
  all_goals try (
   refine hbad fun k6=>?_
   obtain⟨⟨b1,b2⟩,b3,b4⟩:=hd2 (by omega) k6
   first|omega|(rename_i hh;rw[b4] at hh;cases hh))
  all_goals try (
   (conv=>whnf)
   refine⟨(k+1:Nat),[],?_,⟨⟨rfl,(nB rfl),rfl⟩,?_,?_⟩⟩
   ·exact hd3 (by omega) (by omega) (by omega) (by omega) (by assumption)
   ·exact Ac _
   ·exact tL
   done)
  all_goals (
   have ht:Cs 1 l=true:=by rw[←g3,List.drop_eq_nil_of_le (by omega)];rfl
   unfold De
   rw[ht,Ca,Bool.true_and,Bool.eq_iff_iff,decide_eq_true_eq,decide_eq_true_eq];omega)
end
end Go.Vc.Z
namespace Go.Vc.Z
open Go Go.Vc Go.Proofs
theorem Ana:Dec Tryz.prog 56 Request.enc:=by
 intro H enc W fuel cs x hx
 obtain⟨hl,hf⟩:=H0 Awp rfl hx
 obtain⟨a0,h0⟩:=hf 0 0 1 9 ty9 rfl ok9 rfl (Ahe ok9 rfl)
 obtain⟨a1,h1⟩:=hf 1 1 1 54 Amb rfl Awn rfl (Db Awn rfl)
 obtain⟨a2,h2⟩:=hf 2 2 1 3 ty3 rfl ok3 rfl (Db ok3 rfl)
 obtain⟨a3,h3⟩:=hf 3 3 1 37 Co rfl Al9 rfl (Db Al9 rfl)
 obtain⟨a4,h4⟩:=hf 4 4 1 3 ty3 rfl ok3 rfl (Db ok3 rfl)
 obtain⟨a5,h5⟩:=hf 5 5 1 43 Cp rfl Ama rfl (Db Ama rfl)
 obtain⟨a6,h6⟩:=hf 6 6 1 9 ty9 rfl ok9 rfl (Ahe ok9 rfl)
 obtain⟨a7,h7⟩:=hf 7 7 1 38 Awi rfl Awj rfl (Pr Awj rfl Awm rfl (by decide) Aqe)
 obtain⟨a8,h8⟩:=hf 8 8 1 39 Awk rfl Awl rfl (Pr Awl rfl Amc rfl (by decide) A4i)
 obtain⟨a9,h9⟩:=hf 9 9 1 2 ty2 rfl ok2 rfl (Db ok2 rfl)
 obtain⟨a10,h10⟩:=hf 10 10 1 3 ty3 rfl ok3 rfl (Db ok3 rfl)
 obtain⟨a11,h11⟩:=hf 11 11 1 3 ty3 rfl ok3 rfl (Db ok3 rfl)
 exact⟨⟨a0,a1,a2,a3,a4,a5,a6,a7,a8,a9,a10,a11⟩,h0.step (h1.step (h2.step (h3.step (h4.step (h5.step (h6.step (h7.step (h8.step (h9.step (h10.step (h11.step (CV.nil hl))))))))))))⟩
end Go.Vc.Z
namespace Go.Vc
open Go
variable {H : Type} {enc : TypeId × Value → H} {P : Program} {W : World}
end Go.Vc
namespace Go.Proofs
open Go.Shelf Go.RowKit
set_option maxRecDepth 1000000
def Tryz.lays172_ren:Go.Shelf.Ren:=⟨fun|172=>179|244=>245|245=>246|247=>287|279=>288|280=>289|281=>290|282=>291|287=>309|316=>310|171=>111|205=>311|321=>317|322=>318|243=>189|246=>190|283=>203|284=>204|285=>205|286=>206|129=>267|317=>266|318=>268|319=>269|320=>270|337=>301|338=>302|n=>n,fun|9=>9|3=>3|75=>154|76=>155|4=>4|5=>5|167=>296|37=>150|0=>0|85=>297|2=>2|168=>299|53=>37|175=>312|46=>284|210=>316|127=>221|145=>337|143=>335|21=>21|171=>233|173=>235|212=>281|51=>282|20=>20|213=>283|232=>323|233=>324|80=>162|n=>n,fun|15=>2|16=>3|17=>0|18=>4|19=>5|n=>n⟩
theorem Tryz.lays172:Go.Proofs.LaysC.n172 Tryz.prog Tryz.lays172_ren:={
 mixed:=by kernel_rfl
 f129:=Tryz.func267.trans (congrArg some (by kernel_rfl))
 f171:=Tryz.func111.trans (congrArg some (by kernel_rfl))
 f172:=Tryz.func179.trans (congrArg some (by kernel_rfl))
 f205:=Tryz.func311.trans (congrArg some (by kernel_rfl))
 f243:=Tryz.func189.trans (congrArg some (by kernel_rfl))
 f244:=Tryz.func245.trans (congrArg some (by kernel_rfl))
 f245:=Tryz.func246.trans (congrArg some (by kernel_rfl))
 f246:=Tryz.func190.trans (congrArg some (by kernel_rfl))
 f247:=Tryz.func287.trans (congrArg some (by kernel_rfl))
 f279:=Tryz.func288.trans (congrArg some (by kernel_rfl))
 f280:=Tryz.func289.trans (congrArg some (by kernel_rfl))
 f281:=Tryz.func290.trans (congrArg some (by kernel_rfl))
 f282:=Tryz.func291.trans (congrArg some (by kernel_rfl))
 f283:=Tryz.func203.trans (congrArg some (by kernel_rfl))
 f284:=Tryz.func204.trans (congrArg some (by kernel_rfl))
 f285:=Tryz.func205.trans (congrArg some (by kernel_rfl))
 f286:=Tryz.func206.trans (congrArg some (by kernel_rfl))
 f287:=Tryz.func309.trans (congrArg some (by kernel_rfl))
 f316:=Tryz.func310.trans (congrArg some (by kernel_rfl))
 f317:=Tryz.func266.trans (congrArg some (by kernel_rfl))
 f318:=Tryz.func268.trans (congrArg some (by kernel_rfl))
 f319:=Tryz.func269.trans (congrArg some (by kernel_rfl))
 f320:=Tryz.func270.trans (congrArg some (by kernel_rfl))
 f321:=Tryz.func317.trans (congrArg some (by kernel_rfl))
 f322:=Tryz.func318.trans (congrArg some (by kernel_rfl))
 f337:=Tryz.func301.trans (congrArg some (by kernel_rfl))
 f338:=Tryz.func302.trans (congrArg some (by kernel_rfl))
 t0:=Tryz.underlying0
 a0:=Tryz.isAgg0
 z0:=Tryz.sizeOf0
 v0:=Tryz.zeroValue0
 t2:=Tryz.underlying2
 a2:=Tryz.isAgg2
 z2:=Tryz.sizeOf2
 v2:=Tryz.zeroValue2
 t3:=Tryz.underlying3
 a3:=Tryz.isAgg3
 z3:=Tryz.sizeOf3
 v3:=Tryz.zeroValue3
 t4:=Tryz.underlying4
 a4:=Tryz.isAgg4
 z4:=Tryz.sizeOf4
 v4:=Tryz.zeroValue4
 t5:=Tryz.underlying5
 a5:=Tryz.isAgg5
 z5:=Tryz.sizeOf5
 v5:=Tryz.zeroValue5
 t9:=Tryz.underlying9
 a9:=Tryz.isAgg9
 z9:=Tryz.sizeOf9
 v9:=Tryz.zeroValue9
 t20:=Tryz.underlying20
 a20:=Tryz.isAgg20
 z20:=Tryz.sizeOf20
 v20:=Tryz.zeroValue20
 t21:=Tryz.underlying21
 a21:=Tryz.isAgg21
 z21:=Tryz.sizeOf21
 v21:=Tryz.zeroValue21
 t37:=Tryz.underlying150
 a37:=Tryz.isAgg150
 z37:=Tryz.sizeOf150
 v37:=Tryz.zeroValue150
 t46:=Tryz.underlying284
 a46:=Tryz.isAgg284
 z46:=Tryz.sizeOf284
 v46:=Tryz.zeroValue284
 t51:=Tryz.underlying282
 a51:=Tryz.isAgg282
 z51:=Tryz.sizeOf282
 v51:=Tryz.zeroValue282
 t53:=Tryz.underlying37
 a53:=Tryz.isAgg37
 z53:=Tryz.sizeOf37
 v53:=Tryz.zeroValue37
 t75:=Tryz.underlying154
 a75:=Tryz.isAgg154
 z75:=Tryz.sizeOf154
 v75:=Tryz.zeroValue154
 t76:=Tryz.underlying155
 a76:=Tryz.isAgg155
 z76:=Tryz.sizeOf155
 v76:=Tryz.zeroValue155
 t85:=Tryz.underlying297
 a85:=Tryz.isAgg297
 z85:=Tryz.sizeOf297
 v85:=Tryz.zeroValue297
 t127:=Tryz.underlying221
 a127:=Tryz.isAgg221
 z127:=Tryz.sizeOf221
 v127:=Tryz.zeroValue221
 t143:=Tryz.underlying335
 a143:=Tryz.isAgg335
 z143:=Tryz.sizeOf335
 v143:=Tryz.zeroValue335
 t145:=Tryz.underlying337
 a145:=Tryz.isAgg337
 z145:=Tryz.sizeOf337
 v145:=Tryz.zeroValue337
 t167:=Tryz.underlying296
 a167:=Tryz.isAgg296
 z167:=Tryz.sizeOf296
 v167:=Tryz.zeroValue296
 t168:=Tryz.underlying299
 a168:=Tryz.isAgg299
 z168:=Tryz.sizeOf299
 v168:=Tryz.zeroValue299
 t171:=Tryz.underlying233
 a171:=Tryz.isAgg233
 z171:=Tryz.sizeOf233
 v171:=Tryz.zeroValue233
 t173:=Tryz.underlying235
 a173:=Tryz.isAgg235
 z173:=Tryz.sizeOf235
 v173:=Tryz.zeroValue235
 t175:=Tryz.underlying312
 a175:=Tryz.isAgg312
 z175:=Tryz.sizeOf312
 v175:=Tryz.zeroValue312
 t210:=Tryz.underlying316
 a210:=Tryz.isAgg316
 z210:=Tryz.sizeOf316
 v210:=Tryz.zeroValue316
 t212:=Tryz.underlying281
 a212:=Tryz.isAgg281
 z212:=Tryz.sizeOf281
 v212:=Tryz.zeroValue281
 t213:=Tryz.underlying283
 a213:=Tryz.isAgg283
 z213:=Tryz.sizeOf283
 t232:=Tryz.underlying323
 a232:=Tryz.isAgg323
 z232:=Tryz.sizeOf323
 v232:=Tryz.zeroValue323
 t233:=Tryz.underlying324
 a233:=Tryz.isAgg324
 z233:=Tryz.sizeOf324
 v233:=Tryz.zeroValue324
 g15:=by kernel_rfl
 g16:=by kernel_rfl
 g17:=by kernel_rfl
 g18:=by kernel_rfl
 g19:=by kernel_rfl
 t80:=Tryz.underlying162
 a80:=Tryz.isAgg162
 z80:=Tryz.sizeOf162
 v80:=Tryz.zeroValue162
 i0:=by kernel_rfl
 i2:=by kernel_rfl
 i3:=by kernel_rfl
 i4:=by kernel_rfl
 i5:=by kernel_rfl
 i9:=by kernel_rfl
 i20:=by kernel_rfl
 i21:=by kernel_rfl
 i37:=by kernel_rfl
 i46:=by kernel_rfl
 i51:=by kernel_rfl
 i53:=by kernel_rfl
 i75:=by kernel_rfl
 i76:=by kernel_rfl
 i80:=by kernel_rfl
 i85:=by kernel_rfl
 i127:=by kernel_rfl
 i143:=by kernel_rfl
 i145:=by kernel_rfl
 i167:=by kernel_rfl
 i168:=by kernel_rfl
 i171:=by kernel_rfl
 i173:=by kernel_rfl
 i175:=by kernel_rfl
 i210:=by kernel_rfl
 i212:=by kernel_rfl
 i232:=by kernel_rfl
 i233:=by kernel_rfl
 m15:=by kernel_rfl
 m16:=by kernel_rfl
 m17:=by kernel_rfl
 m18:=by kernel_rfl
 m19:=by kernel_rfl
 c0:=by kernel_rfl
 c2:=by kernel_rfl
 c3:=by kernel_rfl
 c4:=by kernel_rfl
 c5:=by kernel_rfl
 c9:=by kernel_rfl
 c20:=by kernel_rfl
 c21:=by kernel_rfl
 c37:=by kernel_rfl
 c46:=by kernel_rfl
 c51:=by kernel_rfl
 c53:=by kernel_rfl
 c75:=by kernel_rfl
 c76:=by kernel_rfl
 c80:=by kernel_rfl
 c85:=by kernel_rfl
 c127:=by kernel_rfl
 c143:=by kernel_rfl
 c145:=by kernel_rfl
 c167:=by kernel_rfl
 c168:=by kernel_rfl
 c171:=by kernel_rfl
 c173:=by kernel_rfl
 c175:=by kernel_rfl
 c210:=by kernel_rfl
 c212:=by kernel_rfl
 c213:=by kernel_rfl
 c232:=by kernel_rfl
 c233:=by kernel_rfl }
end Go.Proofs
namespace Go.Proofs
open Go.Shelf Go.RowKit
set_option maxRecDepth 1000000
def Tryz.lays143_ren:Go.Shelf.Ren:=⟨fun|143=>220|219=>243|217=>283|225=>284|224=>285|267=>286|266=>307|314=>308|n=>n,fun|9=>9|3=>3|4=>4|5=>5|46=>284|146=>310|51=>282|n=>n,fun|1=>1|n=>n⟩
theorem Tryz.lays143:Go.Proofs.Lays.n143 Tryz.prog Tryz.lays143_ren:={
 mixed:=by kernel_rfl
 f143:=Tryz.func220.trans (congrArg some (by kernel_rfl))
 f217:=Tryz.func283.trans (congrArg some (by kernel_rfl))
 f219:=Tryz.func243.trans (congrArg some (by kernel_rfl))
 f224:=Tryz.func285.trans (congrArg some (by kernel_rfl))
 f225:=Tryz.func284.trans (congrArg some (by kernel_rfl))
 f266:=Tryz.func307.trans (congrArg some (by kernel_rfl))
 f267:=Tryz.func286.trans (congrArg some (by kernel_rfl))
 f314:=Tryz.func308.trans (congrArg some (by kernel_rfl))
 t3:=Tryz.underlying3
 a3:=Tryz.isAgg3
 z3:=Tryz.sizeOf3
 v3:=Tryz.zeroValue3
 t4:=Tryz.underlying4
 a4:=Tryz.isAgg4
 z4:=Tryz.sizeOf4
 v4:=Tryz.zeroValue4
 t5:=Tryz.underlying5
 a5:=Tryz.isAgg5
 z5:=Tryz.sizeOf5
 v5:=Tryz.zeroValue5
 t9:=Tryz.underlying9
 a9:=Tryz.isAgg9
 z9:=Tryz.sizeOf9
 v9:=Tryz.zeroValue9
 t46:=Tryz.underlying284
 a46:=Tryz.isAgg284
 z46:=Tryz.sizeOf284
 v46:=Tryz.zeroValue284
 t51:=Tryz.underlying282
 a51:=Tryz.isAgg282
 z51:=Tryz.sizeOf282
 v51:=Tryz.zeroValue282
 t146:=Tryz.underlying310
 a146:=Tryz.isAgg310
 z146:=Tryz.sizeOf310
 v146:=Tryz.zeroValue310
 g1:=by kernel_rfl }
def Tryz.lays145_ren:Go.Shelf.Ren:=⟨fun|145=>94|220=>177|219=>243|217=>283|225=>284|224=>285|267=>286|266=>307|314=>308|n=>n,fun|9=>9|4=>4|59=>143|3=>3|5=>5|46=>284|146=>310|51=>282|n=>n,fun|1=>1|n=>n⟩
theorem Tryz.lays145:Go.Proofs.Lays.n145 Tryz.prog Tryz.lays145_ren:={
 mixed:=by kernel_rfl
 f145:=Tryz.func94.trans (congrArg some (by kernel_rfl))
 f217:=Tryz.func283.trans (congrArg some (by kernel_rfl))
 f219:=Tryz.func243.trans (congrArg some (by kernel_rfl))
 f220:=Tryz.func177.trans (congrArg some (by kernel_rfl))
 f224:=Tryz.func285.trans (congrArg some (by kernel_rfl))
 f225:=Tryz.func284.trans (congrArg some (by kernel_rfl))
 f266:=Tryz.func307.trans (congrArg some (by kernel_rfl))
 f267:=Tryz.func286.trans (congrArg some (by kernel_rfl))
 f314:=Tryz.func308.trans (congrArg some (by kernel_rfl))
 t3:=Tryz.underlying3
 a3:=Tryz.isAgg3
 z3:=Tryz.sizeOf3
 v3:=Tryz.zeroValue3
 t4:=Tryz.underlying4
 a4:=Tryz.isAgg4
 z4:=Tryz.sizeOf4
 v4:=Tryz.zeroValue4
 t5:=Tryz.underlying5
 a5:=Tryz.isAgg5
 z5:=Tryz.sizeOf5
 v5:=Tryz.zeroValue5
 t9:=Tryz.underlying9
 a9:=Tryz.isAgg9
 z9:=Tryz.sizeOf9
 v9:=Tryz.zeroValue9
 t46:=Tryz.underlying284
 a46:=Tryz.isAgg284
 z46:=Tryz.sizeOf284
 v46:=Tryz.zeroValue284
 t51:=Tryz.underlying282
 a51:=Tryz.isAgg282
 z51:=Tryz.sizeOf282
 v51:=Tryz.zeroValue282
 t59:=Tryz.underlying143
 a59:=Tryz.isAgg143
 z59:=Tryz.sizeOf143
 v59:=Tryz.zeroValue143
 t146:=Tryz.underlying310
 a146:=Tryz.isAgg310
 z146:=Tryz.sizeOf310
 v146:=Tryz.zeroValue310
 g1:=by kernel_rfl }
def Tryz.lays146_ren:Go.Shelf.Ren:=⟨fun|146=>78|221=>168|268=>236|138=>237|143=>220|195=>280|197=>281|218=>282|219=>243|260=>306|217=>283|225=>284|224=>285|267=>286|266=>307|314=>308|n=>n,fun|9=>9|31=>32|3=>3|4=>4|0=>0|105=>293|21=>21|5=>5|46=>284|119=>330|139=>333|138=>332|146=>310|51=>282|n=>n,fun|1=>1|3=>6|4=>7|n=>n⟩
theorem Tryz.lays146:Go.Proofs.Lays.n146 Tryz.prog Tryz.lays146_ren:={
 mixed:=by kernel_rfl
 f138:=Tryz.func237.trans (congrArg some (by kernel_rfl))
 f143:=Tryz.func220.trans (congrArg some (by kernel_rfl))
 f146:=Tryz.func78.trans (congrArg some (by kernel_rfl))
 f195:=Tryz.func280.trans (congrArg some (by kernel_rfl))
 f197:=Tryz.func281.trans (congrArg some (by kernel_rfl))
 f217:=Tryz.func283.trans (congrArg some (by kernel_rfl))
 f218:=Tryz.func282.trans (congrArg some (by kernel_rfl))
 f219:=Tryz.func243.trans (congrArg some (by kernel_rfl))
 f221:=Tryz.func168.trans (congrArg some (by kernel_rfl))
 f224:=Tryz.func285.trans (congrArg some (by kernel_rfl))
 f225:=Tryz.func284.trans (congrArg some (by kernel_rfl))
 f260:=Tryz.func306.trans (congrArg some (by kernel_rfl))
 f266:=Tryz.func307.trans (congrArg some (by kernel_rfl))
 f267:=Tryz.func286.trans (congrArg some (by kernel_rfl))
 f268:=Tryz.func236.trans (congrArg some (by kernel_rfl))
 f314:=Tryz.func308.trans (congrArg some (by kernel_rfl))
 t0:=Tryz.underlying0
 a0:=Tryz.isAgg0
 z0:=Tryz.sizeOf0
 v0:=Tryz.zeroValue0
 t3:=Tryz.underlying3
 a3:=Tryz.isAgg3
 z3:=Tryz.sizeOf3
 v3:=Tryz.zeroValue3
 t4:=Tryz.underlying4
 a4:=Tryz.isAgg4
 z4:=Tryz.sizeOf4
 v4:=Tryz.zeroValue4
 t5:=Tryz.underlying5
 a5:=Tryz.isAgg5
 z5:=Tryz.sizeOf5
 v5:=Tryz.zeroValue5
 t9:=Tryz.underlying9
 a9:=Tryz.isAgg9
 z9:=Tryz.sizeOf9
 v9:=Tryz.zeroValue9
 t21:=Tryz.underlying21
 a21:=Tryz.isAgg21
 z21:=Tryz.sizeOf21
 v21:=Tryz.zeroValue21
 t31:=Tryz.underlying32
 a31:=Tryz.isAgg32
 z31:=Tryz.sizeOf32
 v31:=Tryz.zeroValue32
 t46:=Tryz.underlying284
 a46:=Tryz.isAgg284
 z46:=Tryz.sizeOf284
 v46:=Tryz.zeroValue284
 t51:=Tryz.underlying282
 a51:=Tryz.isAgg282
 z51:=Tryz.sizeOf282
 v51:=Tryz.zeroValue282
 t105:=Tryz.underlying293
 a105:=Tryz.isAgg293
 z105:=Tryz.sizeOf293
 v105:=Tryz.zeroValue293
 t119:=Tryz.underlying330
 a119:=Tryz.isAgg330
 z119:=Tryz.sizeOf330
 t138:=Tryz.underlying332
 a138:=Tryz.isAgg332
 z138:=Tryz.sizeOf332
 v138:=Tryz.zeroValue332
 t139:=Tryz.underlying333
 a139:=Tryz.isAgg333
 z139:=Tryz.sizeOf333
 v139:=Tryz.zeroValue333
 t146:=Tryz.underlying310
 a146:=Tryz.isAgg310
 z146:=Tryz.sizeOf310
 v146:=Tryz.zeroValue310
 g1:=by kernel_rfl
 g3:=by kernel_rfl
 g4:=by kernel_rfl }
end Go.Proofs
