/- Words of lists. -/
import Derived.Test.YtpmpclbdnakniaaGreatDoorV11
set_option linter.all false
set_option linter.unusedVariables false
set_option linter.unusedSimpArgs false
namespace Go.Vc.Z
open Go Go.Vc Go.Proofs Go.RowKit Go.Pl Go.Lib
noncomputable section
set_option maxRecDepth 100000
attribute [local irreducible] inK Utf8.decode Utf8.encode Lib.itoa Pl.worth Pl.allDig
attribute [local irreducible] Lib.join
def An1(l:List (List UInt8)):Blk:=match l with
 |[]=>.dead
 |c::l=>.row 1 (l.length+1) (fun e=>[.str ((c::l).getD e [])])
def An2(id:Nat):List (List UInt8)→AV
 |[]=>.nilsl
 |_::l=>.osl id 1 0 (l.length+1) none
theorem R8{l:List (List UInt8)}{n:Nat}{d:List UInt8}{g b:Nat→List AV}(hn:n=l.length)(hg:∀ e,e<l.length→g e=[.str (l.getD e [])])(hb:b 0=[.str d]){e:Nat}(he:e<n+1):Bu n g b e=[AV.str ((l++[d]).getD e [])]:=by
 subst hn
 rw[←zX (L:=l) (b:=b) hb (by simpa using he)]
 unfold Bu
 split
 ·exact hg e (by assumption)
 ·rfl
def Jd:PT:=D1 [(111,Iw)]
theorem N1{W:World}(hW:Tabs W):Dj (Fw W) Tryz.prog Jd:=(Ae Tryz.call111 (Acl hW) A6)
def Je:FuncId→Option Ctr:=Av Jd []
theorem Wg{W:World}(hW:Tabs W):Ad (Fw W) Tryz.prog Je:=(A7 (N1 hW))
theorem Ei{W:World}(hW:Tabs W):GoodP (Fw W) Tryz.prog 46 Iw:=by
 have hD:=N1 hW
 have hC0:Ad (Fw W) Tryz.prog Je:=(Wg hW)
 refine Be (D:=Jd) (C:=Je) (wr:=(fun _=>false)) rfl Aq hD hC0 Tryz.func46 (fun _ _=>none) ?_
 clear hC0 hD hW
 intro cs p r h hf hp
 split at h
 case h_2=>cases h
 rename_i n
 cases h
 try simp only[Bl,Cm,Ar,Go.Vc.lo,Go.Vc.hi,and_true] at hf
 (conv=>whnf)
 (repeat' ((first
  |((with_reducible refine aI ?_ ?_);focus (with_reducible exact⟨⟩))
  |fail)<;>(conv=>whnf)))
theorem Mk(n:Int):(D3 n).length≤31:=by
 unfold D3
 split
 ·rename_i h
  unfold Es at h;simp at h
  exact yH (by omega)
 ·simp
@[irreducible] def Gh(x:Tax):List UInt8:=Lib.itoa x.code++[61]++D3 x.amount
theorem rZ{x:Tax}(h: -9223372036854775808≤x.code∧x.code≤9223372036854775807):(Gh x).length≤70:=by
 unfold Gh
 have:=Dd x.code h.1 h.2
 have:=Mk x.amount
 simp only[List.length_append,List.length_cons,List.length_nil];omega
def yJ:PC:=PC.fun fun|[.agg [.int .i64 c,.int .i64 a]]=>some (True,.str (sS (Gh ⟨c,a⟩)))|_=>none
def Ga:PT:=D1 [(46,Iw),(132,pG)]
theorem If{W:World}(hW:Tabs W):Dj (Fw W) Tryz.prog Ga:=(Ae Tryz.call46 (Ei hW) (Ae Tryz.call132 (zZ hW) A6))
def Ex:FuncId→Option Ctr:=Av Ga []
theorem Ml{W:World}(hW:Tabs W):Ad (Fw W) Tryz.prog Ex:=(A7 (If hW))
theorem Mm{W:World}(hW:Tabs W):GoodP (Fw W) Tryz.prog 131 yJ:=by
 have hD:=If hW
 have hC0:Ad (Fw W) Tryz.prog Ex:=(Ml hW)
 refine Be (D:=Ga) (C:=Ex) (wr:=(fun _=>false)) rfl Aq hD hC0 Tryz.func131 (fun _ _=>none) ?_
 clear hC0 hD hW
 intro cs p r h hf hp
 split at h
 case h_2=>cases h
 rename_i c a
 cases h
 try simp only[Bl,Cm,Ar,Go.Vc.lo,Go.Vc.hi,and_true] at hf
 have l1:=Dd c (by omega) (by omega)
 have l2:=Mk a
 have l3:=rZ (x:=⟨c,a⟩) (by simp;omega)
 (conv=>whnf)
 (repeat' ((first
  |((with_reducible refine aI ?_ ?_);focus (first|with_reducible exact⟨⟩|exact tO|(simp only[List.length_append,bytesOf_length,List.toList_toArray,List.length_cons,List.length_nil,List.length_take,List.length_drop,Ap];omega)))
  |fail)<;>(conv=>whnf)))
 all_goals (try (show _=_;simp only[wQ]))
 unfold Gh;rfl
theorem eO{l:List Tax}{r:List AV}(h:Bl (slE 2 Tax.enc l::r)):∀ s ∈ l.map Gh,s.length≤200:=by
 intro s hs
 obtain⟨x,hx,rfl⟩:=List.mem_map.1 hs
 obtain⟨i,hi,rfl⟩:=List.getElem_of_mem hx
 simp only[Bl,Cm] at h
 have h1:=(h.1.2 i hi).2.1
 have hx:l.getD i default=l[i]:=by simp[List.getD_eq_getElem?_getD,hi]
 rw[hx] at h1
 have h2: -9223372036854775808≤l[i].code∧l[i].code≤9223372036854775807:=Ar.1 h1
 exact Nat.le_trans (rZ h2) (by omega)
def As3(l:List Tax):LoopSpec:={
 α:=Nat × List (List UInt8)
 keep:=[1,5,8,9,10]
 vals x:=[.fn 131 [],An2 0 x.2,slE 2 Tax.enc l,.int .i64 l.length,.int .i64 x.1]
 heap x:=[An1 x.2]
 ok x:=x.1≤l.length∧x.2=(l.take x.1).map Gh
 μ x:=l.length - x.1 }
def Afa:PC:=PC.of (fun l:List Tax=>[slE 2 Tax.enc l,.fn 131 []]) (fun l=>0<l.length∧l.length≤1000000) (fun l=>.str (sS (Lib.join (l.map Gh) [44])))
def Ey:PT:=D1 [(62,Nf),(131,yJ)]
theorem G5{W:World}(hW:Tabs W):Dj (Fw W) Tryz.prog Ey:=(Ae Tryz.call62 (Jx hW) (Ae Tryz.call131 (Mm hW) A6))
def Ez:FuncId→Option Ctr:=Av Ey []
theorem Mn{W:World}(hW:Tabs W):Ad (Fw W) Tryz.prog Ez:=(A7 (G5 hW))
def Mo:List Tax→Nat→Option LR:=fun l i=>cond (Nat.beq i 3) (some (.inv (As3 l))) (none)
set_option maxHeartbeats 2000000 in
theorem Mp{W:World}(hW:Tabs W):GoodP (Fw W) Tryz.prog 130 Afa:=by
 have hD:=G5 hW
 have hC0:∀ l:List Tax,Ad (Fw W) Tryz.prog Ez:=fun l=>(Mn hW)
 refine Ax (D:=Ey) (C:=fun l=>Ez) (wr:=(fun _=>false)) rfl Aq hD hC0 Tryz.func130 (Mo) (fun _=>rfl) ?_
 intro l hf hp
 obtain⟨hp0,hp1⟩:=hp
 have hw:∀ s ∈ l.map Gh,s.length≤200:=(eO hf)
 clear hf
 (conv=>whnf)
 (repeat' ((first
  |with_reducible refine lnI fun hln=>?_
  |fail)<;>(conv=>whnf)))
 refine⟨?_,fun(x:Nat × List (List UInt8)) hx=>?_⟩
 ·(conv=>whnf)
  refine⟨((0,[]):Nat × List (List UInt8)),[],?_,⟨⟨rfl,(nB rfl),rfl⟩,?_,?_⟩⟩
  ·exact⟨Nat.zero_le _,rfl⟩
  ·exact Aj _
  ·exact tL
 ·obtain⟨i,L⟩:=x
  obtain⟨h1,h2⟩:=hx
  change i≤l.length at h1
  change L=(l.take i).map Gh at h2
  have hlen:L.length=i:=by rw[h2];simp;omega
  have hstep:i<l.length→L++[Gh (l.getD (Int.toNat (i:Int)) default)]=(l.take (i+1)).map Gh:=fun h=>by
   rw[h2,List.take_add_one,List.map_append,List.getElem?_eq_getElem h]
   have:l.getD (Int.toNat (i:Int)) default=l[i]:=by
    rw[show Int.toNat (i:Int)=i from rfl,List.getD_eq_getElem?_getD,List.getElem?_eq_getElem h];rfl
   rw[this];rfl
  rcases L with _|⟨s,L⟩
  ·have hi:i=0:=by simpa using hlen.symm
   subst hi
   (conv=>whnf)
   (repeat' ((first
    |((with_reducible refine aI ?_ ?_);focus (first|with_reducible exact⟨⟩|omega|exact tK|(simp only[Ag,ty2,ty3,ty4,ty5,ty9,Cn,Ch,Co,Ci,Cl,Cp,Cq,Cr,Bf,Bc,Bg,Bd,Bh,Bi,Bj];first|omega|(refine⟨?_,?_⟩<;>omega))))
    |(split<;>rename_i hh<;>(try simp only[wS] at hh))
    |fail)<;>(conv=>whnf)))
   ·(conv=>whnf)
    refine⟨((1,[Gh (l.getD (Int.toNat ((0:Nat):Int)) default)]):Nat × List (List UInt8)),[3],?_,⟨⟨rfl,(nB rfl),rfl⟩,?_,?_⟩⟩
    ·exact⟨⟨show 1≤l.length by omega,hstep (by omega)⟩,show l.length - 1<l.length - 0 by omega⟩
    ·exact tL
    ·(conv=>whnf)
     (repeat' ((first|with_reducible exact⟨⟩|((with_reducible refine aI ?_ ?_);focus (exact tA))|with_reducible refine iB ?_ ?_|fail)<;>(conv=>whnf)))
     all_goals (try simp only[wQ])
     intro e he
     have he:e<1:=he
     obtain rfl:e=0:=by omega
     exact⟨rfl,rfl⟩
   ·exfalso;omega
  ·have hlen2:L.length+1=i:=hlen
   (conv=>whnf)
   (repeat' ((first
    |((with_reducible refine aI ?_ ?_);focus (first|with_reducible exact⟨⟩|((with_reducible refine⟨?_,?_,?_⟩)<;>first|(intro e he;rcases(by omega:e=0∨e=1∨e=2∨e=3∨e=4∨e=5) with rfl|rfl|rfl|rfl|rfl|rfl<;>first|rfl|(exfalso;omega))|(with_reducible assumption)|omega|((with_reducible show Ag _ _);simp only[Ag,ty2,ty3,ty4,ty5,ty9,Cn,Ch,Co,Ci,Cl,Cp,Cq,Cr,Bf,Bc,Bg,Bd,Bh,Bi,Bj,List.length_cons,List.length_nil];first|omega|(refine⟨?_,?_⟩<;>omega)))|omega|exact tK))
    |(split<;>rename_i hh<;>(try simp only[wS] at hh))
    |fail)<;>(conv=>whnf)))
   ·(conv=>whnf)
    refine⟨((i+1,s::L++[Gh (l.getD (Int.toNat (i:Int)) default)]):Nat × List (List UInt8)),[3],?_,⟨⟨rfl,(nB rfl),rfl⟩,?_,?_⟩⟩
    ·exact⟨⟨show i+1≤l.length by omega,hstep (by omega)⟩,show l.length - (i+1)<l.length - i by omega⟩
    ·exact tL
    ·(conv=>whnf)
     (repeat' ((first|with_reducible exact⟨⟩|((with_reducible refine aI ?_ ?_);focus (exact tA))|with_reducible refine iB ?_ ?_|fail)<;>(conv=>whnf)))
     all_goals (try simp only[wQ])
     exact⟨by simp,fun e he=>⟨R8 (l:=s::L) rfl (fun _ _=>rfl) rfl (by simpa using he),rfl⟩⟩
   ·have hi:i=l.length:=by omega
    rw[hi,List.take_length] at h2
    refine⟨⟨by omega,fun e he=>rfl⟩,?_⟩
    refine⟨((s::L,[44]):List (List UInt8) × List UInt8),⟨by have:=Ng [44] 200 (s::L) (by rw[h2];exact hw);simp at this;show(Lib.join (s::L) [44]).length≤_;omega,by show(s::L).length≤_;simp;omega⟩,?_,?_⟩
    ·exact tL
    (conv=>whnf)
    all_goals (try (show _=_;simp only[wQ]))
    rw[h2]
@[irreducible] def B9(l:List Tax):List UInt8:=if l.length=0 then [45] else Lib.join (l.map Gh) [44]
def sA:PC:=PC.of (fun l:List Tax=>[slE 2 Tax.enc l]) (fun l=>l.length≤1000000) (fun l=>.str (sS (B9 l)))
def Ki:PT:=D1 [(130,Afa),(131,yJ)]
theorem O0{W:World}(hW:Tabs W):Dj (Fw W) Tryz.prog Ki:=(Ae Tryz.call130 (Mp hW) (Ae Tryz.call131 (Mm hW) A6))
def Kj:FuncId→Option Ctr:=Av Ki []
theorem Ye{W:World}(hW:Tabs W):Ad (Fw W) Tryz.prog Kj:=(A7 (O0 hW))
theorem Yf{W:World}(hW:Tabs W):GoodP (Fw W) Tryz.prog 58 sA:=by
 have hD:=O0 hW
 have hC0:∀ l:List Tax,Ad (Fw W) Tryz.prog Kj:=fun l=>(Ye hW)
 refine Ax (D:=Ki) (C:=fun l=>Kj) (wr:=(fun _=>false)) rfl Aq hD hC0 Tryz.func58 (fun _ _=>none) (fun _=>rfl) ?_
 intro l hf hp
 clear hf
 (conv=>whnf)
 (repeat' ((first
  |(split<;>rename_i hh<;>(try simp only[wS] at hh))
  |with_reducible refine lnI fun hln=>?_
  |fail)<;>(conv=>whnf)))
 all_goals (try (show _=_;simp only[wQ]))
 ·unfold B9;rw[if_pos (by omega)]
 ·refine⟨l,⟨by omega,hp⟩,?_,?_⟩
  ·exact Aj _
  (conv=>whnf)
  all_goals (try (show _=_;simp only[wQ]))
  unfold B9;rw[if_neg (by omega)]
@[irreducible] def B0(c:Coupon):List UInt8:=Lib.itoa c.flight++[64]++Lib.itoa c.day++[61]++D3 c.value
@[irreducible] def Ah9(c:Coupon):List UInt8:=B0 c++[58]++Do c.status++(if c.holder=0 then [] else 47::Lib.itoa c.holder)++(if c.next=0 then [] else 62::Ay c.next)
theorem sC(s:Int):(Do s).length≤1:=by
 by_cases h:Iz s=true
 ·obtain⟨c,hc,_⟩:=yF h;rw[hc];exact Nat.le_refl 1
 ·unfold Do;rw[if_neg h];simp
theorem sD{c:Coupon}(h1: -9223372036854775808≤c.flight∧c.flight≤9223372036854775807)(h2: -9223372036854775808≤c.day∧c.day≤9223372036854775807):(B0 c).length≤100:=by
 unfold B0
 have:=Dd c.flight h1.1 h1.2
 have:=Dd c.day h2.1 h2.2
 have:=Mk c.value
 simp only[List.length_append,List.length_cons,List.length_nil];omega
def T7:PC:=PC.fun fun|[.agg [.int .i64 cf,.int .i64 cd,.int .i64 cv,.int .i64 cs,.int .i64 ch,.int .u64 cx]]=>some (True,.str (sS (B0 (Coupon.mk cf cd cv cs ch cx))))|_=>none
theorem N2{W:World}(hW:Tabs W):GoodP (Fw W) Tryz.prog 129 T7:=by
 have hD:=If hW
 have hC0:Ad (Fw W) Tryz.prog Ex:=(Ml hW)
 refine Be (D:=Ga) (C:=Ex) (wr:=(fun _=>false)) rfl Aq hD hC0 Tryz.func129 (fun _ _=>none) ?_
 clear hC0 hD hW
 intro cs p r h hf hp
 split at h
 case h_2=>cases h
 rename_i cf cd cv cs ch cx
 cases h
 try simp only[Bl,Cm,Ar,Go.Vc.lo,Go.Vc.hi,and_true] at hf
 have l1:=Dd cf (by omega) (by omega)
 have l2:=Dd cd (by omega) (by omega)
 have l3:=Mk cv
 clear hf
 (conv=>whnf)
 (repeat' ((first
  |((with_reducible refine aI ?_ ?_);focus (first|with_reducible exact⟨⟩|exact tO|(simp only[List.length_append,bytesOf_length,List.toList_toArray,List.length_cons,List.length_nil,List.length_take,List.length_drop,Ap];omega)))
  |fail)<;>(conv=>whnf)))
 all_goals (try (show _=_;simp only[wQ]))
 unfold B0;rfl
@[irreducible] def An3(x:Event):List UInt8:=Lib.itoa x.day++[46]++Lib.itoa x.coupon++[46]++Do x.src++Do x.dst
end
end Go.Vc.Z
namespace Go.Vc.Z
open Go Go.Vc Go.Proofs Go.RowKit Go.Pl Go.Lib
noncomputable section
set_option maxRecDepth 100000
attribute [local irreducible] inK Utf8.decode Utf8.encode Lib.itoa Pl.worth Pl.allDig
attribute [local irreducible] Lib.join
abbrev numsL(t:Ticket):List Int:=[t.prev,t.origin,t.first,t.voucher,t.posts]
abbrev Avu(n:Int):List UInt8:=decDigits n.toNat
def An4(t:Ticket):List (List UInt8):=[[116,105,99,107,101,116],Ay t.number,t.locator,Lib.itoa t.issued]
theorem eP{s:List UInt8}(h:G4 s=true):s.length=6:=by
 unfold G4 at h;simp at h;exact h.2
theorem yK{l:List Tax}(h:l.length≤4)(hf:∀ s ∈ l.map Gh,s.length≤200):(B9 l).length≤1000:=by
 unfold B9
 split
 ·simp
 ·have:=Ng [44] 200 _ hf
  simp at this;omega
end
end Go.Vc.Z
namespace Go.Vc.Z
open Go Go.Vc Go.Proofs Go.RowKit Go.Pl Go.Lib
noncomputable section
set_option maxRecDepth 100000
attribute [local irreducible] inK Utf8.decode Utf8.encode Lib.itoa Pl.worth Pl.allDig
end
end Go.Vc.Z
namespace Go.Vc.Z
open Go Go.Vc Go.Proofs Go.RowKit Go.Pl Go.Lib
noncomputable section
set_option maxRecDepth 100000
attribute [local irreducible] inK Utf8.decode Utf8.encode Lib.itoa Pl.worth Pl.allDig
attribute [local irreducible] Lib.join
def An5:List (List UInt8):=[[111,107],[110,105,108],[97,114,103],[108,111,110,103],[98,121,116,101,115],[114,97,110,103,101],[110,111,110,101],[101,120,105,115,116,115],[102,117,108,108],[115,116,97,116,101],[100,101,97,100],[100,105,103,105,116],[115,116,111,99,107],[99,111,110,116,114,111,108],[109,111,110,101,121],[100,97,121],[107,101,121],[98,117,115,121]]
@[irreducible] def Kk(e:Int):List UInt8:=if 0≤e∧e≤17 then An5.getD e.toNat [] else []
def Afb:PC:=PC.fun fun|[.int .i64 e]=>some (True,.str (sS (Kk e)))|_=>none
theorem Afc{e:Int}(h:0≤e∧e≤17):Kk e≠[]∧(Kk e).length≤10:=by
 unfold Kk;rw[if_pos h]
 rcases(by omega:e=0∨e=1∨e=2∨e=3∨e=4∨e=5∨e=6∨e=7∨e=8∨e=9∨e=10∨e=11∨e=12∨e=13∨e=14∨e=15∨e=16∨e=17) with rfl|rfl|rfl|rfl|rfl|rfl|rfl|rfl|rfl|rfl|rfl|rfl|rfl|rfl|rfl|rfl|rfl|rfl<;>decide
theorem eQ{e:Int}(h: ¬(0≤e∧e≤17)):Kk e=[]:=by
 unfold Kk;rw[if_neg h]
theorem eR(e:Int):(Kk e).length≤10:=by
 by_cases h:0≤e∧e≤17
 ·exact(Afc h).2
 ·rw[eQ h];simp
theorem cZ{W:World}(hW:Tabs W):GoodP (Fw W) Tryz.prog 16 Afb:=by
 have hD:=Db hW
 have hC0:Ad (Fw W) Tryz.prog Bm:=(Dm hW)
 refine Be (D:=C4) (C:=Bm) (wr:=(fun _=>false)) rfl Aq hD hC0 Tryz.func16 (fun _ _=>none) ?_
 clear hC0 hD hW
 intro cs p r h hf hp
 split at h
 case h_2=>cases h
 rename_i e
 cases h
 try simp only[Bl,Cm,Ar,Go.Vc.lo,Go.Vc.hi,and_true] at hf
 by_cases h:0≤e∧e≤17
 ·rcases(by omega:e=0∨e=1∨e=2∨e=3∨e=4∨e=5∨e=6∨e=7∨e=8∨e=9∨e=10∨e=11∨e=12∨e=13∨e=14∨e=15∨e=16∨e=17) with rfl|rfl|rfl|rfl|rfl|rfl|rfl|rfl|rfl|rfl|rfl|rfl|rfl|rfl|rfl|rfl|rfl|rfl
  all_goals (
   (conv=>whnf)
   (repeat' ((first
    |((with_reducible refine aI ?_ ?_);focus (omega))
    |with_reducible refine lnI fun hln=>?_
    |fail)<;>(conv=>whnf)))
   all_goals (try (show _=_;simp only[wQ]))
   )
  all_goals (unfold Kk;rfl)
 ·clear hf
  (conv=>whnf)
  (repeat' ((first
   |((with_reducible refine aI ?_ ?_);focus (omega))
   |(split<;>rename_i hh<;>(try simp only[wS] at hh))
   |with_reducible refine lnI fun hln=>?_
   |fail)<;>(conv=>whnf)))
  all_goals (try (show _=_;simp only[wQ]))
  all_goals try (rw[eQ h];done)
  all_goals (exfalso;omega)
end
end Go.Vc.Z
namespace Go.Vc.Z
open Go Go.Vc Go.Proofs Go.RowKit Go.Pl Go.Lib
noncomputable section
set_option maxRecDepth 100000
attribute [local irreducible] inK Utf8.decode Utf8.encode Lib.itoa Pl.worth Pl.allDig
attribute [local irreducible] Lib.join
end
end Go.Vc.Z
namespace Go.Vc.Z
open Go Go.Vc Go.Proofs Go.RowKit Go.Pl Go.Lib
noncomputable section
set_option maxRecDepth 100000
attribute [local irreducible] inK Utf8.decode Utf8.encode Lib.itoa Pl.worth Pl.allDig
attribute [local irreducible] Lib.join
theorem yL{l:List Tax}:∀ {k:Int},Du k l=true→∀ x ∈ l,D2 x.amount=true:=by
 induction l with
 |nil=>intro k _ x hx;cases hx
 |cons y l ih=>
  intro k h x hx
  simp only[Du,Bool.and_eq_true] at h
  rcases List.mem_cons.1 hx with rfl|hx
  ·exact h.1.2
  ·exact ih h.2 x hx
theorem Nh{l:List Tax}(h:Dv l=true):l.length≤4∧∀ i,i<l.length→D2 (l.getD (Int.toNat (i:Int)) default).amount=true:=by
 unfold Dv at h
 simp only[Bool.and_eq_true,decide_eq_true_eq] at h
 refine⟨h.2,fun i hi=>yL h.1 _ ?_⟩
 rw[show Int.toNat (i:Int)=i from rfl,List.getD_eq_getElem?_getD,List.getElem?_eq_getElem hi]
 exact List.getElem_mem hi
end
end Go.Vc.Z
namespace Go.Vc.Z
open Go Go.Vc Go.Proofs Go.RowKit Go.Pl Go.Lib
noncomputable section
set_option maxRecDepth 100000
attribute [local irreducible] inK Utf8.decode Utf8.encode Lib.itoa Pl.worth Pl.allDig
attribute [local irreducible] Lib.join
def S1(t:Ticket)(i:Nat):List UInt8:=Lib.join (An4 t++((numsL t).take i).map Avu) [32]
def S2(t:Ticket)(i:Nat):List UInt8:=S1 t 5++(if i=0 then [] else 32::Lib.join ((t.coupons.take i).map Ah9) [44])
def S3(t:Ticket)(i:Nat):List UInt8:=S2 t t.coupons.length++[32]++B9 t.taxes++[32]++Lib.join ((t.history.take i).map An3) [44]
end
end Go.Vc.Z
namespace Go.Vc.Z
open Go Go.Vc Go.Proofs Go.RowKit Go.Pl Go.Lib
noncomputable section
set_option maxRecDepth 100000
attribute [local irreducible] inK Utf8.decode Utf8.encode Lib.itoa Pl.worth Pl.allDig
attribute [local irreducible] Lib.join
end
end Go.Vc.Z
namespace Go.Vc.Z
open Go Go.Vc Go.Proofs Go.RowKit Go.Pl Go.Lib
noncomputable section
set_option maxRecDepth 100000
attribute [local irreducible] inK Utf8.decode Utf8.encode Lib.itoa Pl.worth Pl.allDig
end
end Go.Vc.Z
namespace Go.Vc.Z
open Go Go.Vc Go.Proofs Go.RowKit Go.Pl Go.Lib
noncomputable section
set_option maxRecDepth 100000
attribute [local irreducible] inK Utf8.decode Utf8.encode Lib.itoa Pl.worth Pl.allDig
attribute [local irreducible] Lib.join
def isKey(c:UInt8):Bool:=(decide (97≤c.toNat)&&decide (c.toNat≤122)) || (decide (48≤c.toNat)&&decide (c.toNat≤57))
theorem T8{c:UInt8}:isKey c=true↔(97≤c.toNat∧c.toNat≤122)∨(48≤c.toNat∧c.toNat≤57):=by simp[isKey]
@[irreducible] def Gb(s:List UInt8):Bool:=s.all isKey&&decide (1≤s.length)&&decide (s.length≤16)
def Yg:PC:=PC.fun fun|[.str s]=>some (True,.bool (sB (Gb s)))|_=>none
def Avv(s:List UInt8):LoopSpec:={
 α:=Nat
 keep:=[0,6]
 vals i:=[.str s,.iter 0]
 heap i:=[.iter s i]
 ok i:=i≤s.length∧(s.take i).all isKey=true
 μ i:=s.length - i }
def T9:List AV→Nat→Option LR:=fun cs i=>match cs with|[.str s]=>cond (Nat.beq i 2) (some (.inv (Avv s))) (none)|_=>none
theorem Mq{W:World}(hW:Tabs W):GoodP (Fw W) Tryz.prog 275 Yg:=by
 have hD:=Db hW
 have hC0:Ad (Fw W) Tryz.prog Bm:=(Dm hW)
 refine Be (D:=C4) (C:=Bm) (wr:=(fun _=>false)) rfl Aq hD hC0 Tryz.func275 (T9) ?_
 clear hC0 hD hW
 intro cs p r h hf hp
 split at h
 case h_2=>cases h
 rename_i s
 cases h
 try simp only[Bl,Cm,Ar,Go.Vc.lo,Go.Vc.hi,and_true] at hf
 (conv=>whnf)
 refine⟨?_,fun(i:Nat) (hi:i≤s.length∧(s.take i).all isKey=true)=>?_⟩
 ·(conv=>whnf)
  refine⟨(0:Nat),[],?_,⟨⟨rfl,(nB rfl),rfl⟩,?_,?_⟩⟩
  ·exact⟨Nat.zero_le _,by simp⟩
  ·exact tL
  ·exact tL
 ·obtain⟨h1,h2⟩:=hi
  have hk:i<s.length→((97≤Bb s i∧Bb s i≤122)∨(48≤Bb s i∧Bb s i≤57))→isKey (s.getD i 0)=true∧Ai s i=1:=fun h hc=>by
   rcases D6 h with ⟨h6,h7,h8⟩|⟨h6,h7⟩
   ·exact⟨T8.2 (by omega),h7⟩
   ·omega
  have hn:i<s.length→¬((97≤Bb s i∧Bb s i≤122)∨(48≤Bb s i∧Bb s i≤57))→Gb s=false:=fun h hc=>by
   unfold Gb
   rw[Q9 h (by
    rcases D6 h with ⟨h6,h7,h8⟩|⟨h6,h7⟩
    ·exact Bool.eq_false_iff.2 fun h=>by have:=T8.1 h;omega
    ·exact Bool.eq_false_iff.2 fun h=>by have:=T8.1 h;omega)]
   rfl
  have hst:=Lt (p:=isKey) (l:=s) (i:=i)
  have hfin:s.length≤i→Gb s=(decide (1≤s.length)&&decide (s.length≤16)):=fun h=>by
   rw[List.take_of_length_le h] at h2
   unfold Gb;rw[h2,Bool.true_and]
  (conv=>whnf)
  (repeat' ((first
   |(split<;>rename_i hh<;>(try simp only[wS] at hh))
   |with_reducible refine lnI fun hln=>?_
   |fail)<;>(conv=>whnf)))
  all_goals (try (show _=_;simp only[wQ]))
  all_goals try (rw[hn (by omega) (by omega)];done)
  all_goals try (
   obtain⟨h6,h7⟩:=hk (by omega) (by omega)
   (conv=>whnf)
   refine⟨(i+1:Nat),[],?_,⟨⟨rfl,(nB rfl),rfl⟩,?_,?_⟩⟩
   ·exact⟨⟨show i+1≤s.length by omega,by rw[hst (by omega),h2,h6];rfl⟩,show s.length - (i+1)<s.length - i by omega⟩
   ·exact tL
   ·(conv=>whnf)
    (repeat' ((first|with_reducible exact⟨⟩|((with_reducible refine aI ?_ ?_);focus (exact tA))|with_reducible refine iB ?_ ?_|fail)<;>(conv=>whnf)))
    all_goals (try first|omega)
    all_goals (rw[h7])
   done)
  all_goals (rw[hfin (by omega)];first|(rw[C3,decide_eq_true (show 1≤s.length by omega),Bool.true_and];exact decide_eq_decide.2 ⟨fun h=>by omega,fun h=>by omega⟩)|(rw[decide_eq_false (show¬1≤s.length by omega)];rfl))
theorem Afd{k f d u st m g j k' f' d' u' st' m' g' j':Int}{a b a' b':List UInt8}:eqA TY 12 244 (.agg [.int .i64 k,.str a,.str b,.int .i64 f,.int .i64 d,.int .u64 u,.int .i64 st,.int .i64 m,.int .i64 g,.int .i64 j]) (.agg [.int .i64 k',.str a',.str b',.int .i64 f',.int .i64 d',.int .u64 u',.int .i64 st',.int .i64 m',.int .i64 g',.int .i64 j'])=some (k == k'&&(a == a'&&(b == b'&&(f == f'&&(d == d'&&(u == u'&&(st == st'&&(m == m'&&(g == g'&&(j == j')))))))))):=by
 have e244:TY 244=some zR:=rfl
 have e54:TY 54=some Ah2:=rfl
 have e9:TY 9=some ty9:=rfl
 have e3:TY 3=some ty3:=rfl
 have e2:TY 2=some ty2:=rfl
 have e43:TY 43=some Ci:=rfl
 have e37:TY 37=some Ch:=rfl
 simp[eqA,xA,e244,e54,e9,e3,e2,e43,e37,zR,Ah2,ty9,ty3,ty2,Ci,Ch,La,Bw]
theorem Ua{k f d u st m g j k' f' d' u' st' m' g' j':Int}{a b a' b':List UInt8}{N:Bool→Prop}(hN:N (k == k'&&(a == a'&&(b == b'&&(f == f'&&(d == d'&&(u == u'&&(st == st'&&(m == m'&&(g == g'&&(j == j'))))))))))):Hb (eqA TY 12 244 (.agg [.int .i64 k,.str a,.str b,.int .i64 f,.int .i64 d,.int .u64 u,.int .i64 st,.int .i64 m,.int .i64 g,.int .i64 j]) (.agg [.int .i64 k',.str a',.str b',.int .i64 f',.int .i64 d',.int .u64 u',.int .i64 st',.int .i64 m',.int .i64 g',.int .i64 j'])) N:=by
 rw[Afd];exact hN
def c7:Coupon:=⟨7,9,1000,0,0,0⟩
end
end Go.Vc.Z
namespace Go.Vc.Z
open Go Go.Vc Go.Proofs Go.RowKit Go.Pl Go.Lib
theorem I1{n:Int}(h0:0≤n)(h:n<10):Lib.itoa n=[UInt8.ofNat (48+n.toNat)]:=by
 unfold Lib.itoa;rw[if_neg (by omega),decDigits_one (by omega)]
theorem yM:B0 ⟨7,9,1000,0,0,0⟩=[55,64,57,61,49,48,46,48,48]:=by
 unfold B0 D3 Es Oz Ca
 simp only[I1 (n:=7) (by decide) (by decide),I1 (n:=9) (by decide) (by decide)]
 rw[show Lib.decDigits (1000 / 10 / 10:Int).toNat=[49,48] from decDigits_two (by decide) (by decide)]
 rfl
theorem yN:B9 []=[45]:=by unfold B9;rfl
noncomputable section
set_option maxRecDepth 100000
attribute [local irreducible] inK Utf8.decode Utf8.encode Lib.itoa Pl.worth Pl.allDig
attribute [local irreducible] Lib.join
def Aaa:List UInt8:=[105,115,115,117,101,32,107,55,32,51,32,65,66,67,50,51,52,32,55,64,57,61,49,48,46,48,48,32,45]
end
end Go.Vc.Z
namespace Go.Vc.Z
open Go Go.Vc Go.Proofs Go.RowKit Go.Pl Go.Lib
def pH:List (List UInt8):=[[99,114,97,115,104],Lib.itoa 1,Lib.itoa 4,Lib.itoa (-1)]
theorem Aia:Lib.itoa (-1)=[45,49]:=by
 unfold Lib.itoa;rw[if_pos (by decide)]
 rw[show(-1:Int).natAbs=1 from rfl,decDigits_one (by decide)];rfl
theorem Am3:Lib.join pH [32]=[99,114,97,115,104,32,49,32,52,32,45,49]:=by
 unfold pH;rw[Aia,I1 (n:=1) (by decide) (by decide),I1 (n:=4) (by decide) (by decide)];rfl
theorem An6:(Lib.join pH [32]).length≤140737488355328:=by rw[Am3];decide
noncomputable section
set_option maxRecDepth 100000
attribute [local irreducible] inK Utf8.decode Utf8.encode Lib.itoa Pl.worth Pl.allDig
attribute [local irreducible] Lib.join
def As4:Bool→AV
 |true=>.agg [.int .i64 1,.int .i64 0,.str [107,55],.int .i64 1,.int .i64 3,.int .u64 0,.int .i64 0,.int .i64 0,.str [65,66,67,50,51,52],slE 6 Coupon.enc [c7],.nilsl,.int .i64 0,.int .i64 0,.int .i64 0,.int .i64 0,.nilsl,.bool false]
 |false=>.agg [.int .i64 4,.int .i64 1,.str [],.int .i64 0,.int .i64 0,.int .u64 0,.int .i64 0,.int .i64 0,.str [],.nilsl,.nilsl,.int .i64 0,.int .i64 0,.int .i64 0,.int .i64 0,.sl false 1 2 (fun e=>[.int .i64 (([4, -1]:List Int).getD e 0)]),.bool false]
def Afe:PC:=PC.of (fun b:Bool=>[As4 b]) (fun _=>True) (fun _=>.bool (sB true))
def Aff:Bool→List UInt8
 |true=>[100,111,32,48,32]++Aaa
 |false=>[99,114,97,115,104,32,49,32,52,32,45,49]
def Afg:PC:=PC.of (fun b:Bool=>[As4 b]) (fun _=>True) (fun b=>.str (sS (Aff b)))
end
end Go.Vc.Z
namespace Go.Vc.Z
open Go Go.Vc Go.Proofs Go.RowKit Go.Pl Go.Lib
def sE:Told:=⟨⟨6,[],[],[]⟩,0,0⟩
noncomputable section
set_option maxRecDepth 100000
attribute [local irreducible] inK Utf8.decode Utf8.encode Lib.itoa Pl.worth Pl.allDig
attribute [local irreducible] Lib.join
def Aab:PC:=PC.fun fun|[]=>some (True,.bool (sB true))|_=>none
end
end Go.Vc.Z
namespace Go.Vc.Z
open Go Go.Vc Go.Proofs Go.RowKit Go.Pl Go.Lib
noncomputable section
set_option maxRecDepth 100000
attribute [local irreducible] inK Utf8.decode Utf8.encode Lib.itoa Pl.worth Pl.allDig
attribute [local irreducible] Lib.join
end
end Go.Vc.Z
namespace Go.Vc.Z
open Go Go.Vc Go.Proofs Go.RowKit Go.Pl Go.Lib
noncomputable section
set_option maxRecDepth 100000
attribute [local irreducible] inK Utf8.decode Utf8.encode Lib.itoa Pl.worth Pl.allDig
attribute [local irreducible] Lib.join
open Classical in
@[irreducible] def cEq(a b:Coupon):Bool:=decide (a=b)
theorem pI{a b:Coupon}:cEq a b=true↔a=b:=by unfold cEq;simp
open Classical in
@[irreducible] def xEq(a b:Tax):Bool:=decide (a=b)
theorem pJ{a b:Tax}:xEq a b=true↔a=b:=by unfold xEq;simp
theorem Aib(k:Nat)(c m c' m':Int):eqA TY (k+3) 113 (.agg [.int .i64 c,.int .i64 m]) (.agg [.int .i64 c',.int .i64 m'])=some (c == c'&&m == m'):=by
 have e1:TY 113=some Bc:=rfl
 have e3:TY 3=some ty3:=rfl
 have e2:TY 2=some ty2:=rfl
 simp[eqA,xA,e1,e3,e2,Bc,ty3,ty2,La,Bw]
theorem Afh{k:Nat}{c d:Coupon}{N:Bool→Prop}(hN:N (cEq c d)):Hb (eqA TY (k+3) 45 (.agg [.int .i64 c.flight,.int .i64 c.day,.int .i64 c.value,.int .i64 c.status,.int .i64 c.holder,.int .u64 c.next]) (.agg [.int .i64 d.flight,.int .i64 d.day,.int .i64 d.value,.int .i64 d.status,.int .i64 d.holder,.int .u64 d.next])) N:=by
 rw[X6]
 have:cEq c d=(c.flight == d.flight&&(c.day == d.day&&(c.value == d.value&&(c.status == d.status&&(c.holder == d.holder&&c.next == d.next))))):=by
  cases c;cases d;rw[Bool.eq_iff_iff,pI];simp
 rw[this] at hN;exact hN
theorem Afi{k:Nat}{c d:Tax}{N:Bool→Prop}(hN:N (xEq c d)):Hb (eqA TY (k+3) 113 (.agg [.int .i64 c.code,.int .i64 c.amount]) (.agg [.int .i64 d.code,.int .i64 d.amount])) N:=by
 rw[Aib]
 have:xEq c d=(c.code == d.code&&c.amount == d.amount):=by
  cases c;cases d;rw[Bool.eq_iff_iff,pJ];simp
 rw[this] at hN;exact hN
theorem Ni{α:Type}[Inhabited α]:∀ {l m:List α},l.length=m.length→(∀ j,j<l.length→l.getD j default=m.getD j default)→l=m
 |[],[],_,_=>rfl
 |[],_::_,h,_=>by simp at h
 |_::_,[],h,_=>by simp at h
 |a::l,b::m,h,hj=>by
  have h0:a=b:=hj 0 (by simp)
  have:=Ni (l:=l) (m:=m) (by simpa using h) (fun j hl=>by
   have:=hj (j+1) (by simp;omega)
   exact this)
  rw[h0,this]
end
end Go.Vc.Z
namespace Go.Vc.Z
open Go Go.Vc Go.Proofs Go.RowKit Go.Pl Go.Lib
structure Request where
 key:List UInt8
 kind:Int
 day:Int
 ticket:Int
 coupon:Int
 status:Int
 locator:List UInt8
 coupons:List Coupon
 taxes:List Tax
 amount:Int
 frm:Int
 til:Int
deriving Inhabited
abbrev Request.enc(r:Request):List AV:=[.str r.key,.int .i64 r.kind,.int .i64 r.day,.int .u64 r.ticket,.int .i64 r.coupon,.int .i64 r.status,.str r.locator,slE 6 Coupon.enc r.coupons,slE 2 Tax.enc r.taxes,.int .i64 r.amount,.int .i64 r.frm,.int .i64 r.til]
noncomputable section
set_option maxRecDepth 100000
attribute [local irreducible] inK Utf8.decode Utf8.encode Lib.itoa Pl.worth Pl.allDig
attribute [local irreducible] Lib.join
theorem kinds{k:Int}(h:1≤k∧k≤10):k=1∨k=2∨k=3∨k=4∨k=5∨k=6∨k=7∨k=8∨k=9∨k=10:=by omega
def Gx:List (List UInt8):=[[105,115,115,117,101],[109,111,118,101],[118,111,105,100],[114,101,102,117,110,100],[101,120,99,104,97,110,103,101],[97,115,107],[114,101,116,117,114,110],[115,104,111,119],[102,105,110,100],[114,101,112,111,114,116]]
@[irreducible] def Gf(most:Int)(l:List Coupon):Bool:=l.all (fun c=>Nc c 0)&&decide (1≤l.length)&&decide ((l.length:Int)≤most)
end
end Go.Vc.Z
