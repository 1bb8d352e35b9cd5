/- Words of lists. -/
import Derived.Test.YtpmpclbdnakniaaGreatDoorV12
import Derived.Test.YtpmpclbdnakniaaGreatDoorV10
set_option linter.all false
set_option linter.unusedVariables false
set_option linter.unusedSimpArgs false
namespace Go.Vc.Z
open Go Go.Vc Go.Proofs Go.RowKit Go.Pl Go.Lib
noncomputable section
set_option maxRecDepth 100000
attribute [local irreducible] inK Utf8.decode Utf8.encode Lib.itoa Pl.worth Pl.allDig
attribute [local irreducible] Lib.join
def Aux(l:List (List UInt8)):Blk:=match l with
 |[]=>.dead
 |c::l=>.row 1 (l.length+1) (fun e=>[.str ((c::l).getD e [])])
def Auy(id:Nat):List (List UInt8)→AV
 |[]=>.nilsl
 |_::l=>.osl id 1 0 (l.length+1) none
theorem Xl{l:List (List UInt8)}{n:Nat}{d:List UInt8}{g b:Nat→List AV}(hn:n=l.length)(hg:∀ e,e<l.length→g e=[.str (l.getD e [])])(hb:b 0=[.str d]){e:Nat}(he:e<n+1):B9 n g b e=[AV.str ((l++[d]).getD e [])]:=by
 subst hn
 rw[←Af9 (L:=l) (b:=b) hb (by simpa using he)]
 unfold B9
 split
 ·exact hg e (by assumption)
 ·rfl
def Lp:PT:=C8 [(111,Mg)]
theorem Rs{W:World}(hW:Tabs W):Ct (Fw W) Tryz.prog Lp:=(Ab Tryz.call111 (Ail hW) Av)
def Lq:FuncId→Option Ctr:=Az Lp []
theorem bZ{W:World}(hW:Tabs W):Ad (Fw W) Tryz.prog Lq:=(Aw (Rs hW))
theorem Gf{W:World}(hW:Tabs W):GoodP (Fw W) Tryz.prog 46 Mg:=by
 have hD:=Rs hW
 have hC0:Ad (Fw W) Tryz.prog Lq:=(bZ hW)
 refine Ax (D:=Lp) (C:=Lq) (wr:=(fun _=>false)) rfl Ao hD hC0 Tryz.func46 (fun _ _=>none) ?_
 clear hC0 hD hW
 intro cs p r h hf hp
 split at h
 case h_2=>cases h
 rename_i n
 cases h
 try simp only[A0,Bg,Ak,Go.Vc.lo,Go.Vc.hi,and_true] at hf
 (conv=>whnf)
 (repeat' ((first
  |((with_reducible refine aI ?_ ?_);focus (with_reducible exact⟨⟩))
  |fail)<;>(conv=>whnf)))
theorem Hl(n:Int):(C0 n).length≤31:=by
 unfold C0
 split
 ·rename_i h
  unfold Dl at h;simp at h
  exact Ae1 (by omega)
 ·simp
@[irreducible] def Fp(x:Tax):List UInt8:=Lib.itoa x.code++[61]++C0 x.amount
theorem Aar{x:Tax}(h: -9223372036854775808≤x.code∧x.code≤9223372036854775807):(Fp x).length≤70:=by
 unfold Fp
 have:=Bv x.code h.1 h.2
 have:=Hl x.amount
 simp only[List.length_append,List.length_cons,List.length_nil];omega
def Ae3:PC:=PC.fun fun|[.agg [.int .i64 c,.int .i64 a]]=>some (True,.str (sS (Fp ⟨c,a⟩)))|_=>none
def Hm:PT:=C8 [(46,Mg),(132,xU)]
theorem Kn{W:World}(hW:Tabs W):Ct (Fw W) Tryz.prog Hm:=(Ab Tryz.call46 (Gf hW) (Ab Tryz.call132 (Agb hW) Av))
def Fq:FuncId→Option Ctr:=Az Hm []
theorem P3{W:World}(hW:Tabs W):Ad (Fw W) Tryz.prog Fq:=(Aw (Kn hW))
theorem P4{W:World}(hW:Tabs W):GoodP (Fw W) Tryz.prog 131 Ae3:=by
 have hD:=Kn hW
 have hC0:Ad (Fw W) Tryz.prog Fq:=(P3 hW)
 refine Ax (D:=Hm) (C:=Fq) (wr:=(fun _=>false)) rfl Ao hD hC0 Tryz.func131 (fun _ _=>none) ?_
 clear hC0 hD hW
 intro cs p r h hf hp
 split at h
 case h_2=>cases h
 rename_i c a
 cases h
 try simp only[A0,Bg,Ak,Go.Vc.lo,Go.Vc.hi,and_true] at hf
 have l1:=Bv c (by omega) (by omega)
 have l2:=Hl a
 have l3:=Aar (x:=⟨c,a⟩) (by simp;omega)
 (conv=>whnf)
 (repeat' ((first
  |((with_reducible refine aI ?_ ?_);focus (first|with_reducible exact⟨⟩|exact tO|(simp only[List.length_append,bytesOf_length,List.toList_toArray,List.length_cons,List.length_nil,List.length_take,List.length_drop,Bb];omega)))
  |fail)<;>(conv=>whnf)))
 all_goals (try (show _=_;simp only[wQ]))
 unfold Fp;rfl
theorem P5{l:List Tax}{r:List AV}(h:A0 (slE 2 Tax.enc l::r)):∀ s ∈ l.map Fp,s.length≤200:=by
 intro s hs
 obtain⟨x,hx,rfl⟩:=List.mem_map.1 hs
 obtain⟨i,hi,rfl⟩:=List.getElem_of_mem hx
 simp only[A0,Bg] at h
 have h1:=(h.1.2 i hi).2.1
 have hx:l.getD i default=l[i]:=by simp[List.getD_eq_getElem?_getD,hi]
 rw[hx] at h1
 have h2: -9223372036854775808≤l[i].code∧l[i].code≤9223372036854775807:=Ak.1 h1
 exact Nat.le_trans (Aar h2) (by omega)
def Azq(l:List Tax):LoopSpec:={
 α:=Nat × List (List UInt8)
 keep:=[1,5,8,9,10]
 vals x:=[.fn 131 [],Auy 0 x.2,slE 2 Tax.enc l,.int .i64 l.length,.int .i64 x.1]
 heap x:=[Aux x.2]
 ok x:=x.1≤l.length∧x.2=(l.take x.1).map Fp
 μ x:=l.length - x.1 }
def Ak9:PC:=PC.of (fun l:List Tax=>[slE 2 Tax.enc l,.fn 131 []]) (fun l=>0<l.length∧l.length≤1000000) (fun l=>.str (sS (Lib.join (l.map Fp) [44])))
def Fs:PT:=C8 [(62,Ug),(131,Ae3)]
theorem I8{W:World}(hW:Tabs W):Ct (Fw W) Tryz.prog Fs:=(Ab Tryz.call62 (P2 hW) (Ab Tryz.call131 (P4 hW) Av))
def Ft:FuncId→Option Ctr:=Az Fs []
theorem P6{W:World}(hW:Tabs W):Ad (Fw W) Tryz.prog Ft:=(Aw (I8 hW))
def P7:List Tax→Nat→Option LR:=fun l i=>cond (Nat.beq i 3) (some (.inv (Azq l))) (none)
set_option maxHeartbeats 2000000 in
theorem P8{W:World}(hW:Tabs W):GoodP (Fw W) Tryz.prog 130 Ak9:=by
 have hD:=I8 hW
 have hC0:∀ l:List Tax,Ad (Fw W) Tryz.prog Ft:=fun l=>(P6 hW)
 refine As (D:=Fs) (C:=fun l=>Ft) (wr:=(fun _=>false)) rfl Ao hD hC0 Tryz.func130 (P7) (fun _=>rfl) ?_
 intro l hf hp
 obtain⟨hp0,hp1⟩:=hp
 have hw:∀ s ∈ l.map Fp,s.length≤200:=(P5 hf)
 clear hf
 (conv=>whnf)
 (repeat' ((first
  |with_reducible refine lnI fun hln=>?_
  |fail)<;>(conv=>whnf)))
 refine⟨?_,fun(x:Nat × List (List UInt8)) hx=>?_⟩
 ·(conv=>whnf)
  refine⟨((0,[]):Nat × List (List UInt8)),[],?_,⟨⟨rfl,(nB rfl),rfl⟩,?_,?_⟩⟩
  ·exact⟨Nat.zero_le _,rfl⟩
  ·exact Ac _
  ·exact tL
 ·obtain⟨i,L⟩:=x
  obtain⟨h1,h2⟩:=hx
  change i≤l.length at h1
  change L=(l.take i).map Fp at h2
  have hlen:L.length=i:=by rw[h2];simp;omega
  have hstep:i<l.length→L++[Fp (l.getD (Int.toNat (i:Int)) default)]=(l.take (i+1)).map Fp:=fun h=>by
   rw[h2,List.take_add_one,List.map_append,List.getElem?_eq_getElem h]
   have:l.getD (Int.toNat (i:Int)) default=l[i]:=by
    rw[show Int.toNat (i:Int)=i from rfl,List.getD_eq_getElem?_getD,List.getElem?_eq_getElem h];rfl
   rw[this];rfl
  rcases L with _|⟨s,L⟩
  ·have hi:i=0:=by simpa using hlen.symm
   subst hi
   (conv=>whnf)
   (repeat' ((first
    |((with_reducible refine aI ?_ ?_);focus (first|with_reducible exact⟨⟩|omega|exact tK|(simp only[Ap,ty2,ty3,ty4,ty5,ty9,Cu,Ck,Cv,Cl,Cq,Cw,Cx,Cy,Bm,Bl,Bn,Bo,Bp,Bq,Br];first|omega|(refine⟨?_,?_⟩<;>omega))))
    |(split<;>rename_i hh<;>(try simp only[wS] at hh))
    |fail)<;>(conv=>whnf)))
   ·(conv=>whnf)
    refine⟨((1,[Fp (l.getD (Int.toNat ((0:Nat):Int)) default)]):Nat × List (List UInt8)),[3],?_,⟨⟨rfl,(nB rfl),rfl⟩,?_,?_⟩⟩
    ·exact⟨⟨show 1≤l.length by omega,hstep (by omega)⟩,show l.length - 1<l.length - 0 by omega⟩
    ·exact tL
    ·(conv=>whnf)
     (repeat' ((first|with_reducible exact⟨⟩|((with_reducible refine aI ?_ ?_);focus (exact tA))|with_reducible refine iB ?_ ?_|fail)<;>(conv=>whnf)))
     all_goals (try simp only[wQ])
     intro e he
     have he:e<1:=he
     obtain rfl:e=0:=by omega
     exact⟨rfl,rfl⟩
   ·exfalso;omega
  ·have hlen2:L.length+1=i:=hlen
   (conv=>whnf)
   (repeat' ((first
    |((with_reducible refine aI ?_ ?_);focus (first|with_reducible exact⟨⟩|((with_reducible refine⟨?_,?_,?_⟩)<;>first|(intro e he;rcases(by omega:e=0∨e=1∨e=2∨e=3∨e=4∨e=5) with rfl|rfl|rfl|rfl|rfl|rfl<;>first|rfl|(exfalso;omega))|(with_reducible assumption)|omega|((with_reducible show Ap _ _);simp only[Ap,ty2,ty3,ty4,ty5,ty9,Cu,Ck,Cv,Cl,Cq,Cw,Cx,Cy,Bm,Bl,Bn,Bo,Bp,Bq,Br,List.length_cons,List.length_nil];first|omega|(refine⟨?_,?_⟩<;>omega)))|omega|exact tK))
    |(split<;>rename_i hh<;>(try simp only[wS] at hh))
    |fail)<;>(conv=>whnf)))
   ·(conv=>whnf)
    refine⟨((i+1,s::L++[Fp (l.getD (Int.toNat (i:Int)) default)]):Nat × List (List UInt8)),[3],?_,⟨⟨rfl,(nB rfl),rfl⟩,?_,?_⟩⟩
    ·exact⟨⟨show i+1≤l.length by omega,hstep (by omega)⟩,show l.length - (i+1)<l.length - i by omega⟩
    ·exact tL
    ·(conv=>whnf)
     (repeat' ((first|with_reducible exact⟨⟩|((with_reducible refine aI ?_ ?_);focus (exact tA))|with_reducible refine iB ?_ ?_|fail)<;>(conv=>whnf)))
     all_goals (try simp only[wQ])
     exact⟨by simp,fun e he=>⟨Xl (l:=s::L) rfl (fun _ _=>rfl) rfl (by simpa using he),rfl⟩⟩
   ·have hi:i=l.length:=by omega
    rw[hi,List.take_length] at h2
    refine⟨⟨by omega,fun e he=>rfl⟩,?_⟩
    refine⟨((s::L,[44]):List (List UInt8) × List UInt8),⟨by have:=K4 [44] 200 (s::L) (by rw[h2];exact hw);simp at this;show(Lib.join (s::L) [44]).length≤_;omega,by show(s::L).length≤_;simp;omega⟩,?_,?_⟩
    ·exact tL
    (conv=>whnf)
    all_goals (try (show _=_;simp only[wQ]))
    rw[h2]
@[irreducible] def By(l:List Tax):List UInt8:=if l.length=0 then [45] else Lib.join (l.map Fp) [44]
def Aas:PC:=PC.of (fun l:List Tax=>[slE 2 Tax.enc l]) (fun l=>l.length≤1000000) (fun l=>.str (sS (By l)))
def Na:PT:=C8 [(130,Ak9),(131,Ae3)]
theorem S0{W:World}(hW:Tabs W):Ct (Fw W) Tryz.prog Na:=(Ab Tryz.call130 (P8 hW) (Ab Tryz.call131 (P4 hW) Av))
def Nb:FuncId→Option Ctr:=Az Na []
theorem eU{W:World}(hW:Tabs W):Ad (Fw W) Tryz.prog Nb:=(Aw (S0 hW))
theorem eV{W:World}(hW:Tabs W):GoodP (Fw W) Tryz.prog 58 Aas:=by
 have hD:=S0 hW
 have hC0:∀ l:List Tax,Ad (Fw W) Tryz.prog Nb:=fun l=>(eU hW)
 refine As (D:=Na) (C:=fun l=>Nb) (wr:=(fun _=>false)) rfl Ao hD hC0 Tryz.func58 (fun _ _=>none) (fun _=>rfl) ?_
 intro l hf hp
 clear hf
 (conv=>whnf)
 (repeat' ((first
  |(split<;>rename_i hh<;>(try simp only[wS] at hh))
  |with_reducible refine lnI fun hln=>?_
  |fail)<;>(conv=>whnf)))
 all_goals (try (show _=_;simp only[wQ]))
 ·unfold By;rw[if_pos (by omega)]
 ·refine⟨l,⟨by omega,hp⟩,?_,?_⟩
  ·exact Ac _
  (conv=>whnf)
  all_goals (try (show _=_;simp only[wQ]))
  unfold By;rw[if_neg (by omega)]
@[irreducible] def Bs(c:Coupon):List UInt8:=Lib.itoa c.flight++[64]++Lib.itoa c.day++[61]++C0 c.value
@[irreducible] def Aof(c:Coupon):List UInt8:=Bs c++[58]++C2 c.status++(if c.holder=0 then [] else 47::Lib.itoa c.holder)++(if c.next=0 then [] else 62::A6 c.next)
theorem aM(s:Int):(C2 s).length≤1:=by
 by_cases h:Jf s=true
 ·obtain⟨c,hc,_⟩:=Aez h;rw[hc];exact Nat.le_refl 1
 ·unfold C2;rw[if_neg h];simp
theorem Aat{c:Coupon}(h1: -9223372036854775808≤c.flight∧c.flight≤9223372036854775807)(h2: -9223372036854775808≤c.day∧c.day≤9223372036854775807):(Bs c).length≤100:=by
 unfold Bs
 have:=Bv c.flight h1.1 h1.2
 have:=Bv c.day h2.1 h2.2
 have:=Hl c.value
 simp only[List.length_append,List.length_cons,List.length_nil];omega
def Zh:PC:=PC.fun fun|[.agg [.int .i64 cf,.int .i64 cd,.int .i64 cv,.int .i64 cs,.int .i64 ch,.int .u64 cx]]=>some (True,.str (sS (Bs (Coupon.mk cf cd cv cs ch cx))))|_=>none
theorem Rt{W:World}(hW:Tabs W):GoodP (Fw W) Tryz.prog 129 Zh:=by
 have hD:=Kn hW
 have hC0:Ad (Fw W) Tryz.prog Fq:=(P3 hW)
 refine Ax (D:=Hm) (C:=Fq) (wr:=(fun _=>false)) rfl Ao hD hC0 Tryz.func129 (fun _ _=>none) ?_
 clear hC0 hD hW
 intro cs p r h hf hp
 split at h
 case h_2=>cases h
 rename_i cf cd cv cs ch cx
 cases h
 try simp only[A0,Bg,Ak,Go.Vc.lo,Go.Vc.hi,and_true] at hf
 have l1:=Bv cf (by omega) (by omega)
 have l2:=Bv cd (by omega) (by omega)
 have l3:=Hl cv
 clear hf
 (conv=>whnf)
 (repeat' ((first
  |((with_reducible refine aI ?_ ?_);focus (first|with_reducible exact⟨⟩|exact tO|(simp only[List.length_append,bytesOf_length,List.toList_toArray,List.length_cons,List.length_nil,List.length_take,List.length_drop,Bb];omega)))
  |fail)<;>(conv=>whnf)))
 all_goals (try (show _=_;simp only[wQ]))
 unfold Bs;rfl
@[irreducible] def Auz(x:Event):List UInt8:=Lib.itoa x.day++[46]++Lib.itoa x.coupon++[46]++C2 x.src++C2 x.dst
end
end Go.Vc.Z
namespace Go.Vc.Z
open Go Go.Vc Go.Proofs Go.RowKit Go.Pl Go.Lib
noncomputable section
set_option maxRecDepth 100000
attribute [local irreducible] inK Utf8.decode Utf8.encode Lib.itoa Pl.worth Pl.allDig
attribute [local irreducible] Lib.join
abbrev numsL(t:Ticket):List Int:=[t.prev,t.origin,t.first,t.voucher,t.posts]
abbrev A13(n:Int):List UInt8:=decDigits n.toNat
def Au0(t:Ticket):List (List UInt8):=[[116,105,99,107,101,116],A6 t.number,t.locator,Lib.itoa t.issued]
theorem Uh{s:List UInt8}(h:G3 s=true):s.length=6:=by
 unfold G3 at h;simp at h;exact h.2
theorem Wb{l:List Tax}(h:l.length≤4)(hf:∀ s ∈ l.map Fp,s.length≤200):(By l).length≤1000:=by
 unfold By
 split
 ·simp
 ·have:=K4 [44] 200 _ hf
  simp at this;omega
end
end Go.Vc.Z
namespace Go.Vc.Z
open Go Go.Vc Go.Proofs Go.RowKit Go.Pl Go.Lib
noncomputable section
set_option maxRecDepth 100000
attribute [local irreducible] inK Utf8.decode Utf8.encode Lib.itoa Pl.worth Pl.allDig
end
end Go.Vc.Z
namespace Go.Vc.Z
open Go Go.Vc Go.Proofs Go.RowKit Go.Pl Go.Lib
noncomputable section
set_option maxRecDepth 100000
attribute [local irreducible] inK Utf8.decode Utf8.encode Lib.itoa Pl.worth Pl.allDig
attribute [local irreducible] Lib.join
def Au1:List (List UInt8):=[[111,107],[110,105,108],[97,114,103],[108,111,110,103],[98,121,116,101,115],[114,97,110,103,101],[110,111,110,101],[101,120,105,115,116,115],[102,117,108,108],[115,116,97,116,101],[100,101,97,100],[100,105,103,105,116],[115,116,111,99,107],[99,111,110,116,114,111,108],[109,111,110,101,121],[100,97,121],[107,101,121],[98,117,115,121]]
@[irreducible] def Nc(e:Int):List UInt8:=if 0≤e∧e≤17 then Au1.getD e.toNat [] else []
def Ala:PC:=PC.fun fun|[.int .i64 e]=>some (True,.str (sS (Nc e)))|_=>none
theorem Alb{e:Int}(h:0≤e∧e≤17):Nc e≠[]∧(Nc e).length≤10:=by
 unfold Nc;rw[if_pos h]
 rcases(by omega:e=0∨e=1∨e=2∨e=3∨e=4∨e=5∨e=6∨e=7∨e=8∨e=9∨e=10∨e=11∨e=12∨e=13∨e=14∨e=15∨e=16∨e=17) with rfl|rfl|rfl|rfl|rfl|rfl|rfl|rfl|rfl|rfl|rfl|rfl|rfl|rfl|rfl|rfl|rfl|rfl<;>decide
theorem oT{e:Int}(h: ¬(0≤e∧e≤17)):Nc e=[]:=by
 unfold Nc;rw[if_neg h]
theorem oU(e:Int):(Nc e).length≤10:=by
 by_cases h:0≤e∧e≤17
 ·exact(Alb h).2
 ·rw[oT h];simp
theorem nD{W:World}(hW:Tabs W):GoodP (Fw W) Tryz.prog 16 Ala:=by
 have hD:=Bc hW
 have hC0:Ad (Fw W) Tryz.prog Am:=(Be hW)
 refine Ax (D:=A8) (C:=Am) (wr:=(fun _=>false)) rfl Ao hD hC0 Tryz.func16 (fun _ _=>none) ?_
 clear hC0 hD hW
 intro cs p r h hf hp
 split at h
 case h_2=>cases h
 rename_i e
 cases h
 try simp only[A0,Bg,Ak,Go.Vc.lo,Go.Vc.hi,and_true] at hf
 by_cases h:0≤e∧e≤17
 ·rcases(by omega:e=0∨e=1∨e=2∨e=3∨e=4∨e=5∨e=6∨e=7∨e=8∨e=9∨e=10∨e=11∨e=12∨e=13∨e=14∨e=15∨e=16∨e=17) with rfl|rfl|rfl|rfl|rfl|rfl|rfl|rfl|rfl|rfl|rfl|rfl|rfl|rfl|rfl|rfl|rfl|rfl
  all_goals (
   (conv=>whnf)
   (repeat' ((first
    |((with_reducible refine aI ?_ ?_);focus (omega))
    |with_reducible refine lnI fun hln=>?_
    |fail)<;>(conv=>whnf)))
   all_goals (try (show _=_;simp only[wQ]))
   )
  all_goals (unfold Nc;rfl)
 ·clear hf
  (conv=>whnf)
  (repeat' ((first
   |((with_reducible refine aI ?_ ?_);focus (omega))
   |(split<;>rename_i hh<;>(try simp only[wS] at hh))
   |with_reducible refine lnI fun hln=>?_
   |fail)<;>(conv=>whnf)))
  all_goals (try (show _=_;simp only[wQ]))
  all_goals try (rw[oT h];done)
  all_goals (exfalso;omega)
end
end Go.Vc.Z
namespace Go.Vc.Z
open Go Go.Vc Go.Proofs Go.RowKit Go.Pl Go.Lib
noncomputable section
set_option maxRecDepth 100000
attribute [local irreducible] inK Utf8.decode Utf8.encode Lib.itoa Pl.worth Pl.allDig
attribute [local irreducible] Lib.join
theorem Alc{α:Type}[Inhabited α]{f:α→List UInt8}{l:List α}{i:Nat}{B:List (List UInt8)}(h:i<l.length):(B++(l.take i).map f)++[f (l.getD (Int.toNat (i:Int)) default)]=B++(l.take (i+1)).map f:=by
 rw[List.append_assoc,List.take_add_one,List.map_append,List.getElem?_eq_getElem h]
 have:l.getD (Int.toNat (i:Int)) default=l[i]:=by
  rw[show Int.toNat (i:Int)=i from rfl,List.getD_eq_getElem?_getD,List.getElem?_eq_getElem h];rfl
 rw[this];rfl
end
end Go.Vc.Z
namespace Go.Vc.Z
open Go Go.Vc Go.Proofs Go.RowKit Go.Pl Go.Lib
noncomputable section
set_option maxRecDepth 100000
attribute [local irreducible] inK Utf8.decode Utf8.encode Lib.itoa Pl.worth Pl.allDig
attribute [local irreducible] Lib.join
theorem Ui{α:Type}[Inhabited α]{f:α→List UInt8}{l:List α}{i:Nat}(h:i<l.length)(sep:List UInt8):Lib.join ((l.take (i+1)).map f) sep=(if i=0 then [] else Lib.join ((l.take i).map f) sep++sep)++f (l.getD (Int.toNat (i:Int)) default):=by
 have:=Alc (f:=f) (l:=l) (i:=i) (B:=[]) h
 simp only[List.nil_append] at this
 rw[←this]
 split
 ·rename_i h0
  subst h0
  simp[Lib.join_one]
 ·rw[Zd (by rw[ne_eq,List.map_eq_nil_iff,List.take_eq_nil_iff];intro hc;rcases hc with hc|hc<;>first|omega|(rw[hc] at h;simp at h)),List.append_assoc]
theorem Hn{n:Int}(h:Dl n=true):Gn n=C0 n:=by unfold C0;rw[if_pos h]
theorem Zi{n:Int}(h:Di n=true):Dl n=true∧ -9223372036854775807≤n:=by
 unfold Di at h;simp at h
 exact⟨by unfold Dl;simp;omega,by omega⟩
theorem Zj{n:Int}(h:Dl n=true): -9223372036854775807≤n:=by
 unfold Dl at h;simp at h;omega
def oV:PC:=PC.fun fun|[.agg [.int .i64 cf,.int .i64 cd,.int .i64 cv,.int .i64 cs,.int .i64 ch,.int .u64 cx]]=>some (Dl cv=true,.str (sS (Bs (Coupon.mk cf cd cv cs ch cx))))|_=>none
def E4:PT:=C8 [(49,oP),(83,eP)]
theorem G6{W:World}(hW:Tabs W):Ct (Fw W) Tryz.prog E4:=(Ab Tryz.call49 (Jn hW) (Ab Tryz.call83 (M9 hW) Av))
def Eb:FuncId→Option Ctr:=Az E4 []
theorem Le{W:World}(hW:Tabs W):Ad (Fw W) Tryz.prog Eb:=(Aw (G6 hW))
theorem S4{W:World}(hW:Tabs W):GoodP (Fw W) Tryz.prog 171 oV:=by
 have hD:=G6 hW
 have hC0:Ad (Fw W) Tryz.prog Eb:=(Le hW)
 refine Ax (D:=E4) (C:=Eb) (wr:=(fun _=>false)) rfl Ao hD hC0 Tryz.func171 (fun _ _=>none) ?_
 clear hC0 hD hW
 intro cs p r h hf hp
 split at h
 case h_2=>cases h
 rename_i cf cd cv cs ch cx
 cases h
 try simp only[A0,Bg,Ak,Go.Vc.lo,Go.Vc.hi,and_true] at hf
 have l1:=Bv cf (by omega) (by omega)
 have l2:=Bv cd (by omega) (by omega)
 have hlo:=Zj hp
 have l3:(Gn cv).length≤31:=by rw[Hn hp];exact Hl cv
 clear hf
 (conv=>whnf)
 (repeat' ((first
  |((with_reducible refine aI ?_ ?_);focus (first|with_reducible exact⟨⟩|with_reducible assumption|exact tO|(simp only[List.length_append,bytesOf_length,List.toList_toArray,List.length_cons,List.length_nil,List.length_take,List.length_drop,Bb];omega)))
  |fail)<;>(conv=>whnf)))
 all_goals (try (show _=_;simp only[wQ]))
 unfold Bs;rw[Hn hp]
def Aau:PC:=PC.of (fun l:List Tax=>[slE 2 Tax.enc l]) (fun l=>Dg l=true) (fun l=>.str (sS (By l)))
def Azr(l:List Tax):LoopSpec:={
 α:=Nat
 keep:=[0,3,4]
 vals i:=[slE 2 Tax.enc l,.str (sS (Lib.join ((l.take i).map Fp) [44])),.int .i64 i]
 heap _:=[]
 ok i:=i≤l.length
 μ i:=l.length - i }
theorem Ae4{l:List Tax}:∀ {k:Int},Cz k l=true→∀ x ∈ l,Di x.amount=true:=by
 induction l with
 |nil=>intro k _ x hx;cases hx
 |cons y l ih=>
  intro k h x hx
  simp only[Cz,Bool.and_eq_true] at h
  rcases List.mem_cons.1 hx with rfl|hx
  ·exact h.1.2
  ·exact ih h.2 x hx
theorem Ho{l:List Tax}(h:Dg l=true):l.length≤4∧∀ i,i<l.length→Di (l.getD (Int.toNat (i:Int)) default).amount=true:=by
 unfold Dg at h
 simp only[Bool.and_eq_true,decide_eq_true_eq] at h
 refine⟨h.2,fun i hi=>Ae4 h.1 _ ?_⟩
 rw[show Int.toNat (i:Int)=i from rfl,List.getD_eq_getElem?_getD,List.getElem?_eq_getElem hi]
 exact List.getElem_mem hi
def U8:List Tax→Nat→Option LR:=fun l i=>cond (Nat.beq i 5) (some (.inv (Azr l))) (none)
set_option maxHeartbeats 2000000 in
theorem U9{W:World}(hW:Tabs W):GoodP (Fw W) Tryz.prog 85 Aau:=by
 have hD:=G6 hW
 have hC0:∀ l:List Tax,Ad (Fw W) Tryz.prog Eb:=fun l=>(Le hW)
 refine As (D:=E4) (C:=fun l=>Eb) (wr:=(fun _=>false)) rfl Ao hD hC0 Tryz.func85 (U8) (fun _=>rfl) ?_
 intro l hf hp
 obtain⟨p1,p2⟩:=Ho hp
 have hw:=P5 hf
 have hx:∀ i,i<l.length→ -9223372036854775808≤(l.getD (Int.toNat (i:Int)) default).code∧(l.getD (Int.toNat (i:Int)) default).code≤9223372036854775807:=fun i hi=>by
  simp only[A0,Bg] at hf
  exact Ak.1 (hf.1.2 i hi).2.1
 clear hf
 (conv=>whnf)
 (repeat' ((first
  |(split<;>rename_i hh<;>(try simp only[wS] at hh))
  |with_reducible refine lnI fun hln=>?_
  |fail)<;>(conv=>whnf)))
 all_goals (try (show _=_;simp only[wQ]))
 ·unfold By;rw[if_pos (by omega)]
 ·refine⟨?_,fun(i:Nat) (hi:i≤l.length)=>?_⟩
  ·(conv=>whnf)
   refine⟨(0:Nat),[],?_,⟨⟨rfl,(nB rfl),rfl⟩,?_,?_⟩⟩
   ·exact Nat.zero_le _
   ·(conv=>whnf)
    (repeat' ((first|with_reducible exact⟨⟩|((with_reducible refine aI ?_ ?_);focus (exact tA))|with_reducible refine iA ?_ ?_|fail)<;>(conv=>whnf)))
    all_goals (try simp only[wQ])
    all_goals (try first|omega|exact⟨fun h=>h,fun _ _=>True.intro⟩)
    simp[Lib.join_nil]
   ·exact tL
  ·have hj:=K4 [44] 200 ((l.take i).map Fp) (fun s hs=>hw s (List.mem_of_mem_take (by rwa[List.map_take] at hs)))
   have hj2:(Lib.join ((l.take i).map Fp) [44]).length≤1000:=by
    have h4:((l.take i).map Fp).length≤4:=by simp;omega
    have:=Nat.mul_le_mul_right (200+[(44:UInt8)].length) h4
    simp only[List.length_cons,List.length_nil] at this hj
    omega
   have q1:i<l.length→(Lib.itoa (l.getD (Int.toNat (i:Int)) default).code).length≤32:=fun h=>Bv _ (hx i h).1 (hx i h).2
   have q2:i<l.length→(Gn (l.getD (Int.toNat (i:Int)) default).amount).length≤31:=fun h=>by rw[Hn (Zi (p2 i h)).1];exact Hl _
   have q3:i<l.length→ -9223372036854775807≤(l.getD (Int.toNat (i:Int)) default).amount:=fun h=>(Zi (p2 i h)).2
   have q4:i<l.length→Fp (l.getD (Int.toNat (i:Int)) default)=Lib.itoa (l.getD (Int.toNat (i:Int)) default).code++[61]++Gn (l.getD (Int.toNat (i:Int)) default).amount:=fun h=>by unfold Fp;rw[Hn (Zi (p2 i h)).1]
   (conv=>whnf)
   (repeat' ((first
    |((with_reducible refine aI ?_ ?_);focus (first|with_reducible exact⟨⟩|exact tO|omega|exact tK|(simp only[List.length_append,bytesOf_length,List.toList_toArray,List.length_cons,List.length_nil,List.length_take,List.length_drop,Bb];omega)))
    |(split<;>rename_i hh<;>(try simp only[wS] at hh))
    |with_reducible refine lnI fun hln=>?_
    |fail)<;>(conv=>whnf)))
   all_goals (try (show _=_;simp only[wQ]))
   ·(conv=>whnf)
    refine⟨(i+1:Nat),[],?_,⟨⟨rfl,(nB rfl),rfl⟩,?_,?_⟩⟩
    ·exact⟨show i+1≤l.length by omega,show l.length - (i+1)<l.length - i by omega⟩
    ·(conv=>whnf)
     (repeat' ((first|with_reducible exact⟨⟩|((with_reducible refine aI ?_ ?_);focus (exact tA))|with_reducible refine iA ?_ ?_|fail)<;>(conv=>whnf)))
     all_goals (try simp only[wQ])
     all_goals (try first|omega|exact⟨fun h=>h,fun _ _=>True.intro⟩)
     rw[Ui (by omega),if_neg (by omega),q4 (by omega)];simp
    ·exact tL
   ·(conv=>whnf)
    refine⟨(i+1:Nat),[],?_,⟨⟨rfl,(nB rfl),rfl⟩,?_,?_⟩⟩
    ·exact⟨show i+1≤l.length by omega,show l.length - (i+1)<l.length - i by omega⟩
    ·(conv=>whnf)
     (repeat' ((first|with_reducible exact⟨⟩|((with_reducible refine aI ?_ ?_);focus (exact tA))|with_reducible refine iA ?_ ?_|fail)<;>(conv=>whnf)))
     all_goals (try simp only[wQ])
     all_goals (try first|omega|exact⟨fun h=>h,fun _ _=>True.intro⟩)
     obtain rfl:i=0:=by omega
     rw[Ui (by omega),if_pos rfl,q4 (by omega)];simp[Lib.join_nil]
    ·exact tL
   ·unfold By;rw[if_neg (by omega),List.take_of_length_le (by omega)]
end
end Go.Vc.Z
namespace Go.Vc.Z
open Go Go.Vc Go.Proofs Go.RowKit Go.Pl Go.Lib
noncomputable section
set_option maxRecDepth 100000
attribute [local irreducible] inK Utf8.decode Utf8.encode Lib.itoa Pl.worth Pl.allDig
attribute [local irreducible] Lib.join
def S1(t:Ticket)(i:Nat):List UInt8:=Lib.join (Au0 t++((numsL t).take i).map A13) [32]
def S2(t:Ticket)(i:Nat):List UInt8:=S1 t 5++(if i=0 then [] else 32::Lib.join ((t.coupons.take i).map Aof) [44])
def S3(t:Ticket)(i:Nat):List UInt8:=S2 t t.coupons.length++[32]++By t.taxes++[32]++Lib.join ((t.history.take i).map Auz) [44]
end
end Go.Vc.Z
namespace Go.Vc.Z
open Go Go.Vc Go.Proofs Go.RowKit Go.Pl Go.Lib
noncomputable section
set_option maxRecDepth 100000
attribute [local irreducible] inK Utf8.decode Utf8.encode Lib.itoa Pl.worth Pl.allDig
attribute [local irreducible] Lib.join
end
end Go.Vc.Z
namespace Go.Vc.Z
open Go Go.Vc Go.Proofs Go.RowKit Go.Pl Go.Lib
noncomputable section
set_option maxRecDepth 100000
attribute [local irreducible] inK Utf8.decode Utf8.encode Lib.itoa Pl.worth Pl.allDig
end
end Go.Vc.Z
namespace Go.Vc.Z
open Go Go.Vc Go.Proofs Go.RowKit Go.Pl Go.Lib
noncomputable section
set_option maxRecDepth 100000
attribute [local irreducible] inK Utf8.decode Utf8.encode Lib.itoa Pl.worth Pl.allDig
attribute [local irreducible] Lib.join
def isKey(c:UInt8):Bool:=(decide (97≤c.toNat)&&decide (c.toNat≤122)) || (decide (48≤c.toNat)&&decide (c.toNat≤57))
theorem P9{c:UInt8}:isKey c=true↔(97≤c.toNat∧c.toNat≤122)∨(48≤c.toNat∧c.toNat≤57):=by simp[isKey]
@[irreducible] def Gp(s:List UInt8):Bool:=s.all isKey&&decide (1≤s.length)&&decide (s.length≤16)
def S5:PC:=PC.fun fun|[.str s]=>some (True,.bool (sB (Gp s)))|_=>none
def A14(s:List UInt8):LoopSpec:={
 α:=Nat
 keep:=[0,6]
 vals i:=[.str s,.iter 0]
 heap i:=[.iter s i]
 ok i:=i≤s.length∧(s.take i).all isKey=true
 μ i:=s.length - i }
def Zk:List AV→Nat→Option LR:=fun cs i=>match cs with|[.str s]=>cond (Nat.beq i 2) (some (.inv (A14 s))) (none)|_=>none
theorem Qa{W:World}(hW:Tabs W):GoodP (Fw W) Tryz.prog 275 S5:=by
 have hD:=Bc hW
 have hC0:Ad (Fw W) Tryz.prog Am:=(Be hW)
 refine Ax (D:=A8) (C:=Am) (wr:=(fun _=>false)) rfl Ao hD hC0 Tryz.func275 (Zk) ?_
 clear hC0 hD hW
 intro cs p r h hf hp
 split at h
 case h_2=>cases h
 rename_i s
 cases h
 try simp only[A0,Bg,Ak,Go.Vc.lo,Go.Vc.hi,and_true] at hf
 (conv=>whnf)
 refine⟨?_,fun(i:Nat) (hi:i≤s.length∧(s.take i).all isKey=true)=>?_⟩
 ·(conv=>whnf)
  refine⟨(0:Nat),[],?_,⟨⟨rfl,(nB rfl),rfl⟩,?_,?_⟩⟩
  ·exact⟨Nat.zero_le _,by simp⟩
  ·exact tL
  ·exact tL
 ·obtain⟨h1,h2⟩:=hi
  have hk:i<s.length→((97≤Bj s i∧Bj s i≤122)∨(48≤Bj s i∧Bj s i≤57))→isKey (s.getD i 0)=true∧Ai s i=1:=fun h hc=>by
   rcases Ef h with ⟨h6,h7,h8⟩|⟨h6,h7⟩
   ·exact⟨P9.2 (by omega),h7⟩
   ·omega
  have hn:i<s.length→¬((97≤Bj s i∧Bj s i≤122)∨(48≤Bj s i∧Bj s i≤57))→Gp s=false:=fun h hc=>by
   unfold Gp
   rw[M1 h (by
    rcases Ef h with ⟨h6,h7,h8⟩|⟨h6,h7⟩
    ·exact Bool.eq_false_iff.2 fun h=>by have:=P9.1 h;omega
    ·exact Bool.eq_false_iff.2 fun h=>by have:=P9.1 h;omega)]
   rfl
  have hst:=Ie (p:=isKey) (l:=s) (i:=i)
  have hfin:s.length≤i→Gp s=(decide (1≤s.length)&&decide (s.length≤16)):=fun h=>by
   rw[List.take_of_length_le h] at h2
   unfold Gp;rw[h2,Bool.true_and]
  (conv=>whnf)
  (repeat' ((first
   |(split<;>rename_i hh<;>(try simp only[wS] at hh))
   |with_reducible refine lnI fun hln=>?_
   |fail)<;>(conv=>whnf)))
  all_goals (try (show _=_;simp only[wQ]))
  all_goals try (rw[hn (by omega) (by omega)];done)
  all_goals try (
   obtain⟨h6,h7⟩:=hk (by omega) (by omega)
   (conv=>whnf)
   refine⟨(i+1:Nat),[],?_,⟨⟨rfl,(nB rfl),rfl⟩,?_,?_⟩⟩
   ·exact⟨⟨show i+1≤s.length by omega,by rw[hst (by omega),h2,h6];rfl⟩,show s.length - (i+1)<s.length - i by omega⟩
   ·exact tL
   ·(conv=>whnf)
    (repeat' ((first|with_reducible exact⟨⟩|((with_reducible refine aI ?_ ?_);focus (exact tA))|with_reducible refine iB ?_ ?_|fail)<;>(conv=>whnf)))
    all_goals (try first|omega)
    all_goals (rw[h7])
   done)
  all_goals (rw[hfin (by omega)];first|(rw[Dc,decide_eq_true (show 1≤s.length by omega),Bool.true_and];exact decide_eq_decide.2 ⟨fun h=>by omega,fun h=>by omega⟩)|(rw[decide_eq_false (show¬1≤s.length by omega)];rfl))
theorem Ald{k f d u st m g j k' f' d' u' st' m' g' j':Int}{a b a' b':List UInt8}:eqA TY 12 244 (.agg [.int .i64 k,.str a,.str b,.int .i64 f,.int .i64 d,.int .u64 u,.int .i64 st,.int .i64 m,.int .i64 g,.int .i64 j]) (.agg [.int .i64 k',.str a',.str b',.int .i64 f',.int .i64 d',.int .u64 u',.int .i64 st',.int .i64 m',.int .i64 g',.int .i64 j'])=some (k == k'&&(a == a'&&(b == b'&&(f == f'&&(d == d'&&(u == u'&&(st == st'&&(m == m'&&(g == g'&&(j == j')))))))))):=by
 have e244:TY 244=some Afx:=rfl
 have e54:TY 54=some Akl:=rfl
 have e9:TY 9=some ty9:=rfl
 have e3:TY 3=some ty3:=rfl
 have e2:TY 2=some ty2:=rfl
 have e43:TY 43=some Cl:=rfl
 have e37:TY 37=some Ck:=rfl
 simp[eqA,Ad5,e244,e54,e9,e3,e2,e43,e37,Afx,Akl,ty9,ty3,ty2,Cl,Ck,Oh,Bt]
theorem Zl{k f d u st m g j k' f' d' u' st' m' g' j':Int}{a b a' b':List UInt8}{N:Bool→Prop}(hN:N (k == k'&&(a == a'&&(b == b'&&(f == f'&&(d == d'&&(u == u'&&(st == st'&&(m == m'&&(g == g'&&(j == j'))))))))))):Je (eqA TY 12 244 (.agg [.int .i64 k,.str a,.str b,.int .i64 f,.int .i64 d,.int .u64 u,.int .i64 st,.int .i64 m,.int .i64 g,.int .i64 j]) (.agg [.int .i64 k',.str a',.str b',.int .i64 f',.int .i64 d',.int .u64 u',.int .i64 st',.int .i64 m',.int .i64 g',.int .i64 j'])) N:=by
 rw[Ald];exact hN
def c7:Coupon:=⟨7,9,1000,0,0,0⟩
end
end Go.Vc.Z
namespace Go.Vc.Z
open Go Go.Vc Go.Proofs Go.RowKit Go.Pl Go.Lib
theorem Lf{n:Int}(h0:0≤n)(h:n<10):Lib.itoa n=[UInt8.ofNat (48+n.toNat)]:=by
 unfold Lib.itoa;rw[if_neg (by omega),decDigits_one (by omega)]
theorem Ae5:Bs ⟨7,9,1000,0,0,0⟩=[55,64,57,61,49,48,46,48,48]:=by
 unfold Bs C0 Dl Gn Bu
 simp only[Lf (n:=7) (by decide) (by decide),Lf (n:=9) (by decide) (by decide)]
 rw[show Lib.decDigits (1000 / 10 / 10:Int).toNat=[49,48] from decDigits_two (by decide) (by decide)]
 rfl
theorem Ae6:By []=[45]:=by unfold By;rfl
noncomputable section
set_option maxRecDepth 100000
attribute [local irreducible] inK Utf8.decode Utf8.encode Lib.itoa Pl.worth Pl.allDig
attribute [local irreducible] Lib.join
def Agc:List UInt8:=[105,115,115,117,101,32,107,55,32,51,32,65,66,67,50,51,52,32,55,64,57,61,49,48,46,48,48,32,45]
end
end Go.Vc.Z
namespace Go.Vc.Z
open Go Go.Vc Go.Proofs Go.RowKit Go.Pl Go.Lib
def xV:List (List UInt8):=[[99,114,97,115,104],Lib.itoa 1,Lib.itoa 4,Lib.itoa (-1)]
theorem Aog:Lib.itoa (-1)=[45,49]:=by
 unfold Lib.itoa;rw[if_pos (by decide)]
 rw[show(-1:Int).natAbs=1 from rfl,decDigits_one (by decide)];rfl
theorem Ate:Lib.join xV [32]=[99,114,97,115,104,32,49,32,52,32,45,49]:=by
 unfold xV;rw[Aog,Lf (n:=1) (by decide) (by decide),Lf (n:=4) (by decide) (by decide)];rfl
theorem Au2:(Lib.join xV [32]).length≤140737488355328:=by rw[Ate];decide
noncomputable section
set_option maxRecDepth 100000
attribute [local irreducible] inK Utf8.decode Utf8.encode Lib.itoa Pl.worth Pl.allDig
attribute [local irreducible] Lib.join
def Azs:Bool→AV
 |true=>.agg [.int .i64 1,.int .i64 0,.str [107,55],.int .i64 1,.int .i64 3,.int .u64 0,.int .i64 0,.int .i64 0,.str [65,66,67,50,51,52],slE 6 Coupon.enc [c7],.nilsl,.int .i64 0,.int .i64 0,.int .i64 0,.int .i64 0,.nilsl,.bool false]
 |false=>.agg [.int .i64 4,.int .i64 1,.str [],.int .i64 0,.int .i64 0,.int .u64 0,.int .i64 0,.int .i64 0,.str [],.nilsl,.nilsl,.int .i64 0,.int .i64 0,.int .i64 0,.int .i64 0,.sl false 1 2 (fun e=>[.int .i64 (([4, -1]:List Int).getD e 0)]),.bool false]
def Ale:PC:=PC.of (fun b:Bool=>[Azs b]) (fun _=>True) (fun _=>.bool (sB true))
def Alf:Bool→List UInt8
 |true=>[100,111,32,48,32]++Agc
 |false=>[99,114,97,115,104,32,49,32,52,32,45,49]
def Alg:PC:=PC.of (fun b:Bool=>[Azs b]) (fun _=>True) (fun b=>.str (sS (Alf b)))
end
end Go.Vc.Z
namespace Go.Vc.Z
open Go Go.Vc Go.Proofs Go.RowKit Go.Pl Go.Lib
def Aav:Told:=⟨⟨6,[],[],[]⟩,0,0⟩
noncomputable section
set_option maxRecDepth 100000
attribute [local irreducible] inK Utf8.decode Utf8.encode Lib.itoa Pl.worth Pl.allDig
attribute [local irreducible] Lib.join
def xW:PC:=PC.fun fun|[]=>some (True,.bool (sB true))|_=>none
end
end Go.Vc.Z
namespace Go.Vc.Z
open Go Go.Vc Go.Proofs Go.RowKit Go.Pl Go.Lib
noncomputable section
set_option maxRecDepth 100000
attribute [local irreducible] inK Utf8.decode Utf8.encode Lib.itoa Pl.worth Pl.allDig
attribute [local irreducible] Lib.join
end
end Go.Vc.Z
namespace Go.Vc.Z
open Go Go.Vc Go.Proofs Go.RowKit Go.Pl Go.Lib
noncomputable section
set_option maxRecDepth 100000
attribute [local irreducible] inK Utf8.decode Utf8.encode Lib.itoa Pl.worth Pl.allDig
attribute [local irreducible] Lib.join
open Classical in
@[irreducible] def cEq(a b:Coupon):Bool:=decide (a=b)
theorem Xm{a b:Coupon}:cEq a b=true↔a=b:=by unfold cEq;simp
open Classical in
@[irreducible] def xEq(a b:Tax):Bool:=decide (a=b)
theorem Xn{a b:Tax}:xEq a b=true↔a=b:=by unfold xEq;simp
theorem Aoh(k:Nat)(c m c' m':Int):eqA TY (k+3) 113 (.agg [.int .i64 c,.int .i64 m]) (.agg [.int .i64 c',.int .i64 m'])=some (c == c'&&m == m'):=by
 have e1:TY 113=some Bl:=rfl
 have e3:TY 3=some ty3:=rfl
 have e2:TY 2=some ty2:=rfl
 simp[eqA,Ad5,e1,e3,e2,Bl,ty3,ty2,Oh,Bt]
theorem Aaw{k:Nat}{c d:Coupon}{N:Bool→Prop}(hN:N (cEq c d)):Je (eqA TY (k+3) 45 (.agg [.int .i64 c.flight,.int .i64 c.day,.int .i64 c.value,.int .i64 c.status,.int .i64 c.holder,.int .u64 c.next]) (.agg [.int .i64 d.flight,.int .i64 d.day,.int .i64 d.value,.int .i64 d.status,.int .i64 d.holder,.int .u64 d.next])) N:=by
 rw[eF]
 have:cEq c d=(c.flight == d.flight&&(c.day == d.day&&(c.value == d.value&&(c.status == d.status&&(c.holder == d.holder&&c.next == d.next))))):=by
  cases c;cases d;rw[Bool.eq_iff_iff,Xm];simp
 rw[this] at hN;exact hN
theorem Aax{k:Nat}{c d:Tax}{N:Bool→Prop}(hN:N (xEq c d)):Je (eqA TY (k+3) 113 (.agg [.int .i64 c.code,.int .i64 c.amount]) (.agg [.int .i64 d.code,.int .i64 d.amount])) N:=by
 rw[Aoh]
 have:xEq c d=(c.code == d.code&&c.amount == d.amount):=by
  cases c;cases d;rw[Bool.eq_iff_iff,Xn];simp
 rw[this] at hN;exact hN
theorem Jp{α:Type}[Inhabited α]:∀ {l m:List α},l.length=m.length→(∀ j,j<l.length→l.getD j default=m.getD j default)→l=m
 |[],[],_,_=>rfl
 |[],_::_,h,_=>by simp at h
 |_::_,[],h,_=>by simp at h
 |a::l,b::m,h,hj=>by
  have h0:a=b:=hj 0 (by simp)
  have:=Jp (l:=l) (m:=m) (by simpa using h) (fun j hl=>by
   have:=hj (j+1) (by simp;omega)
   exact this)
  rw[h0,this]
end
end Go.Vc.Z
namespace Go.Vc.Z
open Go Go.Vc Go.Proofs Go.RowKit Go.Pl Go.Lib
structure Request where
 key:List UInt8
 kind:Int
 day:Int
 ticket:Int
 coupon:Int
 status:Int
 locator:List UInt8
 coupons:List Coupon
 taxes:List Tax
 amount:Int
 frm:Int
 til:Int
deriving Inhabited
abbrev Request.enc(r:Request):List AV:=[.str r.key,.int .i64 r.kind,.int .i64 r.day,.int .u64 r.ticket,.int .i64 r.coupon,.int .i64 r.status,.str r.locator,slE 6 Coupon.enc r.coupons,slE 2 Tax.enc r.taxes,.int .i64 r.amount,.int .i64 r.frm,.int .i64 r.til]
noncomputable section
set_option maxRecDepth 100000
attribute [local irreducible] inK Utf8.decode Utf8.encode Lib.itoa Pl.worth Pl.allDig
attribute [local irreducible] Lib.join
@[irreducible] def Aay(r:Request):Bool:=decide (40<r.coupons.length) || decide (40<r.taxes.length) || decide (200<r.key.length) || decide (200<r.locator.length)
def Agd:PC:=PC.of (fun r:Request=>[.agg r.enc]) (fun _=>True) (fun r=>.bool (sB (Aay r)))
theorem Wc{W:World}(hW:Tabs W):GoodP (Fw W) Tryz.prog 23 Agd:=by
 have hD:=Bc hW
 have hC0:∀ r:Request,Ad (Fw W) Tryz.prog Am:=fun r=>(Be hW)
 refine As (D:=A8) (C:=fun r=>Am) (wr:=(fun _=>false)) rfl Ao hD hC0 Tryz.func23 (fun _ _=>none) (fun _=>rfl) ?_
 intro t hf hp
 clear hf
 have hm:Aay t=(decide (40<t.coupons.length) || decide (40<t.taxes.length) || decide (200<t.key.length) || decide (200<t.locator.length)):=by unfold Aay;rfl
 (conv=>whnf)
 (repeat' ((first
  |(split<;>rename_i hh<;>(try simp only[wS] at hh))
  |with_reducible refine lnI fun hln=>?_
  |fail)<;>(conv=>whnf)))
 all_goals (try (show _=_;simp only[wQ]))
 ·rw[hm,decide_eq_true (show 40<t.coupons.length by omega)];simp
 ·rw[hm,decide_eq_true (show 40<t.taxes.length by omega)];simp
 ·rw[hm,decide_eq_true (show 200<t.key.length by omega)];simp
 ·rw[hm,F6,decide_eq_false (show¬40<t.coupons.length by omega),decide_eq_false (show¬40<t.taxes.length by omega),decide_eq_false (show¬200<t.key.length by omega)]
  simp only[Bool.false_or];exact decide_eq_decide.2 ⟨fun h=>by omega,fun h=>by omega⟩
def Xo(k:Int):List UInt8:=cond (eqI k 1) [75,68,76,74,88] (cond (eqI k 2) [75,68,84,78,83] (cond (eqI k 3) [75,68,84] (cond (eqI k 4) [75,68,84,65] (cond (eqI k 5) [75,68,84,65,67,88] (cond (eqI k 6) [75,68,84,78] (cond (eqI k 7) [75,68,84,78] (cond (eqI k 8) [84] (cond (eqI k 9) [76] (cond (eqI k 10) [82] [])))))))))
theorem Age{k:Int}(h: ¬(1≤k∧k≤10)):Xo k=[]:=by
 unfold Xo
 have e:∀ m:Int,1≤m→m≤10→eqI k m=false:=fun m h1 h2=>by
  rw[Bt,beq_eq_false_iff_ne];omega
 simp only[e 1 (by decide) (by decide),e 2 (by decide) (by decide),e 3 (by decide) (by decide),e 4 (by decide) (by decide),e 5 (by decide) (by decide),e 6 (by decide) (by decide),e 7 (by decide) (by decide),e 8 (by decide) (by decide),e 9 (by decide) (by decide),e 10 (by decide) (by decide),cond_false]
theorem kinds{k:Int}(h:1≤k∧k≤10):k=1∨k=2∨k=3∨k=4∨k=5∨k=6∨k=7∨k=8∨k=9∨k=10:=by omega
def Aaz:PC:=PC.fun fun|[.int .i64 e]=>some (True,.str (Xo e))|_=>none
theorem Gy{W:World}(hW:Tabs W):GoodP (Fw W) Tryz.prog 75 Aaz:=by
 have hD:=Bc hW
 have hC0:Ad (Fw W) Tryz.prog Am:=(Be hW)
 refine Ax (D:=A8) (C:=Am) (wr:=(fun _=>false)) rfl Ao hD hC0 Tryz.func75 (fun _ _=>none) ?_
 clear hC0 hD hW
 intro cs p r h hf hp
 split at h
 case h_2=>cases h
 rename_i e
 cases h
 try simp only[A0,Bg,Ak,Go.Vc.lo,Go.Vc.hi,and_true] at hf
 by_cases h:1≤e∧e≤10
 ·rcases kinds h with rfl|rfl|rfl|rfl|rfl|rfl|rfl|rfl|rfl|rfl
  all_goals (
   (conv=>whnf)
   (repeat' ((first
    |((with_reducible refine aI ?_ ?_);focus (first|omega|exact tK))
    |with_reducible refine lnI fun hln=>?_
    |fail)<;>(conv=>whnf)))
   all_goals (try (show _=_;simp only[wQ]))
   )
  all_goals rfl
 ·clear hf
  (conv=>whnf)
  (repeat' ((first
   |((with_reducible refine aI ?_ ?_);focus (omega))
   |(split<;>rename_i hh<;>(try simp only[wS] at hh))
   |with_reducible refine lnI fun hln=>?_
   |fail)<;>(conv=>whnf)))
  all_goals (try (show _=_;simp only[wQ]))
  all_goals try (rw[Age h];done)
  all_goals (exfalso;omega)
def Dv:List (List UInt8):=[[105,115,115,117,101],[109,111,118,101],[118,111,105,100],[114,101,102,117,110,100],[101,120,99,104,97,110,103,101],[97,115,107],[114,101,116,117,114,110],[115,104,111,119],[102,105,110,100],[114,101,112,111,114,116]]
def xX:PC:=PC.fun fun|[]=>some (True,.sl false 1 10 (fun e=>[.str (Dv.getD e [])]))|_=>none
theorem L6{W:World}(hW:Tabs W):GoodP (Fw W) Tryz.prog 80 xX:=by
 have hD:=Bc hW
 have hC0:Ad (Fw W) Tryz.prog Am:=(Be hW)
 refine Ax (D:=A8) (C:=Am) (wr:=(fun _=>false)) rfl Ao hD hC0 Tryz.func80 (fun _ _=>none) ?_
 clear hC0 hD hW
 intro cs p r h hf hp
 split at h
 case h_2=>cases h
 skip
 cases h
 try simp only[A0,Bg,Ak,Go.Vc.lo,Go.Vc.hi,and_true] at hf
 (conv=>whnf)
 (repeat' ((first
  |((with_reducible refine aI ?_ ?_);focus (first|with_reducible rfl|decide))
  |fail)<;>(conv=>whnf)))
 intro e he
 match e,he with
 |0,_=>first|rfl|exact⟨rfl,rfl⟩
 |1,_=>first|rfl|exact⟨rfl,rfl⟩
 |2,_=>first|rfl|exact⟨rfl,rfl⟩
 |3,_=>first|rfl|exact⟨rfl,rfl⟩
 |4,_=>first|rfl|exact⟨rfl,rfl⟩
 |5,_=>first|rfl|exact⟨rfl,rfl⟩
 |6,_=>first|rfl|exact⟨rfl,rfl⟩
 |7,_=>first|rfl|exact⟨rfl,rfl⟩
 |8,_=>first|rfl|exact⟨rfl,rfl⟩
 |9,_=>first|rfl|exact⟨rfl,rfl⟩
 |e+10,he=>exact absurd he (by omega)
def Azt(s:List UInt8):LoopSpec:={
 α:=Nat
 keep:=[0,3]
 vals i:=[.str s,.int .i64 i]
 heap _:=[]
 ok i:=i≤s.length∧(s.take i).all isKey=true
 μ i:=s.length - i }
def S6:List AV→Nat→Option LR:=fun cs i=>match cs with|[.str s]=>cond (Nat.beq i 2) (some (.inv (Azt s))) (none)|_=>none
theorem S7{W:World}(hW:Tabs W):GoodP (Fw W) Tryz.prog 165 S5:=by
 have hD:=Bc hW
 have hC0:Ad (Fw W) Tryz.prog Am:=(Be hW)
 refine Ax (D:=A8) (C:=Am) (wr:=(fun _=>false)) rfl Ao hD hC0 Tryz.func165 (S6) ?_
 clear hC0 hD hW
 intro cs p r h hf hp
 split at h
 case h_2=>cases h
 rename_i s
 cases h
 try simp only[A0,Bg,Ak,Go.Vc.lo,Go.Vc.hi,and_true] at hf
 (conv=>whnf)
 refine⟨?_,fun(i:Nat) (hi:i≤s.length∧(s.take i).all isKey=true)=>?_⟩
 ·(conv=>whnf)
  refine⟨(0:Nat),[],?_,⟨⟨rfl,(nB rfl),rfl⟩,?_,?_⟩⟩
  ·exact⟨Nat.zero_le _,by simp⟩
  ·exact Ac _
  ·exact tL
 ·obtain⟨h1,h2⟩:=hi
  have hk:i<s.length→((97≤((s.getD (Int.toNat (i:Int)) 0).toNat:Int)∧((s.getD (Int.toNat (i:Int)) 0).toNat:Int)≤122)∨(48≤((s.getD (Int.toNat (i:Int)) 0).toNat:Int)∧((s.getD (Int.toNat (i:Int)) 0).toNat:Int)≤57))→isKey (s.getD i 0)=true:=fun h hc=>P9.2 (by
   have hc':((97≤((s.getD i 0).toNat:Int)∧((s.getD i 0).toNat:Int)≤122)∨(48≤((s.getD i 0).toNat:Int)∧((s.getD i 0).toNat:Int)≤57)):=hc
   omega)
  have hn:i<s.length→¬((97≤((s.getD (Int.toNat (i:Int)) 0).toNat:Int)∧((s.getD (Int.toNat (i:Int)) 0).toNat:Int)≤122)∨(48≤((s.getD (Int.toNat (i:Int)) 0).toNat:Int)∧((s.getD (Int.toNat (i:Int)) 0).toNat:Int)≤57))→Gp s=false:=fun h hc=>by
   unfold Gp
   rw[M1 h (Bool.eq_false_iff.2 fun h=>by
    have h':=P9.1 h
    have hc': ¬((97≤((s.getD i 0).toNat:Int)∧((s.getD i 0).toNat:Int)≤122)∨(48≤((s.getD i 0).toNat:Int)∧((s.getD i 0).toNat:Int)≤57)):=hc
    omega)]
   rfl
  have hst:=Ie (p:=isKey) (l:=s) (i:=i)
  have hfin:s.length≤i→Gp s=(decide (1≤s.length)&&decide (s.length≤16)):=fun h=>by
   rw[List.take_of_length_le h] at h2
   unfold Gp;rw[h2,Bool.true_and]
  (conv=>whnf)
  (repeat' ((first
   |((with_reducible refine aI ?_ ?_);focus (first|omega|exact tK))
   |(split<;>rename_i hh<;>(try simp only[wS] at hh))
   |with_reducible refine lnI fun hln=>?_
   |fail)<;>(conv=>whnf)))
  all_goals (try (show _=_;simp only[wQ]))
  all_goals try (rw[hn (by omega) (by omega)];done)
  all_goals try (
   have h6:=hk (by omega) (by omega)
   (conv=>whnf)
   refine⟨(i+1:Nat),[],?_,⟨⟨rfl,(nB rfl),rfl⟩,?_,?_⟩⟩
   ·exact⟨⟨show i+1≤s.length by omega,by rw[hst (by omega),h2,h6];rfl⟩,show s.length - (i+1)<s.length - i by omega⟩
   ·exact Ac _
   ·exact tL
   done)
  all_goals (rw[hfin (by omega)];first|(rw[Dc,decide_eq_true (show 1≤s.length by omega),Bool.true_and];exact decide_eq_decide.2 ⟨fun h=>by omega,fun h=>by omega⟩)|(rw[decide_eq_false (show¬1≤s.length by omega)];rfl))
@[irreducible] def Fh(most:Int)(l:List Coupon):Bool:=l.all (fun c=>Gk c 0)&&decide (1≤l.length)&&decide ((l.length:Int)≤most)
def Agf:PC:=PC.of (fun x:List Coupon × Int=>[slE 6 Coupon.enc x.1,.int .i64 x.2]) (fun _=>True) (fun x=>.bool (sB (Fh x.2 x.1)))
def LCo(l:List Coupon)(m:Int):LoopSpec:={
 α:=Nat
 keep:=[0,1,5]
 vals i:=[slE 6 Coupon.enc l,.int .i64 m,.int .i64 i]
 heap _:=[]
 ok i:=i≤l.length∧∀ j,j<i→Gk (l.getD j default) 0=true
 μ i:=l.length - i }
theorem Au3{α:Type}[Inhabited α]{p:α→Bool}{l:List α}(h:∀ j,j<l.length→p (l.getD j default)=true):l.all p=true:=by
 refine List.all_eq_true.2 fun x hx=>?_
 obtain⟨i,hi,rfl⟩:=List.getElem_of_mem hx
 have:=h i hi
 rw[List.getD_eq_getElem?_getD,List.getElem?_eq_getElem hi] at this
 exact this
theorem Ae7{α:Type}[Inhabited α]{p:α→Bool}{l:List α}{i:Nat}(hi:i<l.length)(h:p (l.getD i default)=false):l.all p=false:=by
 refine Bool.eq_false_iff.2 fun ha=>?_
 rw[List.getD_eq_getElem?_getD,List.getElem?_eq_getElem hi] at h
 have:=List.all_eq_true.1 ha _ (List.getElem_mem hi)
 rw[show(some l[i]).getD default=l[i] from rfl,this] at h
 cases h
def Fc:PT:=C8 [(70,Af7)]
theorem Ih{W:World}(hW:Tabs W):Ct (Fw W) Tryz.prog Fc:=(Ab Tryz.call70 (U4 hW) Av)
def Fe:FuncId→Option Ctr:=Az Fc []
theorem Pd{W:World}(hW:Tabs W):Ad (Fw W) Tryz.prog Fe:=(Aw (Ih hW))
def Pe:List Coupon × Int→Nat→Option LR:=fun x i=>cond (Nat.beq i 2) (some (.inv (LCo x.1 x.2))) (none)
theorem Pf{W:World}(hW:Tabs W):GoodP (Fw W) Tryz.prog 166 Agf:=by
 have hD:=Ih hW
 have hC0:∀ x:List Coupon × Int,Ad (Fw W) Tryz.prog Fe:=fun x=>(Pd hW)
 refine As (D:=Fc) (C:=fun x=>Fe) (wr:=(fun _=>false)) rfl Ao hD hC0 Tryz.func166 (Pe) (fun _=>rfl) ?_
 rintro⟨l,m⟩ hf hp
 clear hf
 (conv=>whnf)
 refine⟨?_,fun(i:Nat) hi=>?_⟩
 ·(conv=>whnf)
  refine⟨(0:Nat),[],?_,⟨⟨rfl,(nB rfl),rfl⟩,?_,?_⟩⟩
  ·exact⟨Nat.zero_le _,fun j hj=>absurd hj (Nat.not_lt_zero _)⟩
  ·exact Ac _
  ·exact tL
 ·obtain⟨h1,h2⟩:=hi
  have h1:i≤l.length:=h1
  (conv=>whnf)
  (repeat' ((first
   |((with_reducible refine aI ?_ ?_);focus (((with_reducible refine⟨?_,?_⟩)<;>first|with_reducible assumption|omega)))
   |(split<;>rename_i hh<;>(try simp only[wS] at hh))
   |with_reducible refine lnI fun hln=>?_
   |fail)<;>(conv=>whnf)))
  all_goals (try (show _=_;simp only[wQ]))
  refine⟨(l.getD (Int.toNat (i:Int)) default,(0:Int)),True.intro,?_,?_⟩
  ·exact Ac _
  (conv=>whnf)
  (repeat' ((first
   |((with_reducible refine aI ?_ ?_);focus ((dsimp only at*;simp only[Ak,Go.Vc.lo,Go.Vc.hi];omega)))
   |(split<;>rename_i hh<;>(try simp only[wS] at hh))
   |fail)<;>(conv=>whnf)))
  all_goals (try (show _=_;simp only[wQ]))
  ·have:l.all (fun c=>Gk c 0)=false:=Ae7 (i:=i) (by omega) (by assumption)
   unfold Fh;rw[this];rfl
  ·(conv=>whnf)
   refine⟨(i+1:Nat),[],?_,⟨⟨rfl,(nB rfl),rfl⟩,?_,?_⟩⟩
   ·refine⟨⟨show i+1≤l.length by omega,fun j hj=>?_⟩,show l.length - (i+1)<l.length - i by omega⟩
    have hj:j<i+1:=hj
    by_cases he:j=i
    ·subst he;assumption
    ·exact h2 j (by omega)
   ·exact Ac _
   ·exact tL
  all_goals (
   have:l.all (fun c=>Gk c 0)=true:=Au3 fun j hj=>h2 j (by omega)
   unfold Fh;rw[this];simp only[Bool.true_and,Dc])
  all_goals first|(rw[decide_eq_true (show 1≤l.length by omega),Bool.true_and];rfl)|(rw[decide_eq_false (show¬1≤l.length by omega)];rfl)
def LTx(l:List Tax):LoopSpec:={
 α:=Nat
 keep:=[0,3]
 vals i:=[slE 2 Tax.enc l,.int .i64 i]
 heap _:=[]
 ok i:=i≤l.length∧(0<i→1≤(l.getD (i - 1) default).code)∧Cz (if i=0 then 1 else(l.getD (i - 1) default).code+1) (l.drop i)=Cz 1 l
 μ i:=l.length - i }
def Ga:PT:=C8 [(139,xN)]
theorem Jq{W:World}(hW:Tabs W):Ct (Fw W) Tryz.prog Ga:=(Ab Tryz.call139 (Iq hW) Av)
def Gb:FuncId→Option Ctr:=Az Ga []
theorem Q9{W:World}(hW:Tabs W):Ad (Fw W) Tryz.prog Gb:=(Aw (Jq hW))
def Ra:List Tax→Nat→Option LR:=fun l i=>cond (Nat.beq i 2) (some (.inv (LTx l))) (none)
theorem Rb{W:World}(hW:Tabs W):GoodP (Fw W) Tryz.prog 167 Af6:=by
 have hD:=Jq hW
 have hC0:∀ l:List Tax,Ad (Fw W) Tryz.prog Gb:=fun l=>(Q9 hW)
 refine As (D:=Ga) (C:=fun l=>Gb) (wr:=(fun _=>false)) rfl Ao hD hC0 Tryz.func167 (Ra) (fun _=>rfl) ?_
 intro l hf hp
 have hbad:∀ (h:(Cz 1 l=true→False)),false=Dg l:=fun h=>by
  symm
  refine Bool.eq_false_iff.2 fun hm=>?_
  unfold Dg at hm
  simp only[Bool.and_eq_true,decide_eq_true_eq] at hm
  exact h hm.1
 (conv=>whnf)
 refine⟨?_,fun(k:Nat) hk=>?_⟩
 ·(conv=>whnf)
  refine⟨(0:Nat),[],?_,⟨⟨rfl,(nB rfl),rfl⟩,?_,?_⟩⟩
  ·exact⟨Nat.zero_le _,fun h=>absurd h (by omega),rfl⟩
  ·exact Ac _
  ·exact tL
 ·obtain⟨g1,g2,g3⟩:=hk
  have g1:k≤l.length:=g1
  have e1:Int.toNat ((k:Int) - 1)=k - 1:=by omega
  have hd2:k<l.length→Cz 1 l=true→((0<k→(l.getD (Int.toNat ((k:Int) - 1)) default).code+1≤(l.getD (Int.toNat (k:Int)) default).code)∧(k=0→1≤(l.getD (Int.toNat (k:Int)) default).code))∧(l.getD (Int.toNat (k:Int)) default).code≤99∧Di (l.getD (Int.toNat (k:Int)) default).amount=true:=fun h h2=>by
   rw[←g3,oO h] at h2
   simp only[Cz,Bool.and_eq_true,decide_eq_true_eq] at h2
   obtain⟨⟨⟨b1,b2⟩,b3⟩,b4⟩:=h2
   rw[e1]
   refine⟨⟨fun hk=>?_,fun hk=>?_⟩,b2,b3⟩
   ·rw[if_neg (by omega)] at b1;exact b1
   ·rw[if_pos hk] at b1;exact b1
  have hd3:k<l.length→(0<k→(l.getD (Int.toNat ((k:Int) - 1)) default).code<(l.getD (Int.toNat (k:Int)) default).code)→1≤(l.getD (Int.toNat (k:Int)) default).code→(l.getD (Int.toNat (k:Int)) default).code≤99→Di (l.getD (Int.toNat (k:Int)) default).amount=true→(LTx l).ok (k+1)∧(LTx l).μ (k+1)<(LTx l).μ k:=fun h b1 b2 b3 b4=>by
   refine⟨⟨show k+1≤l.length by omega,fun _=>b2,?_⟩,show l.length - (k+1)<l.length - k by omega⟩
   show Cz (if k+1=0 then 1 else(l.getD k default).code+1) (l.drop (k+1))=_
   rw[←g3,oO h,if_neg (by omega)]
   simp only[Cz]
   rw[e1] at b1
   rw[show decide ((if k=0 then 1 else(l.getD (k - 1) default).code+1)≤(l.getD k default).code)=true from ?_,decide_eq_true (show(l.getD k default).code≤99 from b3),(show Di (l.getD k default).amount=true from b4)]
   ·rfl
   ·rw[decide_eq_true_eq]
    by_cases hk:k=0
    ·rw[if_pos hk];exact b2
    ·rw[if_neg hk];exact b1 (by omega)
  rw[←e1] at g2
  clear hf
  (conv=>whnf)
  (repeat' ((first
   |((with_reducible refine aI ?_ ?_);focus (first|with_reducible exact⟨⟩|exact tO|omega|exact tK))
   |(split<;>rename_i hh<;>(try simp only[wS] at hh))
   |with_reducible refine lnI fun hln=>?_
   |fail)<;>(conv=>whnf)))
  all_goals (try (show _=_;simp only[wQ]))
  all_goals try (
   refine hbad fun k6=>?_
   obtain⟨⟨b1,b2⟩,b3,b4⟩:=hd2 (by omega) k6
   first|omega|(rename_i hh;rw[b4] at hh;cases hh))
  all_goals try (
   (conv=>whnf)
   refine⟨(k+1:Nat),[],?_,⟨⟨rfl,(nB rfl),rfl⟩,?_,?_⟩⟩
   ·exact hd3 (by omega) (by omega) (by omega) (by omega) (by assumption)
   ·exact Ac _
   ·exact tL
   done)
  all_goals (
   have ht:Cz 1 l=true:=by rw[←g3,List.drop_eq_nil_of_le (by omega)];rfl
   unfold Dg
   rw[ht,Dc,Bool.true_and,Bool.eq_iff_iff,decide_eq_true_eq,decide_eq_true_eq];omega)
end
end Go.Vc.Z
namespace Go.Vc.Z
open Go Go.Vc Go.Proofs
theorem Alh:Dec Tryz.prog 56 Request.enc:=by
 intro H enc W fuel cs x hx
 obtain⟨hl,hf⟩:=Q3 Auj rfl hx
 obtain⟨a0,h0⟩:=hf 0 0 1 9 ty9 rfl ok9 rfl (xG ok9 rfl)
 obtain⟨a1,h1⟩:=hf 1 1 1 54 Akl rfl Auh rfl (Ee Auh rfl)
 obtain⟨a2,h2⟩:=hf 2 2 1 3 ty3 rfl ok3 rfl (Ee ok3 rfl)
 obtain⟨a3,h3⟩:=hf 3 3 1 37 Ck rfl Akj rfl (Ee Akj rfl)
 obtain⟨a4,h4⟩:=hf 4 4 1 3 ty3 rfl ok3 rfl (Ee ok3 rfl)
 obtain⟨a5,h5⟩:=hf 5 5 1 43 Cl rfl Akk rfl (Ee Akk rfl)
 obtain⟨a6,h6⟩:=hf 6 6 1 9 ty9 rfl ok9 rfl (xG ok9 rfl)
 obtain⟨a7,h7⟩:=hf 7 7 1 38 Auc rfl Aud rfl (Y9 Aud rfl Aug rfl (by decide) An7)
 obtain⟨a8,h8⟩:=hf 8 8 1 39 Aue rfl Auf rfl (Y9 Auf rfl Akm rfl (by decide) A1x)
 obtain⟨a9,h9⟩:=hf 9 9 1 2 ty2 rfl ok2 rfl (Ee ok2 rfl)
 obtain⟨a10,h10⟩:=hf 10 10 1 3 ty3 rfl ok3 rfl (Ee ok3 rfl)
 obtain⟨a11,h11⟩:=hf 11 11 1 3 ty3 rfl ok3 rfl (Ee ok3 rfl)
 exact⟨⟨a0,a1,a2,a3,a4,a5,a6,a7,a8,a9,a10,a11⟩,h0.step (h1.step (h2.step (h3.step (h4.step (h5.step (h6.step (h7.step (h8.step (h9.step (h10.step (h11.step (CV.nil hl))))))))))))⟩
end Go.Vc.Z
namespace Go.Vc
open Go
variable {H : Type} {enc : TypeId × Value → H} {P : Program} {W : World}
theorem Aoi{r:Go.Reach}{b0:Nat}{t:TypeId}{i:TI}{v:Value}{d:DataW H}{ps:List MemPlace}(h:A7 P t=some i)(hk:i.kind= .str)
  (hval:Value.okWide P W r b0 t v) (hd:DataW.Trod enc P W 0 (fun _=>true) true t v d ps):∃ s:List UInt8,V (fun _=>none) (fun b=>b<W.heap.size) W (.str s) v:=by
 obtain⟨fuel,hf⟩:=hd
 obtain⟨a,ha⟩:=xG h hk enc W fuel _ _ hf
 have hu:=Af0 h hk
 have hv:v.cells.toList=[v]:=by
  simp only[Value.okWide,hu,Cell.okWide] at hval
  cases v<;>simp_all[Cell.ok,Value.cells]
 rw[hv] at ha
 exact⟨a,ha.2 0 _ _ rfl rfl⟩
end Go.Vc
