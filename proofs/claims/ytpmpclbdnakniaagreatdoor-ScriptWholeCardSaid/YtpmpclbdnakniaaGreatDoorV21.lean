/- script.picks: the picks of words. -/
import Derived.Test.YtpmpclbdnakniaaGreatDoorV14
import Derived.Test.YtpmpclbdnakniaaGreatDoorV20
set_option linter.all false
set_option linter.unusedVariables false
set_option linter.unusedSimpArgs false
namespace Go.Vc.Z
open Go Go.Vc Go.Proofs Go.RowKit Go.Pl Go.Lib
abbrev Ack(n:Int):List AV:=[.int .i64 n]
theorem An3{l:List Int}{n:Nat}{d:Int}{g b:Nat→List AV}(hn:n=l.length)(hg:∀ e,e<l.length→g e=Ack (l.getD e default))(hb:b 0=Ack d){e:Nat}(he:e<n+1):B0 n g b e=Ack ((l++[d]).getD e default):=Lc (enc:=Ack) hn hg hb he
noncomputable section
set_option maxRecDepth 100000
attribute [local irreducible] inK Utf8.decode Utf8.encode Lib.itoa Pl.worth Pl.allDig
attribute [local irreducible] Lib.join Bw Aa
def A2d(l:List Int):Blk:=match l with
 |[]=>.dead
 |c::l=>.row 1 (l.length+1) (fun e=>Ack ((c::l).getD e default))
def A2e:List Int→AV
 |[]=>.nilsl
 |_::l=>.osl 0 1 0 (l.length+1) none
def LPk(w:List (List UInt8)):LoopSpec:={
 α:=List Int
 keep:=[3,8,9,10]
 vals L:=[A2e L,slS w,.int .i64 w.length,.int .i64 L.length]
 heap L:=[A2d L]
 ok L:=L.length≤w.length∧L=(w.take L.length).map Dp
 μ L:=w.length - L.length }
def Ah3:PC:=PC.of (fun w:List (List UInt8)=>[slS w]) (fun w=>w.length≤1000001∧∀ i,(w.getD i []).length≤100000000) (fun w=>slE 1 Ack (w.map Dp))
def Nj:PT:=C2 [(179,Agg)]
theorem Tg{W:World}(hW:Fz W):Cl (Fw W) Tryz.prog Nj:=(Ab Tryz.call179 (Anf hW) As)
def Nk:FuncId→Option Ctr:=Aw Nj []
theorem hP{W:World}(hW:Fz W):Ad (Fw W) Tryz.prog Nk:=(Au (Tg hW))
def hY:List (List UInt8)→Nat→Option LR:=fun w i=>cond (Nat.beq i 3) (some (.inv (LPk w))) (none)
set_option maxHeartbeats 2000000 in
theorem hZ{W:World}(hW:Fz W):GoodP (Fw W) Tryz.prog 96 Ah3:=by
 have hD:=Tg hW
 have hC0:∀ w:List (List UInt8),Ad (Fw W) Tryz.prog Nk:=fun w=>(hP hW)
 refine Ar (D:=Nj) (C:=fun w=>Nk) (wr:=(fun _=>false)) rfl Ap hD hC0 Tryz.func96 (hY) (fun _=>rfl) ?_
 intro w hf hp
 clear hf
 obtain⟨hl,hm⟩:=hp
 (conv=>whnf)
 (repeat' ((first
  |with_reducible refine lnI fun hln=>?_
  |fail)<;>(conv=>whnf)))
 refine⟨?_,fun(L:List Int) hL=>?_⟩
 ·(conv=>whnf)
  refine⟨([]:List Int),[],?_,⟨⟨rfl,(nB rfl),rfl⟩,?_,?_⟩⟩
  ·exact⟨Nat.zero_le _,rfl⟩
  ·exact Ac _
  ·exact tL
 ·obtain⟨q1,q2⟩:=hL
  change L.length≤w.length at q1
  change L=(w.take L.length).map Dp at q2
  rcases L with _|⟨c,L⟩
  ·(conv=>whnf)
   (repeat' ((first
    |((with_reducible refine aI ?_ ?_);focus (exact hm _))
    |((with_reducible refine aI ?_ ?_);focus (first|omega|exact tK|(simp only[Aq,ty2,ty3,ty4,ty5,ty9,Cw,Co,Cx,Cp,Cu,Cy,Cv,Cz,Bm,Bj,Bn,Bi,Bo,Bp,Bq];first|omega|(refine⟨?_,?_⟩<;>omega))))
    |(split<;>rename_i hh<;>(try simp only[wS] at hh))
    |fail)<;>(conv=>whnf)))
   ·have hi2:([]:List Int).length<w.length:=Int.ofNat_lt.1 (by assumption)
    have g1:=F6 (f:=fun w=>(Dp w,true)) q2 hi2
    (conv=>whnf)
    refine⟨((([]:List Int)++[Dp (w.getD ([]:List Int).length [])]):List Int),[2],?_,⟨⟨rfl,(nB rfl),rfl⟩,?_,?_⟩⟩
    ·refine⟨⟨?_,g1⟩,?_⟩
     ·show(([]:List Int)++[Dp (w.getD ([]:List Int).length [])]).length≤w.length
      rw[List.length_append];exact hi2
     ·show w.length - (([]:List Int)++[Dp (w.getD ([]:List Int).length [])]).length<w.length - ([]:List Int).length
      rw[List.length_append,List.length_singleton];omega
    ·(conv=>whnf)
     (repeat' ((first|with_reducible exact⟨⟩|((with_reducible refine Or.inr ?_);rfl)|((with_reducible refine aI ?_ ?_);focus (exact tA))|with_reducible refine iA ?_ ?_|fail)<;>(conv=>whnf)))
     all_goals (try simp only[wQ])
     all_goals (try first|rfl|exact⟨fun h=>h,fun _ _=>True.intro⟩)
     all_goals try exact⟨rfl,rfl⟩
     all_goals (try simp)
    ·(conv=>whnf)
     (repeat' ((first|with_reducible exact⟨⟩|((with_reducible refine aI ?_ ?_);focus (exact tA))|with_reducible refine iB ?_ ?_|fail)<;>(conv=>whnf)))
     all_goals (try simp only[wQ])
     all_goals try rfl
     intro e he
     have he:e<1:=he
     obtain rfl:e=0:=by omega
     exact⟨rfl,rfl⟩
   ·have hx:w.length≤0:=Int.ofNat_le.1 (by assumption)
    have e1:w=[]:=List.length_eq_zero_iff.1 (by omega)
    rw[e1];rfl
  ·have q0:L.length+1≤1000001:=Nat.le_trans q1 hl
   (conv=>whnf)
   (repeat' ((first
    |((with_reducible refine aI ?_ ?_);focus (exact hm _))
    |((with_reducible refine aI ?_ ?_);focus (first|((with_reducible refine⟨?_,?_,?_⟩)<;>first|(intro e he;rcases(by omega:e=0∨e=1∨e=2∨e=3∨e=4∨e=5) with rfl|rfl|rfl|rfl|rfl|rfl<;>first|rfl|(exfalso;omega))|(with_reducible assumption)|omega|((with_reducible show Aq _ _);simp only[Aq,ty2,ty3,ty4,ty5,ty9,Cw,Co,Cx,Cp,Cu,Cy,Cv,Cz,Bm,Bj,Bn,Bi,Bo,Bp,Bq,List.length_cons,List.length_nil];first|omega|(refine⟨?_,?_⟩<;>omega)))|omega|exact tK))
    |(split<;>rename_i hh<;>(try simp only[wS] at hh))
    |fail)<;>(conv=>whnf)))
   ·have hi2:(c::L:List Int).length<w.length:=Int.ofNat_lt.1 (by assumption)
    have g1:=F6 (f:=fun w=>(Dp w,true)) q2 hi2
    (conv=>whnf)
    refine⟨(((c::L:List Int)++[Dp (w.getD (c::L:List Int).length [])]):List Int),[2],?_,⟨⟨rfl,(nB rfl),rfl⟩,?_,?_⟩⟩
    ·refine⟨⟨?_,g1⟩,?_⟩
     ·show((c::L:List Int)++[Dp (w.getD (c::L:List Int).length [])]).length≤w.length
      rw[List.length_append];exact hi2
     ·show w.length - ((c::L:List Int)++[Dp (w.getD (c::L:List Int).length [])]).length<w.length - (c::L:List Int).length
      rw[List.length_append,List.length_singleton];omega
    ·(conv=>whnf)
     (repeat' ((first|with_reducible exact⟨⟩|((with_reducible refine aI ?_ ?_);focus (exact tA))|with_reducible refine iA ?_ ?_|fail)<;>(conv=>whnf)))
     all_goals (try simp only[wQ])
     all_goals (try first|exact⟨fun h=>h,fun _ _=>True.intro⟩)
     all_goals (try first|exact⟨by simp,Or.inl trivial⟩)
     all_goals try exact⟨rfl,rfl⟩
     all_goals (try simp)
    ·(conv=>whnf)
     (repeat' ((first|with_reducible exact⟨⟩|((with_reducible refine aI ?_ ?_);focus (exact tA))|with_reducible refine iB ?_ ?_|fail)<;>(conv=>whnf)))
     all_goals (try simp only[wQ])
     all_goals try rfl
     exact⟨by simp,fun e he=>⟨An3 (l:=c::L) rfl (fun _ _=>rfl) rfl (by simpa using he),rfl⟩⟩
   ·have hx2: ¬(c::L).length<w.length:=Nat.not_lt.2 (Int.ofNat_le.1 (by assumption))
    have e:(c::L).length=w.length:=by omega
    rw[e,List.take_length] at q2
    rw[←q2]
    refine⟨⟨by omega,fun e he=>rfl⟩,?_⟩
    exact⟨rfl,rfl,fun h=>h,fun e he=>by simp only[Nat.zero_add]⟩
end
end Go.Vc.Z
namespace Go.Vc.Z
open Go Go.Vc Go.Proofs Go.RowKit Go.Pl Go.Lib
@[irreducible] def qO(s:List UInt8)(m:Int):Int × Int:=if Gg (Di 45 s)=true∧s≠[45,48] then(if m<(worth (Di 45 s):Int) then(0,5) else(if s=Di 45 s then(worth (Di 45 s):Int) else -(worth (Di 45 s):Int),0)) else(0,4)
theorem A2f{s t:List UInt8}{m:Int}(hp:Di 45 s=t)(h:Gg t=true)(h2: ¬s=[45,48])(h3:(worth t:Int)≤m)(h4:s=t):qO s m=((worth t:Int),0):=by
 subst hp;unfold qO;rw[if_pos ⟨h,h2⟩,if_neg (by omega),if_pos h4]
theorem A2g{s t:List UInt8}{m:Int}(hp:Di 45 s=t)(h:Gg t=true)(h2: ¬s=[45,48])(h3:(worth t:Int)≤m)(h4: ¬s=t):qO s m=(-(worth t:Int),0):=by
 subst hp;unfold qO;rw[if_pos ⟨h,h2⟩,if_neg (by omega),if_neg h4]
noncomputable section
set_option maxRecDepth 100000
attribute [local irreducible] inK Utf8.decode Utf8.encode Lib.itoa Pl.worth Pl.allDig
attribute [local irreducible] Lib.join Bw Aa
end
end Go.Vc.Z
namespace Go.Vc.Z
open Go Go.Vc Go.Proofs Go.RowKit Go.Pl Go.Lib
@[irreducible] def rpV(s:List UInt8):Int:=if s=[45,57,50,50,51,51,55,50,48,51,54,56,53,52,55,55,53,56,48,56] then -9223372036854775808 else(qO s 9223372036854775807).1
theorem A2h{s:List UInt8}(h:s=[45,57,50,50,51,51,55,50,48,51,54,56,53,52,55,55,53,56,48,56]):rpV s= -9223372036854775808:=by unfold rpV;rw[if_pos h]
theorem A2i{s:List UInt8}(h: ¬s=[45,57,50,50,51,51,55,50,48,51,54,56,53,52,55,55,53,56,48,56]):rpV s=(qO s 9223372036854775807).1:=by unfold rpV;rw[if_neg h]
noncomputable section
set_option maxRecDepth 100000
attribute [local irreducible] inK Utf8.decode Utf8.encode Lib.itoa Pl.worth Pl.allDig
attribute [local irreducible] Lib.join Bw Aa
end
end Go.Vc.Z
