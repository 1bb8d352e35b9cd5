/- The law ScriptActs: true. -/
import Derived.Test.YtpmpclbdnakniaaGreatDoorV38
import Derived.Test.YtpmpclbdnakniaaGreatDoorV36
set_option linter.all false
set_option linter.unusedVariables false
set_option linter.unusedSimpArgs false
namespace Go.Vc.Z
open Go Go.Vc Go.Proofs Go.RowKit Go.Pl Go.Lib
theorem Ant{a:Act}(h:A0 [.agg a.enc]):fitA a:=by
 have hp:=K2 h
 unfold fitA
 intro n hn
 obtain⟨i,hi,rfl⟩:=List.getElem_of_mem hn
 have:=hp i hi
 rw[List.getD_eq_getElem?_getD,List.getElem?_eq_getElem hi] at this
 exact this
theorem Anu{a:Act}(hf:A0 [.agg a.enc])(hm:Ah a=true):(Cc a).length≤1000000:=by
 have hpf:=Ll (K2 hf)
 have hj:∀ L:List (List UInt8),(∀ s ∈ L,s.length≤200)→L.length≤1002→(Lib.join L [32]).length≤1000000:=fun L h1 h2=>by
  have:=K4 [32] 200 L h1;simp at this;omega
 rcases Gd hm with k|k|k|k|k
 ·obtain⟨f1,_⟩:=Qu k hm
  have h1:=Bv a.server (by omega) (by omega)
  have h2:=N4 (Tt hf)
  rw[Aps k hm]
  simp only[List.length_append,List.length_cons,List.length_nil];omega
 ·obtain⟨f1,_⟩:=Yf k hm
  unfold Cc Dk;rw[if_pos hm,if_neg (by omega),if_pos k]
  refine hj _ (fun s hs=>?_) (by simp;omega)
  rcases List.mem_cons.1 hs with h|h
  ·rw[h];decide
  ·exact hpf s h
 ·obtain⟨f1,f2,_⟩:=Qv k hm
  have h1:=Bv a.server (by omega) (by omega)
  have h2:=Bv a.n (by omega) (by omega)
  unfold Cc Dk;rw[if_pos hm,if_neg (by omega),if_neg (by omega),if_pos k]
  refine hj _ (fun s hs=>?_) (by simp)
  simp only[List.mem_cons,List.not_mem_nil,or_false] at hs
  rcases hs with h|h|h<;>rw[h]
  ·decide
  ·omega
  ·omega
 ·obtain⟨f1,f2,_⟩:=Tu k hm
  have h1:=Bv a.server (by omega) (by omega)
  unfold Cc Dk;rw[if_pos hm,if_neg (by omega),if_neg (by omega),if_neg (by omega),if_pos k]
  refine hj _ (fun s hs=>?_) (by simp;omega)
  rcases List.mem_cons.1 hs with h|h
  ·rw[h];decide
  ·rcases List.mem_cons.1 h with h|h
   ·rw[h];omega
   ·exact hpf s h
 ·rw[Avi k hm];cases a.is<;>decide
noncomputable section
set_option maxRecDepth 100000
attribute [local irreducible] inK Utf8.decode Utf8.encode Lib.itoa Pl.worth Pl.allDig
attribute [local irreducible] Lib.join
def Avl:PC:=PC.of (fun a:Act=>[.agg a.enc]) (fun _=>True) (fun _=>.bool (sB true))
def Ff:PT:=C8 [(12,xW),(30,yN),(32,yO),(33,wD),(34,Z3),(35,Z6),(36,Ye),(37,Wu)]
theorem Ij{W:World}(hW:Js W):Ct (Fw W) Tryz.prog Ff:=(Ab Tryz.call12 (Adt hW.1) (Ab Tryz.call30 (Tz hW) (Ab Tryz.call32 (N8 hW.1) (Ab Tryz.call33 (Wt hW.1) (Ab Tryz.call34 (wA hW.1) (Ab Tryz.call35 (O8 hW.1) (Ab Tryz.call36 (lJ hW.1) (Ab Tryz.call37 (mE hW.1) Av))))))))
def Fg:FuncId→Option Ctr:=Az Ff []
theorem Pm{W:World}(hW:Js W):Ad (Fw W) Tryz.prog Fg:=(Aw (Ij hW))
set_option maxHeartbeats 2000000 in
theorem Pn{W:World}(hW:Js W):GoodP (Fw W) Tryz.prog 7 Avl:=by
 have hD:=Ij hW
 have hC0:∀ a:Act,Ad (Fw W) Tryz.prog Fg:=fun a=>(Pm hW)
 refine As (D:=Ff) (C:=fun a=>Fg) (wr:=(fun _=>false)) rfl Ao hD hC0 Tryz.func7 (fun _ _=>none) (fun _=>rfl) ?_
 intro a hf hp
 have hfit:=Ant hf
 have hlen:=fun hm=>Anu hf (a:=a) hm
 clear hf
 have hsh:Yi a=false→Fy a.request:=fun h=>by
  unfold Yi at h
  simp only[Bool.or_eq_false_iff,decide_eq_false_iff_not] at h
  have h2:=h.2
  unfold Aay at h2
  simp only[Bool.or_eq_false_iff,decide_eq_false_iff_not] at h2
  exact⟨by omega,by omega⟩
 have hsame:Yh a a=true:=Z7.2 rfl
 refine⟨a,True.intro,?_,?_⟩
 ·exact Ac _
 (conv=>whnf)
 (repeat' ((first
  |((with_reducible refine aI ?_ ?_);focus (with_reducible exact⟨⟩))
  |(split<;>rename_i hh<;>(try simp only[wS] at hh))
  |fail)<;>(conv=>whnf)))
 ·have hs:=hsh (by assumption)
  refine⟨a,hs,?_,?_⟩
  ·exact Ac _
  (conv=>whnf)
  refine⟨a,True.intro,?_,?_⟩
  ·exact Ac _
  (conv=>whnf)
  refine⟨a,hs,?_,?_⟩
  ·exact Ac _
  (conv=>whnf)
  (repeat' ((first
   |(exact absurd (by decide) hh)
   |(exact absurd (Ahn (by with_reducible assumption)) hh)
   |((with_reducible refine aI ?_ ?_);focus (with_reducible exact⟨⟩))
   |(split<;>rename_i hh<;>(try simp only[wS] at hh))
   |fail)<;>(conv=>whnf)))
  all_goals (try (show _=_;simp only[wQ]))
  ·rfl
  ·have hm:=‹Ah a=true›
   have hone:=wC hm hfit
   have hl:=hlen hm
   refine⟨((Cc a,(a,0)):List UInt8 × Act × Int),⟨hone,hl⟩,?_,?_⟩
   ·exact tL
   (conv=>whnf)
   refine⟨a,hm,?_,?_⟩
   ·exact Ac _
   (conv=>whnf)
   (repeat' ((first
    |(exact absurd (by decide) hh)
    |(split<;>rename_i hh<;>(try simp only[wS] at hh))
    |fail)<;>(conv=>whnf)))
   refine⟨((a,a):Act × Act),True.intro,?_,?_⟩
   ·exact Ac _
   (conv=>whnf)
   (repeat' ((first
    |(exact absurd (hsame.symm.trans (by with_reducible assumption)) Bool.true_eq_false.mp)
    |((with_reducible refine aI ?_ ?_);focus (with_reducible exact⟨⟩))
    |(split<;>rename_i hh<;>(try simp only[wS] at hh))
    |fail)<;>(conv=>whnf)))
   all_goals (try (show _=_;simp only[wQ]))
   all_goals rfl
end
end Go.Vc.Z
