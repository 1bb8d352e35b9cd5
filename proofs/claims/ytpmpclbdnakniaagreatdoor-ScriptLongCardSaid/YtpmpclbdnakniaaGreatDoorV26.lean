/- Setups that may be, the program's. -/
import Derived.Test.YtpmpclbdnakniaaGreatDoorV24
set_option linter.all false
set_option linter.unusedVariables false
set_option linter.unusedSimpArgs false
namespace Go.Vc.Z
open Go Go.Vc Go.Proofs Go.RowKit Go.Pl Go.Lib
theorem K0{l:List Site}{k:Int}(h:Et ⟨l,k⟩=true):(1≤l.length∧l.length≤4)∧(1≤k∧k≤64)∧(∀ s ∈ l,G8 s=true)∧(l.map Site.carrier).Nodup:=by
 unfold Et at h
 simp only[Bool.and_eq_true,decide_eq_true_eq,List.all_eq_true] at h
 exact⟨h.1.1.1,h.1.1.2,h.1.2,h.2⟩
noncomputable section
set_option maxRecDepth 100000
attribute [local irreducible] inK Utf8.decode Utf8.encode Lib.itoa Pl.worth Pl.allDig
attribute [local irreducible] Lib.join
def Rf:PT:=D1 [(103,W8)]
theorem aO{W:World}(hW:Tabs W):Dj (Fw W) Tryz.prog Rf:=(Ae Tryz.call103 (Sq hW) A6)
def Rh:FuncId→Option Ctr:=Av Rf []
theorem yU{W:World}(hW:Tabs W):Ad (Fw W) Tryz.prog Rh:=(A7 (aO hW))
theorem yV{W:World}(hW:Tabs W):GoodP (Fw W) Tryz.prog 40 W8:=by
 have hD:=aO hW
 have hC0:∀ s:Setup,Ad (Fw W) Tryz.prog Rh:=fun s=>(yU hW)
 refine Ax (D:=Rf) (C:=fun s=>Rh) (wr:=(fun _=>false)) rfl Aq hD hC0 Tryz.func40 (fun _ _=>none) (fun _=>rfl) ?_
 intro s hf hp
 clear hf
 refine⟨s,True.intro,?_,?_⟩
 ·exact Aj _
 (conv=>whnf)
def Af6:PC:=PC.of (fun s:Setup=>[.agg s.enc]) (fun s=>Et s=true) (fun _=>.bool (sB true))
def O5:PT:=D1 [(181,pO)]
theorem V3{W:World}(hW:Tabs W):Dj (Fw W) Tryz.prog O5:=(Ae Tryz.call181 (pQ hW) A6)
def O6:FuncId→Option Ctr:=Av O5 []
theorem vT{W:World}(hW:Tabs W):Ad (Fw W) Tryz.prog O6:=(A7 (V3 hW))
def vU:Setup→Nat→Option LR:=fun s i=>cond (Nat.beq i 4) (some (.unroll 5)) (none)
set_option maxHeartbeats 2000000 in
theorem vV{W:World}(hW:Tabs W):GoodP (Fw W) Tryz.prog 99 Af6:=by
 have hD:=V3 hW
 have hC0:∀ s:Setup,Ad (Fw W) Tryz.prog O6:=fun s=>(vT hW)
 refine Ax (D:=O5) (C:=fun s=>O6) (wr:=(fun _=>false)) rfl Aq hD hC0 Tryz.func99 (vU) (fun _=>rfl) ?_
 rintro⟨l,k⟩ hf hp
 clear hf
 obtain⟨⟨hl1,hl2⟩,⟨hk1,hk2⟩,hs,hn⟩:=K0 hp
 rcases l with _|⟨a,_|⟨b,_|⟨c,_|⟨d,_|⟨e,l⟩⟩⟩⟩⟩
 ·exact absurd hl1 (by decide)
 ·have hsa:G8 a=true:=hs a (by simp)
  simp only[List.map_cons,List.map_nil,List.nodup_cons,List.mem_cons,List.not_mem_nil,or_false,not_or,List.nodup_nil,and_true,not_false_eq_true] at hn
  (conv=>whnf)
  (repeat' ((first
   |((with_reducible refine aI ?_ ?_);focus (first|omega|exact tK))
   |(split<;>rename_i hh<;>(try simp only[wS] at hh))
   |with_reducible refine lnI fun hln=>?_
   |fail)<;>(conv=>whnf)))
  all_goals (try (show _=_;simp only[wQ]))
  all_goals try (exfalso;first|omega|(simp_all;done)|(simp_all;omega))
  refine⟨a,True.intro,?_,?_⟩
  ·exact Aj _
  (conv=>whnf)
  (repeat' ((first
   |(exact absurd (hsa.symm.trans (by with_reducible assumption)) Bool.true_eq_false.mp)
   |((with_reducible refine aI ?_ ?_);focus (exact tK))
   |(split<;>rename_i hh<;>(try simp only[wS] at hh))
   |fail)<;>(conv=>whnf)))
  all_goals (try (show _=_;simp only[wQ]))
  all_goals first|rfl|(exfalso;first|omega|(simp_all;done)|(simp_all;omega))
 ·have hsa:G8 a=true:=hs a (by simp)
  have hsb:G8 b=true:=hs b (by simp)
  simp only[List.map_cons,List.map_nil,List.nodup_cons,List.mem_cons,List.not_mem_nil,or_false,not_or,List.nodup_nil,and_true,not_false_eq_true] at hn
  (conv=>whnf)
  (repeat' ((first
   |((with_reducible refine aI ?_ ?_);focus (first|omega|exact tK))
   |(split<;>rename_i hh<;>(try simp only[wS] at hh))
   |with_reducible refine lnI fun hln=>?_
   |fail)<;>(conv=>whnf)))
  all_goals (try (show _=_;simp only[wQ]))
  all_goals try (exfalso;first|omega|(simp_all;done)|(simp_all;omega))
  refine⟨a,True.intro,?_,?_⟩
  ·exact Aj _
  (conv=>whnf)
  (repeat' ((first
   |(exact absurd (hsa.symm.trans (by with_reducible assumption)) Bool.true_eq_false.mp)
   |((with_reducible refine aI ?_ ?_);focus (first|exact tK|(simp only[List.length_append,bytesOf_length,List.toList_toArray,List.length_cons,List.length_nil,List.length_take,List.length_drop,Ap];omega)))
   |(split<;>rename_i hh<;>(try simp only[wS] at hh))
   |fail)<;>(conv=>whnf)))
  all_goals try (exfalso;first|omega|(simp_all;done)|(simp_all;omega))
  refine⟨b,True.intro,?_,?_⟩
  ·exact Aj _
  (conv=>whnf)
  (repeat' ((first
   |(exact absurd (hsb.symm.trans (by with_reducible assumption)) Bool.true_eq_false.mp)
   |((with_reducible refine aI ?_ ?_);focus (first|omega|exact tK))
   |(split<;>rename_i hh<;>(try simp only[wS] at hh))
   |fail)<;>(conv=>whnf)))
  all_goals (try (show _=_;simp only[wQ]))
  all_goals first|rfl|(exfalso;first|omega|(simp_all;done)|(simp_all;omega))
 ·have hsa:G8 a=true:=hs a (by simp)
  have hsb:G8 b=true:=hs b (by simp)
  have hsc:G8 c=true:=hs c (by simp)
  simp only[List.map_cons,List.map_nil,List.nodup_cons,List.mem_cons,List.not_mem_nil,or_false,not_or,List.nodup_nil,and_true,not_false_eq_true] at hn
  (conv=>whnf)
  (repeat' ((first
   |((with_reducible refine aI ?_ ?_);focus (first|omega|exact tK))
   |(split<;>rename_i hh<;>(try simp only[wS] at hh))
   |with_reducible refine lnI fun hln=>?_
   |fail)<;>(conv=>whnf)))
  all_goals (try (show _=_;simp only[wQ]))
  all_goals try (exfalso;first|omega|(simp_all;done)|(simp_all;omega))
  refine⟨a,True.intro,?_,?_⟩
  ·exact Aj _
  (conv=>whnf)
  (repeat' ((first
   |(exact absurd (hsa.symm.trans (by with_reducible assumption)) Bool.true_eq_false.mp)
   |((with_reducible refine aI ?_ ?_);focus (first|exact tK|(simp only[List.length_append,bytesOf_length,List.toList_toArray,List.length_cons,List.length_nil,List.length_take,List.length_drop,Ap];omega)))
   |(split<;>rename_i hh<;>(try simp only[wS] at hh))
   |fail)<;>(conv=>whnf)))
  all_goals try (exfalso;first|omega|(simp_all;done)|(simp_all;omega))
  refine⟨b,True.intro,?_,?_⟩
  ·exact Aj _
  (conv=>whnf)
  (repeat' ((first
   |(exact absurd (hsb.symm.trans (by with_reducible assumption)) Bool.true_eq_false.mp)
   |((with_reducible refine aI ?_ ?_);focus (first|omega|exact tK|(simp only[List.length_append,bytesOf_length,List.toList_toArray,List.length_cons,List.length_nil,List.length_take,List.length_drop,Ap];omega)))
   |(split<;>rename_i hh<;>(try simp only[wS] at hh))
   |fail)<;>(conv=>whnf)))
  all_goals (try (show _=_;simp only[wQ]))
  all_goals try (exfalso;first|omega|(simp_all;done)|(simp_all;omega))
  refine⟨c,True.intro,?_,?_⟩
  ·exact Aj _
  (conv=>whnf)
  (repeat' ((first
   |(exact absurd (hsc.symm.trans (by with_reducible assumption)) Bool.true_eq_false.mp)
   |((with_reducible refine aI ?_ ?_);focus (first|omega|exact tK))
   |(split<;>rename_i hh<;>(try simp only[wS] at hh))
   |fail)<;>(conv=>whnf)))
  all_goals (try (show _=_;simp only[wQ]))
  all_goals first|rfl|(exfalso;first|omega|(simp_all;done)|(simp_all;omega))
 ·have hsa:G8 a=true:=hs a (by simp)
  have hsb:G8 b=true:=hs b (by simp)
  have hsc:G8 c=true:=hs c (by simp)
  have hsd:G8 d=true:=hs d (by simp)
  simp only[List.map_cons,List.map_nil,List.nodup_cons,List.mem_cons,List.not_mem_nil,or_false,not_or,List.nodup_nil,and_true,not_false_eq_true] at hn
  (conv=>whnf)
  (repeat' ((first
   |((with_reducible refine aI ?_ ?_);focus (first|omega|exact tK))
   |(split<;>rename_i hh<;>(try simp only[wS] at hh))
   |with_reducible refine lnI fun hln=>?_
   |fail)<;>(conv=>whnf)))
  all_goals (try (show _=_;simp only[wQ]))
  all_goals try (exfalso;first|omega|(simp_all;done)|(simp_all;omega))
  refine⟨a,True.intro,?_,?_⟩
  ·exact Aj _
  (conv=>whnf)
  (repeat' ((first
   |(exact absurd (hsa.symm.trans (by with_reducible assumption)) Bool.true_eq_false.mp)
   |((with_reducible refine aI ?_ ?_);focus (first|exact tK|(simp only[List.length_append,bytesOf_length,List.toList_toArray,List.length_cons,List.length_nil,List.length_take,List.length_drop,Ap];omega)))
   |(split<;>rename_i hh<;>(try simp only[wS] at hh))
   |fail)<;>(conv=>whnf)))
  all_goals try (exfalso;first|omega|(simp_all;done)|(simp_all;omega))
  refine⟨b,True.intro,?_,?_⟩
  ·exact Aj _
  (conv=>whnf)
  (repeat' ((first
   |(exact absurd (hsb.symm.trans (by with_reducible assumption)) Bool.true_eq_false.mp)
   |((with_reducible refine aI ?_ ?_);focus (first|omega|exact tK|(simp only[List.length_append,bytesOf_length,List.toList_toArray,List.length_cons,List.length_nil,List.length_take,List.length_drop,Ap];omega)))
   |(split<;>rename_i hh<;>(try simp only[wS] at hh))
   |fail)<;>(conv=>whnf)))
  all_goals (try (show _=_;simp only[wQ]))
  all_goals try (exfalso;first|omega|(simp_all;done)|(simp_all;omega))
  refine⟨c,True.intro,?_,?_⟩
  ·exact Aj _
  (conv=>whnf)
  (repeat' ((first
   |(exact absurd (hsc.symm.trans (by with_reducible assumption)) Bool.true_eq_false.mp)
   |((with_reducible refine aI ?_ ?_);focus (first|omega|exact tK|(simp only[List.length_append,bytesOf_length,List.toList_toArray,List.length_cons,List.length_nil,List.length_take,List.length_drop,Ap];omega)))
   |(split<;>rename_i hh<;>(try simp only[wS] at hh))
   |fail)<;>(conv=>whnf)))
  all_goals (try (show _=_;simp only[wQ]))
  all_goals try (exfalso;first|omega|(simp_all;done)|(simp_all;omega))
  refine⟨d,True.intro,?_,?_⟩
  ·exact Aj _
  (conv=>whnf)
  (repeat' ((first
   |(exact absurd (hsd.symm.trans (by with_reducible assumption)) Bool.true_eq_false.mp)
   |((with_reducible refine aI ?_ ?_);focus (first|omega|exact tK))
   |(split<;>rename_i hh<;>(try simp only[wS] at hh))
   |fail)<;>(conv=>whnf)))
  all_goals (try (show _=_;simp only[wQ]))
  all_goals first|rfl|(exfalso;first|omega|(simp_all;done)|(simp_all;omega))
 ·simp only[List.length_cons] at hl2;omega
end
end Go.Vc.Z
