/- Setups that may be. -/
import Derived.Test.YtpmpclbdnakniaaGreatDoorV30
set_option linter.all false
set_option linter.unusedVariables false
set_option linter.unusedSimpArgs false
namespace Go.Vc.Z
open Go Go.Vc Go.Proofs Go.RowKit Go.Pl Go.Lib
structure Setup where
 sites:List Site
 k:Int
deriving Inhabited
abbrev Setup.enc(s:Setup):List AV:=[slE 6 Site.enc s.sites,.int .i64 s.k]
@[irreducible] def Dt(s:Setup):Bool:=decide (1≤s.sites.length∧s.sites.length≤4)&&decide (1≤s.k∧s.k≤64)&&s.sites.all Oq&&decide (s.sites.map Site.carrier).Nodup
noncomputable section
set_option maxRecDepth 100000
attribute [local irreducible] inK Utf8.decode Utf8.encode Lib.itoa Pl.worth Pl.allDig
attribute [local irreducible] Lib.join
def Um:PC:=PC.of (fun s:Setup=>[.agg s.enc]) (fun _=>True) (fun s=>.bool (sB (Dt s)))
def Jf:PT:=C2 [(183,zT)]
theorem Ou{W:World}(hW:Tabs W):Cl (Fw W) Tryz.prog Jf:=(Ab Tryz.call183 (Yk hW) As)
def Jg:FuncId→Option Ctr:=Aw Jf []
theorem Yl{W:World}(hW:Tabs W):Ad (Fw W) Tryz.prog Jg:=(Au (Ou hW))
def Ym:Setup→Nat→Option LR:=fun s i=>cond (Nat.beq i 4) (some (.unroll 5)) (cond (Nat.beq i 9) (some (.unroll 5)) (none))
set_option maxHeartbeats 2000000 in
theorem Yn{W:World}(hW:Tabs W):GoodP (Fw W) Tryz.prog 103 Um:=by
 have hD:=Ou hW
 have hC0:∀ s:Setup,Ad (Fw W) Tryz.prog Jg:=fun s=>(Yl hW)
 refine Ar (D:=Jf) (C:=fun s=>Jg) (wr:=(fun _=>false)) rfl Ap hD hC0 Tryz.func103 (Ym) (fun _=>rfl) ?_
 rintro⟨l,k⟩ hf hp
 clear hf
 rcases l with _|⟨a,_|⟨b,_|⟨c,_|⟨d,_|⟨e,l⟩⟩⟩⟩⟩
 ·(conv=>whnf)
  (repeat' ((first
   |with_reducible refine lnI fun hln=>?_
   |fail)<;>(conv=>whnf)))
  all_goals (try (show _=_;simp only[wQ]))
  all_goals (first
    |(refine(Bool.eq_false_iff.2 fun h=>?_).symm;unfold Dt at h;simp only[Bool.and_eq_true,decide_eq_true_eq,List.length_cons,List.length_nil] at h;obtain⟨⟨⟨h1,h2⟩,h3⟩,h4⟩:=h;first|omega|(simp at h3 h4;simp_all;done)|(simp at h3 h4;omega))
    |(symm;unfold Dt;simp only[Bool.and_eq_true,decide_eq_true_eq,List.length_cons,List.length_nil];exact⟨⟨⟨by omega,by omega⟩,by simp[*]⟩,by simp_all⟩))
 ·(conv=>whnf)
  (repeat' ((first
   |((with_reducible refine aI ?_ ?_);focus ((simp only[List.length_append,bytesOf_length,List.toList_toArray,List.length_cons,List.length_nil,List.length_take,List.length_drop,A0];omega)))
   |(split<;>rename_i hh<;>(try simp only[wS] at hh))
   |with_reducible refine lnI fun hln=>?_
   |fail)<;>(conv=>whnf)))
  all_goals (try (show _=_;simp only[wQ]))
  all_goals try (first
    |(refine(Bool.eq_false_iff.2 fun h=>?_).symm;unfold Dt at h;simp only[Bool.and_eq_true,decide_eq_true_eq,List.length_cons,List.length_nil] at h;obtain⟨⟨⟨h1,h2⟩,h3⟩,h4⟩:=h;first|omega|(simp at h3 h4;simp_all;done)|(simp at h3 h4;omega))
    |(symm;unfold Dt;simp only[Bool.and_eq_true,decide_eq_true_eq,List.length_cons,List.length_nil];exact⟨⟨⟨by omega,by omega⟩,by simp[*]⟩,by simp_all⟩))
  refine⟨a,True.intro,?_,?_⟩
  ·exact Ac _
  (conv=>whnf)
  (repeat' ((first
   |((with_reducible refine aI ?_ ?_);focus (exact tK))
   |(split<;>rename_i hh<;>(try simp only[wS] at hh))
   |with_reducible refine lnI fun hln=>?_
   |fail)<;>(conv=>whnf)))
  all_goals (try (show _=_;simp only[wQ]))
  all_goals (first
    |(refine(Bool.eq_false_iff.2 fun h=>?_).symm;unfold Dt at h;simp only[Bool.and_eq_true,decide_eq_true_eq,List.length_cons,List.length_nil] at h;obtain⟨⟨⟨h1,h2⟩,h3⟩,h4⟩:=h;first|omega|(simp at h3 h4;simp_all;done)|(simp at h3 h4;omega))
    |(symm;unfold Dt;simp only[Bool.and_eq_true,decide_eq_true_eq,List.length_cons,List.length_nil];exact⟨⟨⟨by omega,by omega⟩,by simp[*]⟩,by simp_all⟩))
 ·(conv=>whnf)
  (repeat' ((first
   |((with_reducible refine aI ?_ ?_);focus ((simp only[List.length_append,bytesOf_length,List.toList_toArray,List.length_cons,List.length_nil,List.length_take,List.length_drop,A0];omega)))
   |(split<;>rename_i hh<;>(try simp only[wS] at hh))
   |with_reducible refine lnI fun hln=>?_
   |fail)<;>(conv=>whnf)))
  all_goals (try (show _=_;simp only[wQ]))
  all_goals try (first
    |(refine(Bool.eq_false_iff.2 fun h=>?_).symm;unfold Dt at h;simp only[Bool.and_eq_true,decide_eq_true_eq,List.length_cons,List.length_nil] at h;obtain⟨⟨⟨h1,h2⟩,h3⟩,h4⟩:=h;first|omega|(simp at h3 h4;simp_all;done)|(simp at h3 h4;omega))
    |(symm;unfold Dt;simp only[Bool.and_eq_true,decide_eq_true_eq,List.length_cons,List.length_nil];exact⟨⟨⟨by omega,by omega⟩,by simp[*]⟩,by simp_all⟩))
  refine⟨a,True.intro,?_,?_⟩
  ·exact Ac _
  (conv=>whnf)
  (repeat' ((first
   |((with_reducible refine aI ?_ ?_);focus (first|exact tK|(simp only[List.length_append,bytesOf_length,List.toList_toArray,List.length_cons,List.length_nil,List.length_take,List.length_drop,A0];omega)))
   |(split<;>rename_i hh<;>(try simp only[wS] at hh))
   |with_reducible refine lnI fun hln=>?_
   |fail)<;>(conv=>whnf)))
  all_goals (try (show _=_;simp only[wQ]))
  all_goals try (first
    |(refine(Bool.eq_false_iff.2 fun h=>?_).symm;unfold Dt at h;simp only[Bool.and_eq_true,decide_eq_true_eq,List.length_cons,List.length_nil] at h;obtain⟨⟨⟨h1,h2⟩,h3⟩,h4⟩:=h;first|omega|(simp at h3 h4;simp_all;done)|(simp at h3 h4;omega))
    |(symm;unfold Dt;simp only[Bool.and_eq_true,decide_eq_true_eq,List.length_cons,List.length_nil];exact⟨⟨⟨by omega,by omega⟩,by simp[*]⟩,by simp_all⟩))
  refine⟨b,True.intro,?_,?_⟩
  ·exact Ac _
  (conv=>whnf)
  (repeat' ((first
   |((with_reducible refine aI ?_ ?_);focus (first|exact tO|exact tK|(simp only[List.length_append,bytesOf_length,List.toList_toArray,List.length_cons,List.length_nil,List.length_take,List.length_drop,A0];omega)))
   |(split<;>rename_i hh<;>(try simp only[wS] at hh))
   |with_reducible refine lnI fun hln=>?_
   |fail)<;>(conv=>whnf)))
  all_goals (try (show _=_;simp only[wQ]))
  all_goals (first
    |(refine(Bool.eq_false_iff.2 fun h=>?_).symm;unfold Dt at h;simp only[Bool.and_eq_true,decide_eq_true_eq,List.length_cons,List.length_nil] at h;obtain⟨⟨⟨h1,h2⟩,h3⟩,h4⟩:=h;first|omega|(simp at h3 h4;simp_all;done)|(simp at h3 h4;omega))
    |(symm;unfold Dt;simp only[Bool.and_eq_true,decide_eq_true_eq,List.length_cons,List.length_nil];exact⟨⟨⟨by omega,by omega⟩,by simp[*]⟩,by simp_all⟩))
 ·(conv=>whnf)
  (repeat' ((first
   |((with_reducible refine aI ?_ ?_);focus ((simp only[List.length_append,bytesOf_length,List.toList_toArray,List.length_cons,List.length_nil,List.length_take,List.length_drop,A0];omega)))
   |(split<;>rename_i hh<;>(try simp only[wS] at hh))
   |with_reducible refine lnI fun hln=>?_
   |fail)<;>(conv=>whnf)))
  all_goals (try (show _=_;simp only[wQ]))
  all_goals try (first
    |(refine(Bool.eq_false_iff.2 fun h=>?_).symm;unfold Dt at h;simp only[Bool.and_eq_true,decide_eq_true_eq,List.length_cons,List.length_nil] at h;obtain⟨⟨⟨h1,h2⟩,h3⟩,h4⟩:=h;first|omega|(simp at h3 h4;simp_all;done)|(simp at h3 h4;omega))
    |(symm;unfold Dt;simp only[Bool.and_eq_true,decide_eq_true_eq,List.length_cons,List.length_nil];exact⟨⟨⟨by omega,by omega⟩,by simp[*]⟩,by simp_all⟩))
  refine⟨a,True.intro,?_,?_⟩
  ·exact Ac _
  (conv=>whnf)
  (repeat' ((first
   |((with_reducible refine aI ?_ ?_);focus (first|exact tK|(simp only[List.length_append,bytesOf_length,List.toList_toArray,List.length_cons,List.length_nil,List.length_take,List.length_drop,A0];omega)))
   |(split<;>rename_i hh<;>(try simp only[wS] at hh))
   |with_reducible refine lnI fun hln=>?_
   |fail)<;>(conv=>whnf)))
  all_goals (try (show _=_;simp only[wQ]))
  all_goals try (first
    |(refine(Bool.eq_false_iff.2 fun h=>?_).symm;unfold Dt at h;simp only[Bool.and_eq_true,decide_eq_true_eq,List.length_cons,List.length_nil] at h;obtain⟨⟨⟨h1,h2⟩,h3⟩,h4⟩:=h;first|omega|(simp at h3 h4;simp_all;done)|(simp at h3 h4;omega))
    |(symm;unfold Dt;simp only[Bool.and_eq_true,decide_eq_true_eq,List.length_cons,List.length_nil];exact⟨⟨⟨by omega,by omega⟩,by simp[*]⟩,by simp_all⟩))
  refine⟨b,True.intro,?_,?_⟩
  ·exact Ac _
  (conv=>whnf)
  (repeat' ((first
   |((with_reducible refine aI ?_ ?_);focus (first|exact tO|exact tK|(simp only[List.length_append,bytesOf_length,List.toList_toArray,List.length_cons,List.length_nil,List.length_take,List.length_drop,A0];omega)))
   |(split<;>rename_i hh<;>(try simp only[wS] at hh))
   |with_reducible refine lnI fun hln=>?_
   |fail)<;>(conv=>whnf)))
  all_goals (try (show _=_;simp only[wQ]))
  all_goals try (first
    |(refine(Bool.eq_false_iff.2 fun h=>?_).symm;unfold Dt at h;simp only[Bool.and_eq_true,decide_eq_true_eq,List.length_cons,List.length_nil] at h;obtain⟨⟨⟨h1,h2⟩,h3⟩,h4⟩:=h;first|omega|(simp at h3 h4;simp_all;done)|(simp at h3 h4;omega))
    |(symm;unfold Dt;simp only[Bool.and_eq_true,decide_eq_true_eq,List.length_cons,List.length_nil];exact⟨⟨⟨by omega,by omega⟩,by simp[*]⟩,by simp_all⟩))
  refine⟨c,True.intro,?_,?_⟩
  ·exact Ac _
  (conv=>whnf)
  (repeat' ((first
   |((with_reducible refine aI ?_ ?_);focus (first|exact tO|exact tK|(simp only[List.length_append,bytesOf_length,List.toList_toArray,List.length_cons,List.length_nil,List.length_take,List.length_drop,A0];omega)))
   |(split<;>rename_i hh<;>(try simp only[wS] at hh))
   |with_reducible refine lnI fun hln=>?_
   |fail)<;>(conv=>whnf)))
  all_goals (try (show _=_;simp only[wQ]))
  all_goals (first
    |(refine(Bool.eq_false_iff.2 fun h=>?_).symm;unfold Dt at h;simp only[Bool.and_eq_true,decide_eq_true_eq,List.length_cons,List.length_nil] at h;obtain⟨⟨⟨h1,h2⟩,h3⟩,h4⟩:=h;first|omega|(simp at h3 h4;simp_all;done)|(simp at h3 h4;omega))
    |(symm;unfold Dt;simp only[Bool.and_eq_true,decide_eq_true_eq,List.length_cons,List.length_nil];exact⟨⟨⟨by omega,by omega⟩,by simp[*]⟩,by simp_all⟩))
 ·(conv=>whnf)
  (repeat' ((first
   |((with_reducible refine aI ?_ ?_);focus ((simp only[List.length_append,bytesOf_length,List.toList_toArray,List.length_cons,List.length_nil,List.length_take,List.length_drop,A0];omega)))
   |(split<;>rename_i hh<;>(try simp only[wS] at hh))
   |with_reducible refine lnI fun hln=>?_
   |fail)<;>(conv=>whnf)))
  all_goals (try (show _=_;simp only[wQ]))
  all_goals try (first
    |(refine(Bool.eq_false_iff.2 fun h=>?_).symm;unfold Dt at h;simp only[Bool.and_eq_true,decide_eq_true_eq,List.length_cons,List.length_nil] at h;obtain⟨⟨⟨h1,h2⟩,h3⟩,h4⟩:=h;first|omega|(simp at h3 h4;simp_all;done)|(simp at h3 h4;omega))
    |(symm;unfold Dt;simp only[Bool.and_eq_true,decide_eq_true_eq,List.length_cons,List.length_nil];exact⟨⟨⟨by omega,by omega⟩,by simp[*]⟩,by simp_all⟩))
  refine⟨a,True.intro,?_,?_⟩
  ·exact Ac _
  (conv=>whnf)
  (repeat' ((first
   |((with_reducible refine aI ?_ ?_);focus (first|exact tK|(simp only[List.length_append,bytesOf_length,List.toList_toArray,List.length_cons,List.length_nil,List.length_take,List.length_drop,A0];omega)))
   |(split<;>rename_i hh<;>(try simp only[wS] at hh))
   |with_reducible refine lnI fun hln=>?_
   |fail)<;>(conv=>whnf)))
  all_goals (try (show _=_;simp only[wQ]))
  all_goals try (first
    |(refine(Bool.eq_false_iff.2 fun h=>?_).symm;unfold Dt at h;simp only[Bool.and_eq_true,decide_eq_true_eq,List.length_cons,List.length_nil] at h;obtain⟨⟨⟨h1,h2⟩,h3⟩,h4⟩:=h;first|omega|(simp at h3 h4;simp_all;done)|(simp at h3 h4;omega))
    |(symm;unfold Dt;simp only[Bool.and_eq_true,decide_eq_true_eq,List.length_cons,List.length_nil];exact⟨⟨⟨by omega,by omega⟩,by simp[*]⟩,by simp_all⟩))
  refine⟨b,True.intro,?_,?_⟩
  ·exact Ac _
  (conv=>whnf)
  (repeat' ((first
   |((with_reducible refine aI ?_ ?_);focus (first|exact tO|exact tK|(simp only[List.length_append,bytesOf_length,List.toList_toArray,List.length_cons,List.length_nil,List.length_take,List.length_drop,A0];omega)))
   |(split<;>rename_i hh<;>(try simp only[wS] at hh))
   |with_reducible refine lnI fun hln=>?_
   |fail)<;>(conv=>whnf)))
  all_goals (try (show _=_;simp only[wQ]))
  all_goals try (first
    |(refine(Bool.eq_false_iff.2 fun h=>?_).symm;unfold Dt at h;simp only[Bool.and_eq_true,decide_eq_true_eq,List.length_cons,List.length_nil] at h;obtain⟨⟨⟨h1,h2⟩,h3⟩,h4⟩:=h;first|omega|(simp at h3 h4;simp_all;done)|(simp at h3 h4;omega))
    |(symm;unfold Dt;simp only[Bool.and_eq_true,decide_eq_true_eq,List.length_cons,List.length_nil];exact⟨⟨⟨by omega,by omega⟩,by simp[*]⟩,by simp_all⟩))
  refine⟨c,True.intro,?_,?_⟩
  ·exact Ac _
  (conv=>whnf)
  (repeat' ((first
   |((with_reducible refine aI ?_ ?_);focus (first|exact tO|exact tK|(simp only[List.length_append,bytesOf_length,List.toList_toArray,List.length_cons,List.length_nil,List.length_take,List.length_drop,A0];omega)))
   |(split<;>rename_i hh<;>(try simp only[wS] at hh))
   |with_reducible refine lnI fun hln=>?_
   |fail)<;>(conv=>whnf)))
  all_goals (try (show _=_;simp only[wQ]))
  all_goals try (first
    |(refine(Bool.eq_false_iff.2 fun h=>?_).symm;unfold Dt at h;simp only[Bool.and_eq_true,decide_eq_true_eq,List.length_cons,List.length_nil] at h;obtain⟨⟨⟨h1,h2⟩,h3⟩,h4⟩:=h;first|omega|(simp at h3 h4;simp_all;done)|(simp at h3 h4;omega))
    |(symm;unfold Dt;simp only[Bool.and_eq_true,decide_eq_true_eq,List.length_cons,List.length_nil];exact⟨⟨⟨by omega,by omega⟩,by simp[*]⟩,by simp_all⟩))
  refine⟨d,True.intro,?_,?_⟩
  ·exact Ac _
  (conv=>whnf)
  (repeat' ((first
   |((with_reducible refine aI ?_ ?_);focus (first|exact tO|exact tK|(simp only[List.length_append,bytesOf_length,List.toList_toArray,List.length_cons,List.length_nil,List.length_take,List.length_drop,A0];omega)))
   |(split<;>rename_i hh<;>(try simp only[wS] at hh))
   |with_reducible refine lnI fun hln=>?_
   |fail)<;>(conv=>whnf)))
  all_goals (try (show _=_;simp only[wQ]))
  all_goals (first
    |(refine(Bool.eq_false_iff.2 fun h=>?_).symm;unfold Dt at h;simp only[Bool.and_eq_true,decide_eq_true_eq,List.length_cons,List.length_nil] at h;obtain⟨⟨⟨h1,h2⟩,h3⟩,h4⟩:=h;first|omega|(simp at h3 h4;simp_all;done)|(simp at h3 h4;omega))
    |(symm;unfold Dt;simp only[Bool.and_eq_true,decide_eq_true_eq,List.length_cons,List.length_nil];exact⟨⟨⟨by omega,by omega⟩,by simp[*]⟩,by simp_all⟩))
 ·(conv=>whnf)
  (repeat' ((first
   |with_reducible refine lnI fun hln=>?_
   |fail)<;>(conv=>whnf)))
  all_goals (try (show _=_;simp only[wQ]))
  all_goals (first
    |(refine(Bool.eq_false_iff.2 fun h=>?_).symm;unfold Dt at h;simp only[Bool.and_eq_true,decide_eq_true_eq,List.length_cons,List.length_nil] at h;obtain⟨⟨⟨h1,h2⟩,h3⟩,h4⟩:=h;first|omega|(simp at h3 h4;simp_all;done)|(simp at h3 h4;omega))
    |(symm;unfold Dt;simp only[Bool.and_eq_true,decide_eq_true_eq,List.length_cons,List.length_nil];exact⟨⟨⟨by omega,by omega⟩,by simp[*]⟩,by simp_all⟩))
end
end Go.Vc.Z
