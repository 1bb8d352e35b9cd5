/- Setups that may be. -/
import Derived.Test.YtpmpclbdnakniaaGreatDoorV23
set_option linter.all false
set_option linter.unusedVariables false
set_option linter.unusedSimpArgs false
namespace Go.Vc.Z
open Go Go.Vc Go.Proofs Go.RowKit Go.Pl Go.Lib
structure Setup where
 sites:List Site
 k:Int
deriving Inhabited
abbrev Setup.enc(s:Setup):List AV:=[slE 6 Site.enc s.sites,.int .i64 s.k]
@[irreducible] def Et(s:Setup):Bool:=decide (1≤s.sites.length∧s.sites.length≤4)&&decide (1≤s.k∧s.k≤64)&&s.sites.all G8&&decide (s.sites.map Site.carrier).Nodup
noncomputable section
set_option maxRecDepth 100000
attribute [local irreducible] inK Utf8.decode Utf8.encode Lib.itoa Pl.worth Pl.allDig
attribute [local irreducible] Lib.join
def W8:PC:=PC.of (fun s:Setup=>[.agg s.enc]) (fun _=>True) (fun s=>.bool (sB (Et s)))
def Hn:PT:=D1 [(183,pO)]
theorem Lp{W:World}(hW:Tabs W):Dj (Fw W) Tryz.prog Hn:=(Ae Tryz.call183 (Sm hW) A6)
def Ho:FuncId→Option Ctr:=Av Hn []
theorem Sn{W:World}(hW:Tabs W):Ad (Fw W) Tryz.prog Ho:=(A7 (Lp hW))
def Sp:Setup→Nat→Option LR:=fun s i=>cond (Nat.beq i 4) (some (.unroll 5)) (cond (Nat.beq i 9) (some (.unroll 5)) (none))
set_option maxHeartbeats 2000000 in
theorem Sq{W:World}(hW:Tabs W):GoodP (Fw W) Tryz.prog 103 W8:=by
 have hD:=Lp hW
 have hC0:∀ s:Setup,Ad (Fw W) Tryz.prog Ho:=fun s=>(Sn hW)
 refine Ax (D:=Hn) (C:=fun s=>Ho) (wr:=(fun _=>false)) rfl Aq hD hC0 Tryz.func103 (Sp) (fun _=>rfl) ?_
 rintro⟨l,k⟩ hf hp
 clear hf
 rcases l with _|⟨a,_|⟨b,_|⟨c,_|⟨d,_|⟨e,l⟩⟩⟩⟩⟩
 ·(conv=>whnf)
  (repeat' ((first
   |with_reducible refine lnI fun hln=>?_
   |fail)<;>(conv=>whnf)))
  all_goals (try (show _=_;simp only[wQ]))
  all_goals (first
    |(refine(Bool.eq_false_iff.2 fun h=>?_).symm;unfold Et at h;simp only[Bool.and_eq_true,decide_eq_true_eq,List.length_cons,List.length_nil] at h;obtain⟨⟨⟨h1,h2⟩,h3⟩,h4⟩:=h;first|omega|(simp at h3 h4;simp_all;done)|(simp at h3 h4;omega))
    |(symm;unfold Et;simp only[Bool.and_eq_true,decide_eq_true_eq,List.length_cons,List.length_nil];exact⟨⟨⟨by omega,by omega⟩,by simp[*]⟩,by simp_all⟩))
 ·(conv=>whnf)
  (repeat' ((first
   |((with_reducible refine aI ?_ ?_);focus ((simp only[List.length_append,bytesOf_length,List.toList_toArray,List.length_cons,List.length_nil,List.length_take,List.length_drop,Ap];omega)))
   |(split<;>rename_i hh<;>(try simp only[wS] at hh))
   |with_reducible refine lnI fun hln=>?_
   |fail)<;>(conv=>whnf)))
  all_goals (try (show _=_;simp only[wQ]))
  all_goals try (first
    |(refine(Bool.eq_false_iff.2 fun h=>?_).symm;unfold Et at h;simp only[Bool.and_eq_true,decide_eq_true_eq,List.length_cons,List.length_nil] at h;obtain⟨⟨⟨h1,h2⟩,h3⟩,h4⟩:=h;first|omega|(simp at h3 h4;simp_all;done)|(simp at h3 h4;omega))
    |(symm;unfold Et;simp only[Bool.and_eq_true,decide_eq_true_eq,List.length_cons,List.length_nil];exact⟨⟨⟨by omega,by omega⟩,by simp[*]⟩,by simp_all⟩))
  refine⟨a,True.intro,?_,?_⟩
  ·exact Aj _
  (conv=>whnf)
  (repeat' ((first
   |((with_reducible refine aI ?_ ?_);focus (exact tK))
   |(split<;>rename_i hh<;>(try simp only[wS] at hh))
   |with_reducible refine lnI fun hln=>?_
   |fail)<;>(conv=>whnf)))
  all_goals (try (show _=_;simp only[wQ]))
  all_goals (first
    |(refine(Bool.eq_false_iff.2 fun h=>?_).symm;unfold Et at h;simp only[Bool.and_eq_true,decide_eq_true_eq,List.length_cons,List.length_nil] at h;obtain⟨⟨⟨h1,h2⟩,h3⟩,h4⟩:=h;first|omega|(simp at h3 h4;simp_all;done)|(simp at h3 h4;omega))
    |(symm;unfold Et;simp only[Bool.and_eq_true,decide_eq_true_eq,List.length_cons,List.length_nil];exact⟨⟨⟨by omega,by omega⟩,by simp[*]⟩,by simp_all⟩))
 ·(conv=>whnf)
  (repeat' ((first
   |((with_reducible refine aI ?_ ?_);focus ((simp only[List.length_append,bytesOf_length,List.toList_toArray,List.length_cons,List.length_nil,List.length_take,List.length_drop,Ap];omega)))
   |(split<;>rename_i hh<;>(try simp only[wS] at hh))
   |with_reducible refine lnI fun hln=>?_
   |fail)<;>(conv=>whnf)))
  all_goals (try (show _=_;simp only[wQ]))
  all_goals try (first
    |(refine(Bool.eq_false_iff.2 fun h=>?_).symm;unfold Et at h;simp only[Bool.and_eq_true,decide_eq_true_eq,List.length_cons,List.length_nil] at h;obtain⟨⟨⟨h1,h2⟩,h3⟩,h4⟩:=h;first|omega|(simp at h3 h4;simp_all;done)|(simp at h3 h4;omega))
    |(symm;unfold Et;simp only[Bool.and_eq_true,decide_eq_true_eq,List.length_cons,List.length_nil];exact⟨⟨⟨by omega,by omega⟩,by simp[*]⟩,by simp_all⟩))
  refine⟨a,True.intro,?_,?_⟩
  ·exact Aj _
  (conv=>whnf)
  (repeat' ((first
   |((with_reducible refine aI ?_ ?_);focus (first|exact tK|(simp only[List.length_append,bytesOf_length,List.toList_toArray,List.length_cons,List.length_nil,List.length_take,List.length_drop,Ap];omega)))
   |(split<;>rename_i hh<;>(try simp only[wS] at hh))
   |with_reducible refine lnI fun hln=>?_
   |fail)<;>(conv=>whnf)))
  all_goals (try (show _=_;simp only[wQ]))
  all_goals try (first
    |(refine(Bool.eq_false_iff.2 fun h=>?_).symm;unfold Et at h;simp only[Bool.and_eq_true,decide_eq_true_eq,List.length_cons,List.length_nil] at h;obtain⟨⟨⟨h1,h2⟩,h3⟩,h4⟩:=h;first|omega|(simp at h3 h4;simp_all;done)|(simp at h3 h4;omega))
    |(symm;unfold Et;simp only[Bool.and_eq_true,decide_eq_true_eq,List.length_cons,List.length_nil];exact⟨⟨⟨by omega,by omega⟩,by simp[*]⟩,by simp_all⟩))
  refine⟨b,True.intro,?_,?_⟩
  ·exact Aj _
  (conv=>whnf)
  (repeat' ((first
   |((with_reducible refine aI ?_ ?_);focus (first|exact tO|exact tK|(simp only[List.length_append,bytesOf_length,List.toList_toArray,List.length_cons,List.length_nil,List.length_take,List.length_drop,Ap];omega)))
   |(split<;>rename_i hh<;>(try simp only[wS] at hh))
   |with_reducible refine lnI fun hln=>?_
   |fail)<;>(conv=>whnf)))
  all_goals (try (show _=_;simp only[wQ]))
  all_goals (first
    |(refine(Bool.eq_false_iff.2 fun h=>?_).symm;unfold Et at h;simp only[Bool.and_eq_true,decide_eq_true_eq,List.length_cons,List.length_nil] at h;obtain⟨⟨⟨h1,h2⟩,h3⟩,h4⟩:=h;first|omega|(simp at h3 h4;simp_all;done)|(simp at h3 h4;omega))
    |(symm;unfold Et;simp only[Bool.and_eq_true,decide_eq_true_eq,List.length_cons,List.length_nil];exact⟨⟨⟨by omega,by omega⟩,by simp[*]⟩,by simp_all⟩))
 ·(conv=>whnf)
  (repeat' ((first
   |((with_reducible refine aI ?_ ?_);focus ((simp only[List.length_append,bytesOf_length,List.toList_toArray,List.length_cons,List.length_nil,List.length_take,List.length_drop,Ap];omega)))
   |(split<;>rename_i hh<;>(try simp only[wS] at hh))
   |with_reducible refine lnI fun hln=>?_
   |fail)<;>(conv=>whnf)))
  all_goals (try (show _=_;simp only[wQ]))
  all_goals try (first
    |(refine(Bool.eq_false_iff.2 fun h=>?_).symm;unfold Et at h;simp only[Bool.and_eq_true,decide_eq_true_eq,List.length_cons,List.length_nil] at h;obtain⟨⟨⟨h1,h2⟩,h3⟩,h4⟩:=h;first|omega|(simp at h3 h4;simp_all;done)|(simp at h3 h4;omega))
    |(symm;unfold Et;simp only[Bool.and_eq_true,decide_eq_true_eq,List.length_cons,List.length_nil];exact⟨⟨⟨by omega,by omega⟩,by simp[*]⟩,by simp_all⟩))
  refine⟨a,True.intro,?_,?_⟩
  ·exact Aj _
  (conv=>whnf)
  (repeat' ((first
   |((with_reducible refine aI ?_ ?_);focus (first|exact tK|(simp only[List.length_append,bytesOf_length,List.toList_toArray,List.length_cons,List.length_nil,List.length_take,List.length_drop,Ap];omega)))
   |(split<;>rename_i hh<;>(try simp only[wS] at hh))
   |with_reducible refine lnI fun hln=>?_
   |fail)<;>(conv=>whnf)))
  all_goals (try (show _=_;simp only[wQ]))
  all_goals try (first
    |(refine(Bool.eq_false_iff.2 fun h=>?_).symm;unfold Et at h;simp only[Bool.and_eq_true,decide_eq_true_eq,List.length_cons,List.length_nil] at h;obtain⟨⟨⟨h1,h2⟩,h3⟩,h4⟩:=h;first|omega|(simp at h3 h4;simp_all;done)|(simp at h3 h4;omega))
    |(symm;unfold Et;simp only[Bool.and_eq_true,decide_eq_true_eq,List.length_cons,List.length_nil];exact⟨⟨⟨by omega,by omega⟩,by simp[*]⟩,by simp_all⟩))
  refine⟨b,True.intro,?_,?_⟩
  ·exact Aj _
  (conv=>whnf)
  (repeat' ((first
   |((with_reducible refine aI ?_ ?_);focus (first|exact tO|exact tK|(simp only[List.length_append,bytesOf_length,List.toList_toArray,List.length_cons,List.length_nil,List.length_take,List.length_drop,Ap];omega)))
   |(split<;>rename_i hh<;>(try simp only[wS] at hh))
   |with_reducible refine lnI fun hln=>?_
   |fail)<;>(conv=>whnf)))
  all_goals (try (show _=_;simp only[wQ]))
  all_goals try (first
    |(refine(Bool.eq_false_iff.2 fun h=>?_).symm;unfold Et at h;simp only[Bool.and_eq_true,decide_eq_true_eq,List.length_cons,List.length_nil] at h;obtain⟨⟨⟨h1,h2⟩,h3⟩,h4⟩:=h;first|omega|(simp at h3 h4;simp_all;done)|(simp at h3 h4;omega))
    |(symm;unfold Et;simp only[Bool.and_eq_true,decide_eq_true_eq,List.length_cons,List.length_nil];exact⟨⟨⟨by omega,by omega⟩,by simp[*]⟩,by simp_all⟩))
  refine⟨c,True.intro,?_,?_⟩
  ·exact Aj _
  (conv=>whnf)
  (repeat' ((first
   |((with_reducible refine aI ?_ ?_);focus (first|exact tO|exact tK|(simp only[List.length_append,bytesOf_length,List.toList_toArray,List.length_cons,List.length_nil,List.length_take,List.length_drop,Ap];omega)))
   |(split<;>rename_i hh<;>(try simp only[wS] at hh))
   |with_reducible refine lnI fun hln=>?_
   |fail)<;>(conv=>whnf)))
  all_goals (try (show _=_;simp only[wQ]))
  all_goals (first
    |(refine(Bool.eq_false_iff.2 fun h=>?_).symm;unfold Et at h;simp only[Bool.and_eq_true,decide_eq_true_eq,List.length_cons,List.length_nil] at h;obtain⟨⟨⟨h1,h2⟩,h3⟩,h4⟩:=h;first|omega|(simp at h3 h4;simp_all;done)|(simp at h3 h4;omega))
    |(symm;unfold Et;simp only[Bool.and_eq_true,decide_eq_true_eq,List.length_cons,List.length_nil];exact⟨⟨⟨by omega,by omega⟩,by simp[*]⟩,by simp_all⟩))
 ·(conv=>whnf)
  (repeat' ((first
   |((with_reducible refine aI ?_ ?_);focus ((simp only[List.length_append,bytesOf_length,List.toList_toArray,List.length_cons,List.length_nil,List.length_take,List.length_drop,Ap];omega)))
   |(split<;>rename_i hh<;>(try simp only[wS] at hh))
   |with_reducible refine lnI fun hln=>?_
   |fail)<;>(conv=>whnf)))
  all_goals (try (show _=_;simp only[wQ]))
  all_goals try (first
    |(refine(Bool.eq_false_iff.2 fun h=>?_).symm;unfold Et at h;simp only[Bool.and_eq_true,decide_eq_true_eq,List.length_cons,List.length_nil] at h;obtain⟨⟨⟨h1,h2⟩,h3⟩,h4⟩:=h;first|omega|(simp at h3 h4;simp_all;done)|(simp at h3 h4;omega))
    |(symm;unfold Et;simp only[Bool.and_eq_true,decide_eq_true_eq,List.length_cons,List.length_nil];exact⟨⟨⟨by omega,by omega⟩,by simp[*]⟩,by simp_all⟩))
  refine⟨a,True.intro,?_,?_⟩
  ·exact Aj _
  (conv=>whnf)
  (repeat' ((first
   |((with_reducible refine aI ?_ ?_);focus (first|exact tK|(simp only[List.length_append,bytesOf_length,List.toList_toArray,List.length_cons,List.length_nil,List.length_take,List.length_drop,Ap];omega)))
   |(split<;>rename_i hh<;>(try simp only[wS] at hh))
   |with_reducible refine lnI fun hln=>?_
   |fail)<;>(conv=>whnf)))
  all_goals (try (show _=_;simp only[wQ]))
  all_goals try (first
    |(refine(Bool.eq_false_iff.2 fun h=>?_).symm;unfold Et at h;simp only[Bool.and_eq_true,decide_eq_true_eq,List.length_cons,List.length_nil] at h;obtain⟨⟨⟨h1,h2⟩,h3⟩,h4⟩:=h;first|omega|(simp at h3 h4;simp_all;done)|(simp at h3 h4;omega))
    |(symm;unfold Et;simp only[Bool.and_eq_true,decide_eq_true_eq,List.length_cons,List.length_nil];exact⟨⟨⟨by omega,by omega⟩,by simp[*]⟩,by simp_all⟩))
  refine⟨b,True.intro,?_,?_⟩
  ·exact Aj _
  (conv=>whnf)
  (repeat' ((first
   |((with_reducible refine aI ?_ ?_);focus (first|exact tO|exact tK|(simp only[List.length_append,bytesOf_length,List.toList_toArray,List.length_cons,List.length_nil,List.length_take,List.length_drop,Ap];omega)))
   |(split<;>rename_i hh<;>(try simp only[wS] at hh))
   |with_reducible refine lnI fun hln=>?_
   |fail)<;>(conv=>whnf)))
  all_goals (try (show _=_;simp only[wQ]))
  all_goals try (first
    |(refine(Bool.eq_false_iff.2 fun h=>?_).symm;unfold Et at h;simp only[Bool.and_eq_true,decide_eq_true_eq,List.length_cons,List.length_nil] at h;obtain⟨⟨⟨h1,h2⟩,h3⟩,h4⟩:=h;first|omega|(simp at h3 h4;simp_all;done)|(simp at h3 h4;omega))
    |(symm;unfold Et;simp only[Bool.and_eq_true,decide_eq_true_eq,List.length_cons,List.length_nil];exact⟨⟨⟨by omega,by omega⟩,by simp[*]⟩,by simp_all⟩))
  refine⟨c,True.intro,?_,?_⟩
  ·exact Aj _
  (conv=>whnf)
  (repeat' ((first
   |((with_reducible refine aI ?_ ?_);focus (first|exact tO|exact tK|(simp only[List.length_append,bytesOf_length,List.toList_toArray,List.length_cons,List.length_nil,List.length_take,List.length_drop,Ap];omega)))
   |(split<;>rename_i hh<;>(try simp only[wS] at hh))
   |with_reducible refine lnI fun hln=>?_
   |fail)<;>(conv=>whnf)))
  all_goals (try (show _=_;simp only[wQ]))
  all_goals try (first
    |(refine(Bool.eq_false_iff.2 fun h=>?_).symm;unfold Et at h;simp only[Bool.and_eq_true,decide_eq_true_eq,List.length_cons,List.length_nil] at h;obtain⟨⟨⟨h1,h2⟩,h3⟩,h4⟩:=h;first|omega|(simp at h3 h4;simp_all;done)|(simp at h3 h4;omega))
    |(symm;unfold Et;simp only[Bool.and_eq_true,decide_eq_true_eq,List.length_cons,List.length_nil];exact⟨⟨⟨by omega,by omega⟩,by simp[*]⟩,by simp_all⟩))
  refine⟨d,True.intro,?_,?_⟩
  ·exact Aj _
  (conv=>whnf)
  (repeat' ((first
   |((with_reducible refine aI ?_ ?_);focus (first|exact tO|exact tK|(simp only[List.length_append,bytesOf_length,List.toList_toArray,List.length_cons,List.length_nil,List.length_take,List.length_drop,Ap];omega)))
   |(split<;>rename_i hh<;>(try simp only[wS] at hh))
   |with_reducible refine lnI fun hln=>?_
   |fail)<;>(conv=>whnf)))
  all_goals (try (show _=_;simp only[wQ]))
  all_goals (first
    |(refine(Bool.eq_false_iff.2 fun h=>?_).symm;unfold Et at h;simp only[Bool.and_eq_true,decide_eq_true_eq,List.length_cons,List.length_nil] at h;obtain⟨⟨⟨h1,h2⟩,h3⟩,h4⟩:=h;first|omega|(simp at h3 h4;simp_all;done)|(simp at h3 h4;omega))
    |(symm;unfold Et;simp only[Bool.and_eq_true,decide_eq_true_eq,List.length_cons,List.length_nil];exact⟨⟨⟨by omega,by omega⟩,by simp[*]⟩,by simp_all⟩))
 ·(conv=>whnf)
  (repeat' ((first
   |with_reducible refine lnI fun hln=>?_
   |fail)<;>(conv=>whnf)))
  all_goals (try (show _=_;simp only[wQ]))
  all_goals (first
    |(refine(Bool.eq_false_iff.2 fun h=>?_).symm;unfold Et at h;simp only[Bool.and_eq_true,decide_eq_true_eq,List.length_cons,List.length_nil] at h;obtain⟨⟨⟨h1,h2⟩,h3⟩,h4⟩:=h;first|omega|(simp at h3 h4;simp_all;done)|(simp at h3 h4;omega))
    |(symm;unfold Et;simp only[Bool.and_eq_true,decide_eq_true_eq,List.length_cons,List.length_nil];exact⟨⟨⟨by omega,by omega⟩,by simp[*]⟩,by simp_all⟩))
end
end Go.Vc.Z
