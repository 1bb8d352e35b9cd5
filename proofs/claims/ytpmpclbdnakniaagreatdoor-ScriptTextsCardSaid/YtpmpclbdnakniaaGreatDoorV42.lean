/- The law ScriptActs: true. -/
import Derived.Test.YtpmpclbdnakniaaGreatDoorV41
import Derived.Test.YtpmpclbdnakniaaGreatDoorV39
set_option linter.all false
set_option maxHeartbeats 8000000
namespace Go.Vc.Z
open Go Go.Vc Go.Proofs Go.RowKit Go.Pl Go.Lib
theorem Ah5{a:Act}(hf:Az [.agg a.enc])(hm:Ag a=true):(Bh a).length≤1000000:=by
 have hpf:=Ma (O3 hf);have hj:∀ L:List (List UInt8),(∀ s ∈ L,s.length≤200)→L.length≤1002→(Lib.join L [32]).length≤1000000:=fun L h1 h2=>by
  have:=Lp [32] 200 L h1;simp at this;omega
 rcases D6 hm with k|k|k|k|k
 ·obtain⟨f1,_⟩:=O0 k hm;have h1:=Bj a.server (by omega) (by omega)
  have h2:=O2 (Vn hf);rw[Avo k hm];simp only[List.length_append,List.length_cons,List.length_nil];omega
 ·obtain⟨f1,_⟩:=Vo k hm;unfold Bh Cx;rw[if_pos hm,if_neg (by omega),if_pos k]
  refine hj _ (fun s hs=>?_) (by simp;omega)
  rcases List.mem_cons.1 hs with h|h
  ·rw[h];decide
  ·exact hpf s h
 ·obtain⟨f1,f2,_⟩:=O1 k hm;have h1:=Bj a.server (by omega) (by omega)
  have h2:=Bj a.n (by omega) (by omega)
  unfold Bh Cx;rw[if_pos hm,if_neg (by omega),if_neg (by omega),if_pos k]
  refine hj _ (fun s hs=>?_) (by simp)
  simp only[List.mem_cons,List.not_mem_nil,or_false] at hs;rcases hs with h|h|h<;>rw[h]
  ·decide
  ·omega
  ·omega
 ·obtain⟨f1,f2,_⟩:=R1 k hm;have h1:=Bj a.server (by omega) (by omega)
  unfold Bh Cx;rw[if_pos hm,if_neg (by omega),if_neg (by omega),if_neg (by omega),if_pos k]
  refine hj _ (fun s hs=>?_) (by simp;omega)
  rcases List.mem_cons.1 hs with h|h
  ·rw[h];decide
  ·rcases List.mem_cons.1 h with h|h
   ·rw[h];omega
   ·exact hpf s h
 ·rw[A08 k hm];cases a.is<;>decide
noncomputable section
set_option maxRecDepth 100000
attribute [local irreducible] inK Utf8.decode Utf8.encode Lib.itoa Pl.worth Pl.allDig
attribute [local irreducible] Lib.join
end
end Go.Vc.Z
