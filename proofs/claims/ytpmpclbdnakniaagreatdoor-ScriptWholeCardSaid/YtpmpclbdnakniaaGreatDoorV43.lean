/- The law ScriptActs: true. -/
import Derived.Test.YtpmpclbdnakniaaGreatDoorV42
import Derived.Test.YtpmpclbdnakniaaGreatDoorV40
set_option linter.all false
set_option linter.unusedVariables false
set_option linter.unusedSimpArgs false
namespace Go.Vc.Z
open Go Go.Vc Go.Proofs Go.RowKit Go.Pl Go.Lib
theorem Apg{a:Act}(h:Ax [.agg a.enc]):fitA a:=by
 have hp:=Kv h
 unfold fitA
 intro n hn
 obtain⟨i,hi,rfl⟩:=List.getElem_of_mem hn
 have:=hp i hi
 rw[List.getD_eq_getElem?_getD,List.getElem?_eq_getElem hi] at this
 exact this
theorem nJ{a:Act}(hf:Ax [.agg a.enc])(hm:Af a=true):(Bt a).length≤1000000:=by
 have hpf:=Le (Kv hf)
 have hj:∀ L:List (List UInt8),(∀ s ∈ L,s.length≤200)→L.length≤1002→(Lib.join L [32]).length≤1000000:=fun L h1 h2=>by
  have:=K0 [32] 200 L h1;simp at this;omega
 rcases D9 hm with k|k|k|k|k
 ·obtain⟨f1,_⟩:=Nq k hm
  have h1:=Bl a.server (by omega) (by omega)
  have h2:=Ns (Tm hf)
  rw[Ar8 k hm]
  simp only[List.length_append,List.length_cons,List.length_nil];omega
 ·obtain⟨f1,_⟩:=Tn k hm
  unfold Bt C8;rw[if_pos hm,if_neg (by omega),if_pos k]
  refine hj _ (fun s hs=>?_) (by simp;omega)
  rcases List.mem_cons.1 hs with h|h
  ·rw[h];decide
  ·exact hpf s h
 ·obtain⟨f1,f2,_⟩:=Nr k hm
  have h1:=Bl a.server (by omega) (by omega)
  have h2:=Bl a.n (by omega) (by omega)
  unfold Bt C8;rw[if_pos hm,if_neg (by omega),if_neg (by omega),if_pos k]
  refine hj _ (fun s hs=>?_) (by simp)
  simp only[List.mem_cons,List.not_mem_nil,or_false] at hs
  rcases hs with h|h|h<;>rw[h]
  ·decide
  ·omega
  ·omega
 ·obtain⟨f1,f2,_⟩:=Qf k hm
  have h1:=Bl a.server (by omega) (by omega)
  unfold Bt C8;rw[if_pos hm,if_neg (by omega),if_neg (by omega),if_neg (by omega),if_pos k]
  refine hj _ (fun s hs=>?_) (by simp;omega)
  rcases List.mem_cons.1 hs with h|h
  ·rw[h];decide
  ·rcases List.mem_cons.1 h with h|h
   ·rw[h];omega
   ·exact hpf s h
 ·rw[Axr k hm];cases a.is<;>decide
noncomputable section
set_option maxRecDepth 100000
attribute [local irreducible] inK Utf8.decode Utf8.encode Lib.itoa Pl.worth Pl.allDig
attribute [local irreducible] Lib.join
end
end Go.Vc.Z
