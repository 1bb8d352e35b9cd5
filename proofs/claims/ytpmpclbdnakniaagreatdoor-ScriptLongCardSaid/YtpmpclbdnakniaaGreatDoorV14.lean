/- Unlike tickets, and loans, have unlike lines: the plain law. -/
import Derived.Test.YtpmpclbdnakniaaGreatDoorV12
set_option linter.all false
set_option linter.unusedVariables false
set_option linter.unusedSimpArgs false
namespace Go.Vc.Z
open Go Go.Vc Go.Proofs Go.RowKit Go.Pl Go.Lib
theorem Fe(x z:List UInt8)(r:List (List UInt8))(c:UInt8):Lib.join (x::z::r) [c]=x++c::Lib.join (z::r) [c]:=by
 simp[Lib.join_cons,Lib.joinTail]
theorem Mr{c:UInt8}:∀ {L:List (List UInt8)} {k:UInt8},c ∈ Lib.join L [k]→c=k∨∃ s ∈ L,c ∈ s
 |[],_,h=>by simp[Lib.join_nil] at h
 |[x],_,h=>.inr ⟨x,by simp,by rwa[Lib.join_one] at h⟩
 |x::z::r,k,h=>by
  rw[Fe,List.mem_append,List.mem_cons] at h
  rcases h with h|h|h
  ·exact .inr ⟨x,by simp,h⟩
  ·exact .inl h
  ·rcases Mr h with h|⟨s,hs,h⟩
   ·exact .inl h
   ·exact .inr ⟨s,List.mem_cons_of_mem _ hs,h⟩
theorem Yp{k:UInt8}(h: ¬(48≤k.toNat∧k.toNat≤57))(u:Nat):k ∉ decDigits u:=fun hm=>h (E8.1 (E9 u) k hm)
theorem Fu{k:UInt8}(h: ¬(48≤k.toNat∧k.toNat≤57))(h45:k≠45)(n:Int):k ∉ Lib.itoa n:=by
 unfold Lib.itoa
 split
 ·rw[List.mem_cons];exact fun hm=>hm.elim h45 (Yp h _)
 ·exact Yp h _
theorem Afj{k:UInt8}(h: ¬(48≤k.toNat∧k.toNat≤57))(n:Int):k ∉ Ay n:=by
 unfold Ay
 split
 ·exact Yp h _
 ·simp
theorem Yq(n:Int):48≤(Gn n).toNat∧(Gn n).toNat≤57:=by
 have:(48+n % 10).toNat=48+(n % 10).toNat % 10:=by omega
 rw[Gn,this,Ib];omega
theorem Afk(n:Int):(Gn n).toNat=48+(n % 10).toNat:=by
 have:(48+n % 10).toNat=48+(n % 10).toNat % 10:=by omega
 rw[Gn,this,Ib];omega
theorem sG{k:UInt8}(h: ¬(48≤k.toNat∧k.toNat≤57))(h46:k≠46)(n:Int):k ∉ Ca n:=by
 unfold Ca
 simp only[List.mem_append,List.mem_cons,List.not_mem_nil,or_false]
 rintro(hm|hm|hm|hm)
 ·exact Yp h _ hm
 ·exact h46 hm
 ·exact h (by rw[hm];exact Yq _)
 ·exact h (by rw[hm];exact Yq _)
theorem Nj{k:UInt8}(h: ¬(48≤k.toNat∧k.toNat≤57))(h45:k≠45)(h46:k≠46)(n:Int):k ∉ D3 n:=by
 unfold D3 Oz
 split
 ·split
  ·rw[List.mem_cons];exact fun hm=>hm.elim h45 (sG h h46 _)
  ·exact sG h h46 _
 ·simp
theorem yO{s:Int}(h:Iz s=true):Do s=[stL.getD (s - 1).toNat 0]:=by
 unfold Do
 rw[if_pos h]
 rcases Ra h with rfl|rfl|rfl|rfl|rfl|rfl|rfl|rfl|rfl<;>rfl
theorem eS{k:UInt8}(h:k ∉ stL)(s:Int):k ∉ Do s:=by
 unfold Do
 split
 ·exact fun hm=>h (List.mem_of_mem_drop (List.mem_of_mem_take hm))
 ·simp
theorem Afl{k:UInt8}(h: ¬(48≤k.toNat∧k.toNat≤57))(h45:k≠45)(h46:k≠46)(h61:k≠61)(x:Tax):k ∉ Gh x:=by
 unfold Gh
 simp only[List.mem_append,List.mem_cons,List.not_mem_nil,or_false]
 rintro((hm|hm)|hm)
 ·exact Fu h h45 _ hm
 ·exact h61 hm
 ·exact Nj h h45 h46 _ hm
theorem Lh{n:Int}(h:D2 n=true):Es n=true:=by
 unfold D2 at h
 unfold Es
 simp only[Bool.and_eq_true,decide_eq_true_eq] at h ⊢
 omega
theorem Afm{s:List UInt8}(h:G4 s=true):(32:UInt8) ∉ s:=by
 unfold G4 at h
 simp only[Bool.and_eq_true,List.all_eq_true] at h
 intro hm
 have:=h.1 32 hm
 exact absurd this (by decide)
theorem sH(l:List Tax):(32:UInt8) ∉ B9 l:=by
 unfold B9
 split
 ·decide
 ·intro hm
  rcases Mr hm with h|⟨s,hs,h⟩
  ·exact absurd h (by decide)
  ·obtain⟨x,_,rfl⟩:=List.mem_map.1 hs
   exact Afl (by decide) (by decide) (by decide) (by decide) x h
end Go.Vc.Z
