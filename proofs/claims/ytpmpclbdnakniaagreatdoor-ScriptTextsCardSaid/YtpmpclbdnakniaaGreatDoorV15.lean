/- Unlike tickets, and loans, have unlike lines: the plain law. -/
import Derived.Test.YtpmpclbdnakniaaGreatDoorV12
set_option linter.all false
namespace Go.Vc.Z
open Go Go.Vc Go.Proofs Go.RowKit Go.Pl Go.Lib
theorem Eu(x z:List UInt8)(r:List (List UInt8))(c:UInt8):Lib.join (x::z::r) [c]=x++c::Lib.join (z::r) [c]:=by
 simp[Lib.join_cons,Lib.joinTail]
theorem Rh{c:UInt8}:∀ {L:List (List UInt8)} {k:UInt8},c ∈ Lib.join L [k]→c=k∨∃ s ∈ L,c ∈ s
 |[],_,h=>by simp[Lib.join_nil] at h
 |[x],_,h=>.inr ⟨x,by simp,by rwa[Lib.join_one] at h⟩
 |x::z::r,k,h=>by
  rw[Eu,List.mem_append,List.mem_cons] at h;rcases h with h|h|h
  ·exact .inr ⟨x,by simp,h⟩
  ·exact .inl h
  ·rcases Rh h with h|⟨s,hs,h⟩
   ·exact .inl h
   ·exact .inr ⟨s,List.mem_cons_of_mem _ hs,h⟩
theorem lC{k:UInt8}(h: ¬(48≤k.toNat∧k.toNat≤57))(u:Nat):k ∉ decDigits u:=fun hm=>h (Dp.1 (Dq u) k hm)
theorem D5{k:UInt8}(h: ¬(48≤k.toNat∧k.toNat≤57))(h45:k≠45)(n:Int):k ∉ Lib.itoa n:=by
 unfold Lib.itoa;split
 ·rw[List.mem_cons];exact fun hm=>hm.elim h45 (lC h _)
 ·exact lC h _
theorem Aqm{k:UInt8}(h: ¬(48≤k.toNat∧k.toNat≤57))(n:Int):k ∉ A6 n:=by
 unfold A6;split
 ·exact lC h _
 ·simp
theorem Oh(n:Int):48≤(Dz n).toNat∧(Dz n).toNat≤57:=by
 have:(48+n % 10).toNat=48+(n % 10).toNat % 10:=by omega
 rw[Dz,this,Kz];omega
theorem lE(n:Int):(Dz n).toNat=48+(n % 10).toNat:=by
 have:(48+n % 10).toNat=48+(n % 10).toNat % 10:=by omega
 rw[Dz,this,Kz];omega
theorem Ae1{k:UInt8}(h: ¬(48≤k.toNat∧k.toNat≤57))(h46:k≠46)(n:Int):k ∉ Bl n:=by
 unfold Bl;simp only[List.mem_append,List.mem_cons,List.not_mem_nil,or_false];rintro(hm|hm|hm|hm)
 ·exact lC h _ hm
 ·exact h46 hm
 ·exact h (by rw[hm];exact Oh _)
 ·exact h (by rw[hm];exact Oh _)
theorem Ng{k:UInt8}(h: ¬(48≤k.toNat∧k.toNat≤57))(h45:k≠45)(h46:k≠46)(n:Int):k ∉ Cp n:=by
 unfold Cp Gj;split
 ·split
  ·rw[List.mem_cons];exact fun hm=>hm.elim h45 (Ae1 h h46 _)
  ·exact Ae1 h h46 _
 ·simp
theorem lF{s:Int}(h:Ji s=true):Cr s=[stL.getD (s - 1).toNat 0]:=by
 unfold Cr;rw[if_pos h];rcases Si h with rfl|rfl|rfl|rfl|rfl|rfl|rfl|rfl|rfl<;>rfl
theorem uC{k:UInt8}(h:k ∉ stL)(s:Int):k ∉ Cr s:=by
 unfold Cr;split
 ·exact fun hm=>h (List.mem_of_mem_drop (List.mem_of_mem_take hm))
 ·simp
theorem Aqn{k:UInt8}(h: ¬(48≤k.toNat∧k.toNat≤57))(h45:k≠45)(h46:k≠46)(h61:k≠61)(x:Tax):k ∉ E7 x:=by
 unfold E7;simp only[List.mem_append,List.mem_cons,List.not_mem_nil,or_false];rintro((hm|hm)|hm)
 ·exact D5 h h45 _ hm
 ·exact h61 hm
 ·exact Ng h h45 h46 _ hm
theorem Db{n:Int}(h:C2 n=true):C4 n=true:=by
 unfold C2 at h;unfold C4;simp only[Bool.and_eq_true,decide_eq_true_eq] at h ⊢;omega
theorem Aqo{s:List UInt8}(h:Gb s=true):(32:UInt8) ∉ s:=by
 unfold Gb at h;simp only[Bool.and_eq_true,List.all_eq_true] at h;intro hm;have:=h.1 32 hm;exact absurd this (by decide)
theorem Ae2(l:List Tax):(32:UInt8) ∉ Bm l:=by
 unfold Bm;split
 ·decide
 ·intro hm;rcases Rh hm with h|⟨s,hs,h⟩
  ·exact absurd h (by decide)
  ·obtain⟨x,_,rfl⟩:=List.mem_map.1 hs;exact Aqn (by decide) (by decide) (by decide) (by decide) x h
end Go.Vc.Z
