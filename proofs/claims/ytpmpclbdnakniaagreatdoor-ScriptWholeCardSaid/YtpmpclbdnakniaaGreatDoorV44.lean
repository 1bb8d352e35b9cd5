/- Scripts' lines: the plain law. -/
import Derived.Test.YtpmpclbdnakniaaGreatDoorV38
import Derived.Test.YtpmpclbdnakniaaGreatDoorV31
set_option linter.all false
set_option linter.unusedVariables false
set_option linter.unusedSimpArgs false
namespace Go.Vc.Z
open Go Go.Vc Go.Proofs Go.RowKit Go.Pl Go.Lib
noncomputable section
def Ex(s:Site):List (List UInt8):=[[115,105,116,101],Lib.itoa s.carrier,Lib.itoa s.first,Lib.itoa s.count,Lib.itoa s.sectors,Lib.itoa s.pages,Lib.itoa s.frames]
def Nx(k:Int):List (List UInt8):=[[110,101,116],Lib.itoa k]
@[irreducible] def Jw(s:Setup):List (List UInt8):=Lib.join (Nx s.k) [32]::s.sites.map (fun x=>Lib.join (Ex x) [32])
@[irreducible] def Jp(L:List (List UInt8)):List UInt8:=L.flatMap (fun l=>l++[10])
theorem Ys(n:Int):(10:UInt8) ∉ Lib.itoa n:=Gj (by decide) (by decide) n
theorem Ww{s:List UInt8}(h:Fp s=true):(10:UInt8) ∉ s:=by
 unfold Fp at h
 simp only[Bool.and_eq_true,List.all_eq_true] at h
 intro hm
 exact absurd (h.1.1 10 hm) (by decide)
theorem Aph{s:List UInt8}(h:Fx s=true):(10:UInt8) ∉ s:=by
 unfold Fx at h
 simp only[Bool.and_eq_true,List.all_eq_true] at h
 intro hm
 exact absurd (h.1 10 hm) (by decide)
theorem nK(l:List Coupon):(10:UInt8) ∉ Cf l:=by
 unfold Cf
 intro hm
 rcases P7 hm with h|⟨s,hs,h⟩
 ·exact absurd h (by decide)
 ·obtain⟨x,_,rfl⟩:=List.mem_map.1 hs
  unfold Bv at h
  simp only[List.mem_append,List.mem_singleton] at h
  rcases h with (((hm|hm)|hm)|hm)|hm
  ·exact Ys _ hm
  ·exact absurd hm (by decide)
  ·exact Ys _ hm
  ·exact absurd hm (by decide)
  ·exact Q2 (by decide) (by decide) (by decide) _ hm
theorem Ae0(l:List Tax):(10:UInt8) ∉ B7 l:=by
 unfold B7
 split
 ·decide
 ·intro hm
  rcases P7 hm with h|⟨s,hs,h⟩
  ·exact absurd h (by decide)
  ·obtain⟨x,_,rfl⟩:=List.mem_map.1 hs
   unfold Fo at h
   simp only[List.mem_append,List.mem_singleton] at h
   rcases h with (hm|hm)|hm
   ·exact Ys _ hm
   ·exact absurd hm (by decide)
   ·exact Q2 (by decide) (by decide) (by decide) _ hm
theorem Ae1{r:Request}(h:Ah r=true):∀ w ∈ Br r,(10:UInt8) ∉ w:=by
 have hD:=Ys
 have hT:=fun n:Int=>Ang (k:=10) (by decide) n
 have hA:=fun n:Int=>Q2 (k:=10) (by decide) (by decide) (by decide) n
 have hS:=fun n:Int=>qD (k:=10) (by decide) n
 rcases F5 h with k|k|k|k|k|k|k|k|k|k
 ·obtain⟨h1,_,h3,_⟩:=H9 k h
  rw[Ke k];simp[hD,Ww h1,Aph h3,nK,Ae0]
 ·obtain⟨h1,_⟩:=Kf k h
  rw[Kg k];simp[hD,hT,hS,Ww h1]
 ·obtain⟨h1,_⟩:=Kh k h
  rw[Ki k];simp[hD,hT,Ww h1]
 ·obtain⟨h1,_⟩:=Kj k h
  rw[Kk k];simp[hD,hT,hA,Ww h1]
 ·obtain⟨h1,_⟩:=Ia k h
  rw[Kl k];simp[hD,hT,hA,Ww h1,nK,Ae0]
 ·obtain⟨h1,_⟩:=Km k h
  rw[Kn k];simp[hD,hT,Ww h1]
 ·obtain⟨h1,_⟩:=Ko k h
  rw[Kp k];simp[hD,hT,Ww h1]
 ·rw[Kq k];simp[hT]
 ·have h1:=Kr k h
  rw[Ks k];simp[Aph h1]
 ·rw[Io k];simp[hD]
theorem dX{L:List (List UInt8)}(h:∀ w ∈ L,(10:UInt8) ∉ w):(10:UInt8) ∉ Lib.join L [32]:=by
 intro hm
 rcases P7 hm with e|⟨s,hs,e⟩
 ·exact absurd e (by decide)
 ·exact h s hs e
theorem Asr(r:Request):(10:UInt8) ∉ Bu r:=by
 unfold Bu
 split
 ·exact dX (Ae1 (by assumption))
 ·exact List.not_mem_nil
theorem Ass(a:Act):(10:UInt8) ∉ Bt a:=by
 unfold Bt
 split
 ·refine dX fun w hw=>?_
  unfold C8 at hw
  have hi:=Ys
  split at hw
  ·simp only[List.mem_cons,List.not_mem_nil,or_false] at hw
   rcases hw with rfl|rfl|rfl
   ·decide
   ·exact hi _
   ·exact Asr _
  ·split at hw
   ·rcases List.mem_cons.1 hw with rfl|hw
    ·decide
    ·obtain⟨n,_,rfl⟩:=List.mem_map.1 hw;exact hi _
   ·split at hw
    ·simp only[List.mem_cons,List.not_mem_nil,or_false] at hw
     rcases hw with rfl|rfl|rfl
     ·decide
     ·exact hi _
     ·exact hi _
    ·split at hw
     ·rcases List.mem_cons.1 hw with rfl|hw
      ·decide
      ·rcases List.mem_cons.1 hw with rfl|hw
       ·exact hi _
       ·obtain⟨n,_,rfl⟩:=List.mem_map.1 hw;exact hi _
     ·simp only[List.mem_cons,List.not_mem_nil,or_false] at hw
      rcases hw with rfl|rfl
      ·decide
      ·split<;>decide
 ·exact List.not_mem_nil
theorem Ae2(s:Site)(c:UInt8)(h: ¬(48≤c.toNat∧c.toNat≤57))(h45:c≠45)(hs:c ∉ ([115,105,116,101]:List UInt8)):∀ w ∈ Ex s,c ∉ w:=by
 intro w hw
 have hi:=fun n=>Gj (k:=c) h h45 n
 unfold Ex at hw
 simp only[List.mem_cons,List.not_mem_nil,or_false] at hw
 rcases hw with rfl|rfl|rfl|rfl|rfl|rfl|rfl
 ·exact hs
 all_goals exact hi _
theorem Ai6(k:Int)(c:UInt8)(h: ¬(48≤c.toNat∧c.toNat≤57))(h45:c≠45)(hs:c ∉ ([110,101,116]:List UInt8)):∀ w ∈ Nx k,c ∉ w:=by
 intro w hw
 unfold Nx at hw
 simp only[List.mem_cons,List.not_mem_nil,or_false] at hw
 rcases hw with rfl|rfl
 ·exact hs
 ·exact Gj h h45 _
theorem Api(s:Setup):∀ w ∈ Jw s,(10:UInt8) ∉ w:=by
 intro w hw
 unfold Jw at hw
 rcases List.mem_cons.1 hw with rfl|hw
 ·exact dX (Ai6 _ _ (by decide) (by decide) (by decide))
 ·obtain⟨x,_,rfl⟩:=List.mem_map.1 hw
  exact dX (Ae2 _ _ (by decide) (by decide) (by decide))
def scL(x:Setup)(A:List Act):List (List UInt8):=Jw x++A.map Bt
@[irreducible] def scW(x:Setup)(A:List Act):List UInt8:=Jp (scL x A)
theorem Axt(x:Setup)(A:List Act):∀ w ∈ scL x A,(10:UInt8) ∉ w:=by
 intro w hw
 rcases List.mem_append.1 hw with h|h
 ·exact Api _ _ h
 ·obtain⟨a,_,rfl⟩:=List.mem_map.1 h;exact Ass a
theorem Apj(x:Setup)(A:List Act):scL x A≠[]:=by unfold scL Jw;simp
theorem xN:∀ {L:List (List UInt8)},L≠[]→Jp L=Lib.join L [10]++[10]
 |[l],_=>by unfold Jp;simp[Lib.join_one]
 |l::m::L,_=>by
  have ih:=xN (L:=m::L) (by simp)
  unfold Jp at ih ⊢
  rw[List.flatMap_cons,ih,F0]
  simp
@[irreducible] def Jk(s:List UInt8):List UInt8:=if s.getLast? =some 10 then s.dropLast else s
theorem xO(s:List UInt8):(Jk s).length≤s.length:=by
 unfold Jk;split
 ·rw[List.length_dropLast];omega
 ·exact Nat.le_refl _
theorem Ai7(x:Setup)(A:List Act):Aa 10 (Jk (scW x A))=scL x A:=by
 unfold scW
 rw[xN (Apj x A)]
 unfold Jk
 rw[if_pos (by simp),List.dropLast_concat]
 exact F4 (Apj x A) (Axt x A)
theorem Ast(k:Int):Aa 32 (Lib.join (Nx k) [32])=Nx k:=F4 (by unfold Nx;simp) (Ai6 _ _ (by decide) (by decide) (by decide))
theorem Ae3(s:Site):Aa 32 (Lib.join (Ex s) [32])=Ex s:=F4 (by unfold Ex;simp) (Ae2 _ _ (by decide) (by decide) (by decide))
end
end Go.Vc.Z
