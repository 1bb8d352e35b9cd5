/- Scripts' lines: the plain law. -/
import Derived.Test.YtpmpclbdnakniaaGreatDoorV36
import Derived.Test.YtpmpclbdnakniaaGreatDoorV24
set_option linter.all false
set_option linter.unusedVariables false
set_option linter.unusedSimpArgs false
namespace Go.Vc.Z
open Go Go.Vc Go.Proofs Go.RowKit Go.Pl Go.Lib
noncomputable section
def A8(s:Site):List (List UInt8):=[[115,105,116,101],Lib.itoa s.carrier,Lib.itoa s.first,Lib.itoa s.count,Lib.itoa s.sectors,Lib.itoa s.pages,Lib.itoa s.frames]
def Ep(k:Int):List (List UInt8):=[[110,101,116],Lib.itoa k]
@[irreducible] def C1(s:Setup):List (List UInt8):=Lib.join (Ep s.k) [32]::s.sites.map (fun x=>Lib.join (A8 x) [32])
@[irreducible] def D4(L:List (List UInt8)):List UInt8:=L.flatMap (fun l=>l++[10])
theorem S5(n:Int):(10:UInt8) ∉ Lib.itoa n:=Fu (by decide) (by decide) n
theorem Rk{s:List UInt8}(h:Gb s=true):(10:UInt8) ∉ s:=by
 unfold Gb at h
 simp only[Bool.and_eq_true,List.all_eq_true] at h
 intro hm
 exact absurd (h.1.1 10 hm) (by decide)
theorem Ahc{s:List UInt8}(h:G4 s=true):(10:UInt8) ∉ s:=by
 unfold G4 at h
 simp only[Bool.and_eq_true,List.all_eq_true] at h
 intro hm
 exact absurd (h.1 10 hm) (by decide)
theorem cJ(l:List Coupon):(10:UInt8) ∉ Ct l:=by
 unfold Ct
 intro hm
 rcases Mr hm with h|⟨s,hs,h⟩
 ·exact absurd h (by decide)
 ·obtain⟨x,_,rfl⟩:=List.mem_map.1 hs
  unfold B0 at h
  simp only[List.mem_append,List.mem_singleton] at h
  rcases h with (((hm|hm)|hm)|hm)|hm
  ·exact S5 _ hm
  ·exact absurd hm (by decide)
  ·exact S5 _ hm
  ·exact absurd hm (by decide)
  ·exact Nj (by decide) (by decide) (by decide) _ hm
theorem wO(l:List Tax):(10:UInt8) ∉ B9 l:=by
 unfold B9
 split
 ·decide
 ·intro hm
  rcases Mr hm with h|⟨s,hs,h⟩
  ·exact absurd h (by decide)
  ·obtain⟨x,_,rfl⟩:=List.mem_map.1 hs
   unfold Gh at h
   simp only[List.mem_append,List.mem_singleton] at h
   rcases h with (hm|hm)|hm
   ·exact S5 _ hm
   ·exact absurd hm (by decide)
   ·exact Nj (by decide) (by decide) (by decide) _ hm
theorem wP{r:Request}(h:Ah r=true):∀ w ∈ Bn r,(10:UInt8) ∉ w:=by
 have hD:=S5
 have hT:=fun n:Int=>Afj (k:=10) (by decide) n
 have hA:=fun n:Int=>Nj (k:=10) (by decide) (by decide) (by decide) n
 have hS:=fun n:Int=>eS (k:=10) (by decide) n
 rcases Fh h with k|k|k|k|k|k|k|k|k|k
 ·obtain⟨h1,_,h3,_⟩:=Ih k h
  rw[Ii k];simp[hD,Rk h1,Ahc h3,cJ,wO]
 ·obtain⟨h1,_⟩:=Kp k h
  rw[Ij k];simp[hD,hT,hS,Rk h1]
 ·obtain⟨h1,_⟩:=Kq k h
  rw[Ik k];simp[hD,hT,Rk h1]
 ·obtain⟨h1,_⟩:=Kr k h
  rw[Il k];simp[hD,hT,hA,Rk h1]
 ·obtain⟨h1,_⟩:=Im k h
  rw[Io k];simp[hD,hT,hA,Rk h1,cJ,wO]
 ·obtain⟨h1,_⟩:=Ks k h
  rw[Ip k];simp[hD,hT,Rk h1]
 ·obtain⟨h1,_⟩:=Kt k h
  rw[Iq k];simp[hD,hT,Rk h1]
 ·rw[Ir k];simp[hT]
 ·have h1:=Ku k h
  rw[Is k];simp[Ahc h1]
 ·rw[G6 k];simp[hD]
theorem Xb{L:List (List UInt8)}(h:∀ w ∈ L,(10:UInt8) ∉ w):(10:UInt8) ∉ Lib.join L [32]:=by
 intro hm
 rcases Mr hm with e|⟨s,hs,e⟩
 ·exact absurd e (by decide)
 ·exact h s hs e
theorem Ajy(r:Request):(10:UInt8) ∉ Bq r:=by
 unfold Bq
 split
 ·exact Xb (wP (by assumption))
 ·exact List.not_mem_nil
theorem Ajz(a:Act):(10:UInt8) ∉ Au a:=by
 unfold Au
 split
 ·refine Xb fun w hw=>?_
  unfold Dt at hw
  have hi:=S5
  split at hw
  ·simp only[List.mem_cons,List.not_mem_nil,or_false] at hw
   rcases hw with rfl|rfl|rfl
   ·decide
   ·exact hi _
   ·exact Ajy _
  ·split at hw
   ·rcases List.mem_cons.1 hw with rfl|hw
    ·decide
    ·obtain⟨n,_,rfl⟩:=List.mem_map.1 hw;exact hi _
   ·split at hw
    ·simp only[List.mem_cons,List.not_mem_nil,or_false] at hw
     rcases hw with rfl|rfl|rfl
     ·decide
     ·exact hi _
     ·exact hi _
    ·split at hw
     ·rcases List.mem_cons.1 hw with rfl|hw
      ·decide
      ·rcases List.mem_cons.1 hw with rfl|hw
       ·exact hi _
       ·obtain⟨n,_,rfl⟩:=List.mem_map.1 hw;exact hi _
     ·simp only[List.mem_cons,List.not_mem_nil,or_false] at hw
      rcases hw with rfl|rfl
      ·decide
      ·split<;>decide
 ·exact List.not_mem_nil
theorem wR(s:Site)(c:UInt8)(h: ¬(48≤c.toNat∧c.toNat≤57))(h45:c≠45)(hs:c ∉ ([115,105,116,101]:List UInt8)):∀ w ∈ A8 s,c ∉ w:=by
 intro w hw
 have hi:=fun n=>Fu (k:=c) h h45 n
 unfold A8 at hw
 simp only[List.mem_cons,List.not_mem_nil,or_false] at hw
 rcases hw with rfl|rfl|rfl|rfl|rfl|rfl|rfl
 ·exact hs
 all_goals exact hi _
theorem Abj(k:Int)(c:UInt8)(h: ¬(48≤c.toNat∧c.toNat≤57))(h45:c≠45)(hs:c ∉ ([110,101,116]:List UInt8)):∀ w ∈ Ep k,c ∉ w:=by
 intro w hw
 unfold Ep at hw
 simp only[List.mem_cons,List.not_mem_nil,or_false] at hw
 rcases hw with rfl|rfl
 ·exact hs
 ·exact Fu h h45 _
theorem Ahd(s:Setup):∀ w ∈ C1 s,(10:UInt8) ∉ w:=by
 intro w hw
 unfold C1 at hw
 rcases List.mem_cons.1 hw with rfl|hw
 ·exact Xb (Abj _ _ (by decide) (by decide) (by decide))
 ·obtain⟨x,_,rfl⟩:=List.mem_map.1 hw
  exact Xb (wR _ _ (by decide) (by decide) (by decide))
def scL(x:Setup)(A:List Act):List (List UInt8):=C1 x++A.map Au
@[irreducible] def scW(x:Setup)(A:List Act):List UInt8:=D4 (scL x A)
theorem Aos(x:Setup)(A:List Act):∀ w ∈ scL x A,(10:UInt8) ∉ w:=by
 intro w hw
 rcases List.mem_append.1 hw with h|h
 ·exact Ahd _ _ h
 ·obtain⟨a,_,rfl⟩:=List.mem_map.1 h;exact Ajz a
theorem Ahe(x:Setup)(A:List Act):scL x A≠[]:=by unfold scL C1;simp
theorem nU:∀ {L:List (List UInt8)},L≠[]→D4 L=Lib.join L [10]++[10]
 |[l],_=>by unfold D4;simp[Lib.join_one]
 |l::m::L,_=>by
  have ih:=nU (L:=m::L) (by simp)
  unfold D4 at ih ⊢
  rw[List.flatMap_cons,ih,Fe]
  simp
@[irreducible] def N4(s:List UInt8):List UInt8:=if s.getLast? =some 10 then s.dropLast else s
theorem Adj(s:List UInt8):(N4 s).length≤s.length:=by
 unfold N4;split
 ·rw[List.length_dropLast];omega
 ·exact Nat.le_refl _
theorem Aj0(x:Setup)(A:List Act):Aa 10 (N4 (scW x A))=scL x A:=by
 unfold scW
 rw[nU (Ahe x A)]
 unfold N4
 rw[if_pos (by simp),List.dropLast_concat]
 exact Fg (Ahe x A) (Aos x A)
theorem Aj1(k:Int):Aa 32 (Lib.join (Ep k) [32])=Ep k:=Fg (by unfold Ep;simp) (Abj _ _ (by decide) (by decide) (by decide))
theorem wT(s:Site):Aa 32 (Lib.join (A8 s) [32])=A8 s:=Fg (by unfold A8;simp) (wR _ _ (by decide) (by decide) (by decide))
end
end Go.Vc.Z
