/- Scripts' lines: the plain law. -/
import Derived.Test.YtpmpclbdnakniaaGreatDoorV37
import Derived.Test.YtpmpclbdnakniaaGreatDoorV25
set_option linter.all false
set_option maxHeartbeats 8000000
namespace Go.Vc.Z
open Go Go.Vc Go.Proofs Go.RowKit Go.Pl Go.Lib
noncomputable section
def Ei(s:Site):List (List UInt8):=[[115,105,116,101],Lib.itoa s.carrier,Lib.itoa s.first,Lib.itoa s.count,Lib.itoa s.sectors,Lib.itoa s.pages,Lib.itoa s.frames]
def O7(k:Int):List (List UInt8):=[[110,101,116],Lib.itoa k]
@[irreducible] def Md(s:Setup):List (List UInt8):=Lib.join (O7 s.k) [32]::s.sites.map (fun x=>Lib.join (Ei x) [32])
@[irreducible] def Nj(L:List (List UInt8)):List UInt8:=L.flatMap (fun l=>l++[10])
theorem aY(n:Int):(10:UInt8) ∉ Lib.itoa n:=D5 (by decide) (by decide) n
theorem Y0{s:List UInt8}(h:F3 s=true):(10:UInt8) ∉ s:=by
 unfold F3 at h;simp only[Bool.and_eq_true,List.all_eq_true] at h;intro hm;exact absurd (h.1.1 10 hm) (by decide)
theorem As0{s:List UInt8}(h:Gb s=true):(10:UInt8) ∉ s:=by
 unfold Gb at h;simp only[Bool.and_eq_true,List.all_eq_true] at h;intro hm;exact absurd (h.1 10 hm) (by decide)
theorem qV(l:List Coupon):(10:UInt8) ∉ Bu l:=by
 unfold Bu;intro hm;rcases Rh hm with h|⟨s,hs,h⟩
 ·exact absurd h (by decide)
 ·obtain⟨x,_,rfl⟩:=List.mem_map.1 hs;unfold Bi at h;simp only[List.mem_append,List.mem_singleton] at h;rcases h with (((hm|hm)|hm)|hm)|hm
  ·exact aY _ hm
  ·exact absurd hm (by decide)
  ·exact aY _ hm
  ·exact absurd hm (by decide)
  ·exact Ng (by decide) (by decide) (by decide) _ hm
theorem Ah6(l:List Tax):(10:UInt8) ∉ Bm l:=by
 unfold Bm;split
 ·decide
 ·intro hm;rcases Rh hm with h|⟨s,hs,h⟩
  ·exact absurd h (by decide)
  ·obtain⟨x,_,rfl⟩:=List.mem_map.1 hs;unfold E7 at h;simp only[List.mem_append,List.mem_singleton] at h;rcases h with (hm|hm)|hm
   ·exact aY _ hm
   ·exact absurd hm (by decide)
   ·exact Ng (by decide) (by decide) (by decide) _ hm
theorem Ah7{r:Request}(h:Af r=true):∀ w ∈ Bn r,(10:UInt8) ∉ w:=by
 have hD:=aY;have hT:=fun n:Int=>Aqm (k:=10) (by decide) n
 have hA:=fun n:Int=>Ng (k:=10) (by decide) (by decide) (by decide) n
 have hS:=fun n:Int=>uC (k:=10) (by decide) n
 rcases Fg h with k|k|k|k|k|k|k|k|k|k
 ·obtain⟨h1,_,h3,_⟩:=Ha k h;rw[K7 k];simp[hD,Y0 h1,As0 h3,qV,Ah6]
 ·obtain⟨h1,_⟩:=Iw k h;rw[K8 k];simp[hD,hT,hS,Y0 h1]
 ·obtain⟨h1,_⟩:=Ix k h;rw[K9 k];simp[hD,hT,Y0 h1]
 ·obtain⟨h1,_⟩:=Iy k h;rw[La k];simp[hD,hT,hA,Y0 h1]
 ·obtain⟨h1,_⟩:=Hb k h;rw[Lb k];simp[hD,hT,hA,Y0 h1,qV,Ah6]
 ·obtain⟨h1,_⟩:=Iz k h;rw[Lc k];simp[hD,hT,Y0 h1]
 ·obtain⟨h1,_⟩:=I0 k h;rw[Ld k];simp[hD,hT,Y0 h1]
 ·rw[Le k];simp[hT]
 ·have h1:=I1 k h;rw[Lf k];simp[As0 h1]
 ·rw[Jc k];simp[hD]
theorem jE{L:List (List UInt8)}(h:∀ w ∈ L,(10:UInt8) ∉ w):(10:UInt8) ∉ Lib.join L [32]:=by
 intro hm;rcases Rh hm with e|⟨s,hs,e⟩
 ·exact absurd e (by decide)
 ·exact h s hs e
theorem Av7(r:Request):(10:UInt8) ∉ Be r:=by
 unfold Be;split
 ·exact jE (Ah7 (by assumption))
 ·exact List.not_mem_nil
theorem Av8(a:Act):(10:UInt8) ∉ Bh a:=by
 unfold Bh;split
 ·refine jE fun w hw=>?_;unfold Cx at hw;have hi:=aY;split at hw
  ·simp only[List.mem_cons,List.not_mem_nil,or_false] at hw;rcases hw with rfl|rfl|rfl
   ·decide
   ·exact hi _
   ·exact Av7 _
  ·split at hw
   ·rcases List.mem_cons.1 hw with rfl|hw
    ·decide
    ·obtain⟨n,_,rfl⟩:=List.mem_map.1 hw;exact hi _
   ·split at hw
    ·simp only[List.mem_cons,List.not_mem_nil,or_false] at hw;rcases hw with rfl|rfl|rfl
     ·decide
     ·exact hi _
     ·exact hi _
    ·split at hw
     ·rcases List.mem_cons.1 hw with rfl|hw
      ·decide
      ·rcases List.mem_cons.1 hw with rfl|hw
       ·exact hi _
       ·obtain⟨n,_,rfl⟩:=List.mem_map.1 hw;exact hi _
     ·simp only[List.mem_cons,List.not_mem_nil,or_false] at hw;rcases hw with rfl|rfl
      ·decide
      ·split<;>decide
 ·exact List.not_mem_nil
theorem Ah8(s:Site)(c:UInt8)(h: ¬(48≤c.toNat∧c.toNat≤57))(h45:c≠45)(hs:c ∉ ([115,105,116,101]:List UInt8)):∀ w ∈ Ei s,c ∉ w:=by
 intro w hw;have hi:=fun n=>D5 (k:=c) h h45 n;unfold Ei at hw;simp only[List.mem_cons,List.not_mem_nil,or_false] at hw;rcases hw with rfl|rfl|rfl|rfl|rfl|rfl|rfl
 ·exact hs
 all_goals exact hi _
theorem Ame(k:Int)(c:UInt8)(h: ¬(48≤c.toNat∧c.toNat≤57))(h45:c≠45)(hs:c ∉ ([110,101,116]:List UInt8)):∀ w ∈ O7 k,c ∉ w:=by
 intro w hw;unfold O7 at hw;simp only[List.mem_cons,List.not_mem_nil,or_false] at hw;rcases hw with rfl|rfl
 ·exact hs
 ·exact D5 h h45 _
theorem As1(s:Setup):∀ w ∈ Md s,(10:UInt8) ∉ w:=by
 intro w hw;unfold Md at hw;rcases List.mem_cons.1 hw with rfl|hw
 ·exact jE (Ame _ _ (by decide) (by decide) (by decide))
 ·obtain⟨x,_,rfl⟩:=List.mem_map.1 hw;exact jE (Ah8 _ _ (by decide) (by decide) (by decide))
def scL(x:Setup)(A:List Act):List (List UInt8):=Md x++A.map Bh
@[irreducible] def scW(x:Setup)(A:List Act):List UInt8:=Nj (scL x A)
theorem As2(x:Setup)(A:List Act):∀ w ∈ scL x A,(10:UInt8) ∉ w:=by
 intro w hw;rcases List.mem_append.1 hw with h|h
 ·exact As1 _ _ h
 ·obtain⟨a,_,rfl⟩:=List.mem_map.1 h;exact Av8 a
theorem Ac6(x:Setup)(A:List Act):scL x A≠[]:=by unfold scL Md;simp
theorem dI:∀ {L:List (List UInt8)},L≠[]→Nj L=Lib.join L [10]++[10]
 |[l],_=>by unfold Nj;simp[Lib.join_one]
 |l::m::L,_=>by
  have ih:=dI (L:=m::L) (by simp)
  unfold Nj at ih ⊢;rw[List.flatMap_cons,ih,Eu];simp
@[irreducible] def Ko(s:List UInt8):List UInt8:=if s.getLast? =some 10 then s.dropLast else s
theorem dJ(s:List UInt8):(Ko s).length≤s.length:=by
 unfold Ko;split
 ·rw[List.length_dropLast];omega
 ·exact Nat.le_refl _
theorem Av9(x:Setup)(A:List Act):Aa 10 (Ko (scW x A))=scL x A:=by
 unfold scW;rw[dI (Ac6 x A)];unfold Ko;rw[if_pos (by simp),List.dropLast_concat]
 exact Ff (Ac6 x A) (As2 x A)
theorem Awa(k:Int):Aa 32 (Lib.join (O7 k) [32])=O7 k:=Ff (by unfold O7;simp) (Ame _ _ (by decide) (by decide) (by decide))
theorem qW(s:Site):Aa 32 (Lib.join (Ei s) [32])=Ei s:=Ff (by unfold Ei;simp) (Ah8 _ _ (by decide) (by decide) (by decide))
end
end Go.Vc.Z
