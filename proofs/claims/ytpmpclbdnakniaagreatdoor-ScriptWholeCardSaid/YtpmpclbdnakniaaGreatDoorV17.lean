/- What is read is what was written: lines of requests. -/
import Derived.Test.YtpmpclbdnakniaaGreatDoorV16
import Derived.Test.YtpmpclbdnakniaaGreatDoorV14
set_option linter.all false
set_option linter.unusedVariables false
set_option linter.unusedSimpArgs false
namespace Go.Vc.Z
open Go Go.Vc Go.Proofs Go.RowKit Go.Pl Go.Lib
theorem Ace{l:List Coupon}(h:l≠[]):Aa 44 (Cf l)=l.map Bv:=by
 unfold Cf
 refine F4 (by simpa using h) fun w hw=>?_
 obtain⟨c,_,rfl⟩:=List.mem_map.1 hw
 intro hm
 unfold Bv at hm
 simp only[List.mem_append,List.mem_singleton] at hm
 rcases hm with (((hm|hm)|hm)|hm)|hm
 ·exact Gj (by decide) (by decide) _ hm
 ·exact absurd hm (by decide)
 ·exact Gj (by decide) (by decide) _ hm
 ·exact absurd hm (by decide)
 ·exact Q2 (by decide) (by decide) (by decide) _ hm
theorem Wl{s:List UInt8}(h:Fp s=true):(32:UInt8) ∉ s:=by
 unfold Fp at h
 simp only[Bool.and_eq_true,List.all_eq_true] at h
 intro hm
 exact absurd (h.1.1 32 hm) (by decide)
theorem gW(l:List Coupon):(32:UInt8) ∉ Cf l:=by
 unfold Cf
 intro hm
 rcases P7 hm with h|⟨s,hs,h⟩
 ·exact absurd h (by decide)
 ·obtain⟨x,_,rfl⟩:=List.mem_map.1 hs
  unfold Bv at h
  simp only[List.mem_append,List.mem_singleton] at h
  rcases h with (((hm|hm)|hm)|hm)|hm
  ·exact Gj (by decide) (by decide) _ hm
  ·exact absurd hm (by decide)
  ·exact Gj (by decide) (by decide) _ hm
  ·exact absurd hm (by decide)
  ·exact Q2 (by decide) (by decide) (by decide) _ hm
theorem F5{r:Request}(h:Ah r=true):r.kind=1∨r.kind=2∨r.kind=3∨r.kind=4∨r.kind=5∨r.kind=6∨r.kind=7∨r.kind=8∨r.kind=9∨r.kind=10:=
 kinds (Decidable.byContradiction fun hn=>by rw[P9 hn] at h;cases h)
theorem Acf{r:Request}(h:Ah r=true):Br r≠[]∧∀ w ∈ Br r,(32:UInt8) ∉ w:=by
 have hD:=fun n:Int=>Gj (k:=32) (by decide) (by decide) n
 have hT:=fun n:Int=>Ang (k:=32) (by decide) n
 have hA:=fun n:Int=>Q2 (k:=32) (by decide) (by decide) (by decide) n
 have hS:=fun n:Int=>qD (k:=32) (by decide) n
 rcases F5 h with k|k|k|k|k|k|k|k|k|k
 ·obtain⟨h1,_,h3,_⟩:=H9 k h
  rw[Ke k];simp[hD,Wl h1,Anj h3,gW,Ab2]
 ·obtain⟨h1,_⟩:=Kf k h
  rw[Kg k];simp[hD,hT,hS,Wl h1]
 ·obtain⟨h1,_⟩:=Kh k h
  rw[Ki k];simp[hD,hT,Wl h1]
 ·obtain⟨h1,_⟩:=Kj k h
  rw[Kk k];simp[hD,hT,hA,Wl h1]
 ·obtain⟨h1,_⟩:=Ia k h
  rw[Kl k];simp[hD,hT,hA,Wl h1,gW,Ab2]
 ·obtain⟨h1,_⟩:=Km k h
  rw[Kn k];simp[hD,hT,Wl h1]
 ·obtain⟨h1,_⟩:=Ko k h
  rw[Kp k];simp[hD,hT,Wl h1]
 ·rw[Kq k];simp[hT]
 ·have h1:=Kr k h
  rw[Ks k];simp[Anj h1]
 ·rw[Io k];simp[hD]
theorem Acg{r:Request}(h:Ah r=true)(hf:Ax [.agg r.enc]):(Lib.join (Br r) [32]).length≤20000:=by
 have hc:Ax [slE 6 Coupon.enc r.coupons]:=⟨hf.1.2.2.2.2.2.2.2.1,True.intro⟩
 have ht:Ax [slE 2 Tax.enc r.taxes]:=⟨hf.1.2.2.2.2.2.2.2.2.1,True.intro⟩
 simp only[Ax,Bh,Am,Go.Vc.lo,Go.Vc.hi,and_true] at hf
 have lT:=Fi r.ticket
 have lS:=bH r.status
 have lA:=G5 r.amount
 have lD:=Bl r.day (by omega) (by omega)
 have lN:=Bl r.coupon (by omega) (by omega)
 have lR:=Bl r.frm (by omega) (by omega)
 have lQ:=Bl r.til (by omega) (by omega)
 have jW:∀ m:Int,m≤12→E8 m r.coupons=true→(Cf r.coupons).length≤3000:=fun m hm hj=>by
  obtain⟨j1,j2,j3⟩:=Ev hj
  unfold Cf;have:=X7 (l:=r.coupons) hc (by omega) r.coupons.length;rwa[List.take_length] at this
 have jX:De r.taxes=true→(B7 r.taxes).length≤1000:=fun hx=>Wd (G8 hx).1 (P0 ht)
 have hW:Lib.join (Br r) [32]=Bu r:=by unfold Bu;rw[if_pos h]
 rw[hW]
 rcases F5 h with k|k|k|k|k|k|k|k|k|k
 ·obtain⟨h1,_,h3,h4,h5⟩:=H9 k h
  have:=Eu h1;have:=Ub h3;have:=jW 12 (by decide) h4;have:=jX h5
  rw[Ago k h];simp;omega
 ·obtain⟨h1,_⟩:=Kf k h
  have:=Eu h1
  rw[Anq k h];simp;omega
 ·obtain⟨h1,_⟩:=Kh k h
  have:=Eu h1
  rw[Anr k h];simp;omega
 ·obtain⟨h1,_⟩:=Kj k h
  have:=Eu h1
  rw[Ans k h];simp;omega
 ·obtain⟨h1,_,_,_,h4,h5⟩:=Ia k h
  have:=Eu h1;have:=jW 4 (by decide) h4;have:=jX h5
  rw[Ant k h];simp;omega
 ·obtain⟨h1,_⟩:=Km k h
  have:=Eu h1
  rw[Anu k h];simp;omega
 ·obtain⟨h1,_⟩:=Ko k h
  have:=Eu h1
  rw[Anv k h];simp;omega
 ·rw[Anw k h];simp;omega
 ·have h1:=Kr k h
  have:=Ub h1
  rw[Anx k h];simp;omega
 ·rw[Ahz k h];simp;omega
theorem I8{r:Request}(h:Ah r=true):Aa 32 (Bu r)=Br r:=by
 obtain⟨h1,h2⟩:=Acf h
 unfold Bu
 rw[if_pos h]
 exact F4 h1 h2
end Go.Vc.Z
