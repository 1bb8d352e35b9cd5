/- What is read is what was written: lines of requests. -/
import Derived.Test.YtpmpclbdnakniaaGreatDoorV17
import Derived.Test.YtpmpclbdnakniaaGreatDoorV14
set_option linter.all false
set_option linter.unusedVariables false
set_option linter.unusedSimpArgs false
namespace Go.Vc.Z
open Go Go.Vc Go.Proofs Go.RowKit Go.Pl Go.Lib
theorem aT{l:List Coupon}(h:l≠[]):Aa 44 (Cb l)=l.map Bs:=by
 unfold Cb
 refine Ko (by simpa using h) fun w hw=>?_
 obtain⟨c,_,rfl⟩:=List.mem_map.1 hw
 intro hm
 unfold Bs at hm
 simp only[List.mem_append,List.mem_singleton] at hm
 rcases hm with (((hm|hm)|hm)|hm)|hm
 ·exact Fl (by decide) (by decide) _ hm
 ·exact absurd hm (by decide)
 ·exact Fl (by decide) (by decide) _ hm
 ·exact absurd hm (by decide)
 ·exact Ul (by decide) (by decide) (by decide) _ hm
theorem Wm{s:List UInt8}(h:Gp s=true):(32:UInt8) ∉ s:=by
 unfold Gp at h
 simp only[Bool.and_eq_true,List.all_eq_true] at h
 intro hm
 exact absurd (h.1.1 32 hm) (by decide)
theorem fM(l:List Coupon):(32:UInt8) ∉ Cb l:=by
 unfold Cb
 intro hm
 rcases eY hm with h|⟨s,hs,h⟩
 ·exact absurd h (by decide)
 ·obtain⟨x,_,rfl⟩:=List.mem_map.1 hs
  unfold Bs at h
  simp only[List.mem_append,List.mem_singleton] at h
  rcases h with (((hm|hm)|hm)|hm)|hm
  ·exact Fl (by decide) (by decide) _ hm
  ·exact absurd hm (by decide)
  ·exact Fl (by decide) (by decide) _ hm
  ·exact absurd hm (by decide)
  ·exact Ul (by decide) (by decide) (by decide) _ hm
theorem Gh{r:Request}(h:Af r=true):r.kind=1∨r.kind=2∨r.kind=3∨r.kind=4∨r.kind=5∨r.kind=6∨r.kind=7∨r.kind=8∨r.kind=9∨r.kind=10:=
 kinds (Decidable.byContradiction fun hn=>by rw[Qe hn] at h;cases h)
theorem Abd{r:Request}(h:Af r=true):Bz r≠[]∧∀ w ∈ Bz r,(32:UInt8) ∉ w:=by
 have hD:=fun n:Int=>Fl (k:=32) (by decide) (by decide) n
 have hT:=fun n:Int=>Au5 (k:=32) (by decide) n
 have hA:=fun n:Int=>Ul (k:=32) (by decide) (by decide) (by decide) n
 have hS:=fun n:Int=>Aiv (k:=32) (by decide) n
 rcases Gh h with k|k|k|k|k|k|k|k|k|k
 ·obtain⟨h1,_,h3,_⟩:=Iw k h
  rw[Nm k];simp[hD,Wm h1,Aln h3,fM,Aa3]
 ·obtain⟨h1,_⟩:=Kq k h
  rw[Nn k];simp[hD,hT,hS,Wm h1]
 ·obtain⟨h1,_⟩:=Kr k h
  rw[No k];simp[hD,hT,Wm h1]
 ·obtain⟨h1,_⟩:=Ks k h
  rw[Np k];simp[hD,hT,hA,Wm h1]
 ·obtain⟨h1,_⟩:=Ix k h
  rw[Nq k];simp[hD,hT,hA,Wm h1,fM,Aa3]
 ·obtain⟨h1,_⟩:=Kt k h
  rw[Nr k];simp[hD,hT,Wm h1]
 ·obtain⟨h1,_⟩:=Ku k h
  rw[Ns k];simp[hD,hT,Wm h1]
 ·rw[Nt k];simp[hT]
 ·have h1:=Kv k h
  rw[Nu k];simp[Aln h1]
 ·rw[Lg k];simp[hD]
theorem Abe{r:Request}(h:Af r=true)(hf:A0 [.agg r.enc]):(Lib.join (Bz r) [32]).length≤20000:=by
 have hc:A0 [slE 6 Coupon.enc r.coupons]:=⟨hf.1.2.2.2.2.2.2.2.1,True.intro⟩
 have ht:A0 [slE 2 Tax.enc r.taxes]:=⟨hf.1.2.2.2.2.2.2.2.2.1,True.intro⟩
 simp only[A0,Bg,Ak,Go.Vc.lo,Go.Vc.hi,and_true] at hf
 have lT:=F5 r.ticket
 have lS:=aM r.status
 have lA:=Hl r.amount
 have lD:=Bv r.day (by omega) (by omega)
 have lN:=Bv r.coupon (by omega) (by omega)
 have lR:=Bv r.frm (by omega) (by omega)
 have lQ:=Bv r.til (by omega) (by omega)
 have jW:∀ m:Int,m≤12→Fh m r.coupons=true→(Cb r.coupons).length≤3000:=fun m hm hj=>by
  obtain⟨j1,j2,j3⟩:=Em hj
  unfold Cb;have:=X4 (l:=r.coupons) hc (by omega) r.coupons.length;rwa[List.take_length] at this
 have jX:Dg r.taxes=true→(By r.taxes).length≤1000:=fun hx=>Wb (Ho hx).1 (P5 ht)
 have hW:Lib.join (Bz r) [32]=Bf r:=by unfold Bf;rw[if_pos h]
 rw[hW]
 rcases Gh h with k|k|k|k|k|k|k|k|k|k
 ·obtain⟨h1,_,h3,h4,h5⟩:=Iw k h
  have:=E8 h1;have:=Uh h3;have:=jW 12 (by decide) h4;have:=jX h5
  rw[Afg k h];simp;omega
 ·obtain⟨h1,_⟩:=Kq k h
  have:=E8 h1
  rw[Alu k h];simp;omega
 ·obtain⟨h1,_⟩:=Kr k h
  have:=E8 h1
  rw[Alv k h];simp;omega
 ·obtain⟨h1,_⟩:=Ks k h
  have:=E8 h1
  rw[Alw k h];simp;omega
 ·obtain⟨h1,_,_,_,h4,h5⟩:=Ix k h
  have:=E8 h1;have:=jW 4 (by decide) h4;have:=jX h5
  rw[Alx k h];simp;omega
 ·obtain⟨h1,_⟩:=Kt k h
  have:=E8 h1
  rw[Aly k h];simp;omega
 ·obtain⟨h1,_⟩:=Ku k h
  have:=E8 h1
  rw[Alz k h];simp;omega
 ·rw[Al0 k h];simp;omega
 ·have h1:=Kv k h
  have:=Uh h1
  rw[Al1 k h];simp;omega
 ·rw[Agk k h];simp;omega
theorem Jy{r:Request}(h:Af r=true):Aa 32 (Bf r)=Bz r:=by
 obtain⟨h1,h2⟩:=Abd h
 unfold Bf
 rw[if_pos h]
 exact Ko h1 h2
end Go.Vc.Z
