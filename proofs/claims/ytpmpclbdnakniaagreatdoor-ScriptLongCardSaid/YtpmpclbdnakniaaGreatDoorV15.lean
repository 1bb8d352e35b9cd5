/- The line of a request, the document's. -/
import Derived.Test.YtpmpclbdnakniaaGreatDoorV13
import Derived.Test.YtpmpclbdnakniaaGreatDoorV14
set_option linter.all false
set_option linter.unusedVariables false
set_option linter.unusedSimpArgs false
namespace Go.Vc.Z
open Go Go.Vc Go.Proofs Go.RowKit Go.Pl Go.Lib
noncomputable section
set_option maxRecDepth 100000
attribute [local irreducible] inK Utf8.decode Utf8.encode Lib.itoa Pl.worth Pl.allDig
attribute [local irreducible] Lib.join
@[irreducible] def Ct(l:List Coupon):List UInt8:=Lib.join (l.map B0) [44]
theorem Va{l:List Coupon}(h:Bl [slE 6 Coupon.enc l]):∀ c ∈ l,(B0 c).length≤200:=by
 intro c hc
 obtain⟨i,hi,rfl⟩:=List.getElem_of_mem hc
 simp only[Bl,Cm] at h
 have h1:=h.1.2 i hi
 rw[List.getD_eq_getElem?_getD,List.getElem?_eq_getElem hi] at h1
 simp only[Option.getD_some] at h1
 have l1:=sD (c:=l[i]) (Ar.1 h1.2.1) (Ar.1 h1.2.2.1)
 omega
theorem Afn{l:List Coupon}(h:Bl [slE 6 Coupon.enc l])(hl:l.length≤12)(i:Nat):(Lib.join ((l.take i).map B0) [44]).length≤3000:=by
 have hw:=Va h
 have hj:=Ng [44] 200 ((l.take i).map B0) (fun s hs=>by
  obtain⟨c,hc,rfl⟩:=List.mem_map.1 hs
  exact hw c (List.mem_of_mem_take hc))
 have h4:((l.take i).map B0).length≤12:=by simp;omega
 have:=Nat.mul_le_mul_right (200+[(44:UInt8)].length) h4
 simp only[List.length_cons,List.length_nil] at this hj
 omega
theorem F1(r:Request):Az r 75=Gb r.key:=by unfold Az;rw[if_pos rfl]
theorem F2(r:Request):Az r 68=Gl r.day:=by unfold Az;rw[if_neg (by decide),if_pos rfl]
theorem Jf(r:Request):Az r 76=G4 r.locator:=by unfold Az;rw[if_neg (by decide),if_neg (by decide),if_pos rfl]
theorem F3(r:Request):Az r 84=E7 r.ticket:=by unfold Az;rw[if_neg (by decide),if_neg (by decide),if_neg (by decide),if_pos rfl]
theorem Ig(r:Request):Az r 78=(decide (1≤r.coupon)&&decide (r.coupon≤4)):=by unfold Az;rw[if_neg (by decide),if_neg (by decide),if_neg (by decide),if_neg (by decide),if_pos rfl]
theorem Kl(r:Request):Az r 83=Iz r.status:=by unfold Az;rw[if_neg (by decide),if_neg (by decide),if_neg (by decide),if_neg (by decide),if_neg (by decide),if_pos rfl]
theorem Jg(r:Request):Az r 65=D2 r.amount:=by unfold Az;rw[if_neg (by decide),if_neg (by decide),if_neg (by decide),if_neg (by decide),if_neg (by decide),if_neg (by decide),if_pos rfl]
theorem Km(r:Request):Az r 74=Gf 12 r.coupons:=by unfold Az;rw[if_neg (by decide),if_neg (by decide),if_neg (by decide),if_neg (by decide),if_neg (by decide),if_neg (by decide),if_neg (by decide),if_pos rfl]
theorem Kn(r:Request):Az r 67=Gf 4 r.coupons:=by unfold Az;rw[if_neg (by decide),if_neg (by decide),if_neg (by decide),if_neg (by decide),if_neg (by decide),if_neg (by decide),if_neg (by decide),if_neg (by decide),if_pos rfl]
theorem Jh(r:Request):Az r 88=Dv r.taxes:=by unfold Az;rw[if_neg (by decide),if_neg (by decide),if_neg (by decide),if_neg (by decide),if_neg (by decide),if_neg (by decide),if_neg (by decide),if_neg (by decide),if_neg (by decide),if_pos rfl]
theorem Ko(r:Request):Az r 82=(Gl r.frm&&Gl r.til):=by unfold Az;rw[if_neg (by decide),if_neg (by decide),if_neg (by decide),if_neg (by decide),if_neg (by decide),if_neg (by decide),if_neg (by decide),if_neg (by decide),if_neg (by decide),if_neg (by decide)]
def Bn(r:Request):List (List UInt8):=cond (eqI r.kind 1) [[105,115,115,117,101],r.key,Lib.itoa r.day,r.locator,Ct r.coupons,B9 r.taxes] (cond (eqI r.kind 2) [[109,111,118,101],r.key,Lib.itoa r.day,Ay r.ticket,Lib.itoa r.coupon,Do r.status] (cond (eqI r.kind 3) [[118,111,105,100],r.key,Lib.itoa r.day,Ay r.ticket] (cond (eqI r.kind 4) [[114,101,102,117,110,100],r.key,Lib.itoa r.day,Ay r.ticket,D3 r.amount] (cond (eqI r.kind 5) [[101,120,99,104,97,110,103,101],r.key,Lib.itoa r.day,Ay r.ticket,D3 r.amount,Ct r.coupons,B9 r.taxes] (cond (eqI r.kind 6) [[97,115,107],r.key,Lib.itoa r.day,Ay r.ticket,Lib.itoa r.coupon] (cond (eqI r.kind 7) [[114,101,116,117,114,110],r.key,Lib.itoa r.day,Ay r.ticket,Lib.itoa r.coupon] (cond (eqI r.kind 8) [[115,104,111,119],Ay r.ticket] (cond (eqI r.kind 9) [[102,105,110,100],r.locator] (cond (eqI r.kind 10) [[114,101,112,111,114,116],Lib.itoa r.frm,Lib.itoa r.til] ([]))))))))))
@[irreducible] def Bq(r:Request):List UInt8:=if Ah r=true then Lib.join (Bn r) [32] else []
theorem Aic{r:Request}(h:Ah r=false):Bq r=[]:=by unfold Bq;rw[h];rfl
theorem Ih{r:Request}(h:r.kind=1)(hm:Ah r=true):Gb r.key=true∧Gl r.day=true∧G4 r.locator=true∧Gf 12 r.coupons=true∧Dv r.taxes=true:=by
 rw[R9 h] at hm
 simp only[F1,F2,Jf,Km,Jh,Bool.and_eq_true,decide_eq_true_eq] at hm
 simp only[hm,and_self]
theorem Ii{r:Request}(h:r.kind=1):Bn r=[[105,115,115,117,101],r.key,Lib.itoa r.day,r.locator,Ct r.coupons,B9 r.taxes]:=by unfold Bn;rw[h];rfl
theorem Afo{r:Request}(h:r.kind=1)(hm:Ah r=true):Bq r=[105,115,115,117,101]++[32]++r.key++[32]++Lib.itoa r.day++[32]++r.locator++[32]++Ct r.coupons++[32]++B9 r.taxes:=by
 unfold Bq
 rw[if_pos hm,Ii h]
 simp only[Fe,Lib.join_one,List.append_assoc,List.cons_append,List.nil_append]
theorem Kp{r:Request}(h:r.kind=2)(hm:Ah r=true):Gb r.key=true∧Gl r.day=true∧E7 r.ticket=true∧(1≤r.coupon∧r.coupon≤4)∧Iz r.status=true:=by
 rw[Yh h] at hm
 simp only[F1,F2,F3,Ig,Kl,Bool.and_eq_true,decide_eq_true_eq] at hm
 simp only[hm,and_self]
theorem Ij{r:Request}(h:r.kind=2):Bn r=[[109,111,118,101],r.key,Lib.itoa r.day,Ay r.ticket,Lib.itoa r.coupon,Do r.status]:=by unfold Bn;rw[h];rfl
theorem An7{r:Request}(h:r.kind=2)(hm:Ah r=true):Bq r=[109,111,118,101]++[32]++r.key++[32]++Lib.itoa r.day++[32]++Ay r.ticket++[32]++Lib.itoa r.coupon++[32]++Do r.status:=by
 unfold Bq
 rw[if_pos hm,Ij h]
 simp only[Fe,Lib.join_one,List.append_assoc,List.cons_append,List.nil_append]
theorem Kq{r:Request}(h:r.kind=3)(hm:Ah r=true):Gb r.key=true∧Gl r.day=true∧E7 r.ticket=true:=by
 rw[Yi h] at hm
 simp only[F1,F2,F3,Bool.and_eq_true,decide_eq_true_eq] at hm
 simp only[hm,and_self]
theorem Ik{r:Request}(h:r.kind=3):Bn r=[[118,111,105,100],r.key,Lib.itoa r.day,Ay r.ticket]:=by unfold Bn;rw[h];rfl
theorem An8{r:Request}(h:r.kind=3)(hm:Ah r=true):Bq r=[118,111,105,100]++[32]++r.key++[32]++Lib.itoa r.day++[32]++Ay r.ticket:=by
 unfold Bq
 rw[if_pos hm,Ik h]
 simp only[Fe,Lib.join_one,List.append_assoc,List.cons_append,List.nil_append]
theorem Kr{r:Request}(h:r.kind=4)(hm:Ah r=true):Gb r.key=true∧Gl r.day=true∧E7 r.ticket=true∧D2 r.amount=true:=by
 rw[Yj h] at hm
 simp only[F1,F2,F3,Jg,Bool.and_eq_true,decide_eq_true_eq] at hm
 simp only[hm,and_self]
theorem Il{r:Request}(h:r.kind=4):Bn r=[[114,101,102,117,110,100],r.key,Lib.itoa r.day,Ay r.ticket,D3 r.amount]:=by unfold Bn;rw[h];rfl
theorem An9{r:Request}(h:r.kind=4)(hm:Ah r=true):Bq r=[114,101,102,117,110,100]++[32]++r.key++[32]++Lib.itoa r.day++[32]++Ay r.ticket++[32]++D3 r.amount:=by
 unfold Bq
 rw[if_pos hm,Il h]
 simp only[Fe,Lib.join_one,List.append_assoc,List.cons_append,List.nil_append]
theorem Im{r:Request}(h:r.kind=5)(hm:Ah r=true):Gb r.key=true∧Gl r.day=true∧E7 r.ticket=true∧D2 r.amount=true∧Gf 4 r.coupons=true∧Dv r.taxes=true:=by
 rw[Yk h] at hm
 simp only[F1,F2,F3,Jg,Kn,Jh,Bool.and_eq_true,decide_eq_true_eq] at hm
 simp only[hm,and_self]
theorem Io{r:Request}(h:r.kind=5):Bn r=[[101,120,99,104,97,110,103,101],r.key,Lib.itoa r.day,Ay r.ticket,D3 r.amount,Ct r.coupons,B9 r.taxes]:=by unfold Bn;rw[h];rfl
theorem Aoa{r:Request}(h:r.kind=5)(hm:Ah r=true):Bq r=[101,120,99,104,97,110,103,101]++[32]++r.key++[32]++Lib.itoa r.day++[32]++Ay r.ticket++[32]++D3 r.amount++[32]++Ct r.coupons++[32]++B9 r.taxes:=by
 unfold Bq
 rw[if_pos hm,Io h]
 simp only[Fe,Lib.join_one,List.append_assoc,List.cons_append,List.nil_append]
theorem Ks{r:Request}(h:r.kind=6)(hm:Ah r=true):Gb r.key=true∧Gl r.day=true∧E7 r.ticket=true∧(1≤r.coupon∧r.coupon≤4):=by
 rw[Yl h] at hm
 simp only[F1,F2,F3,Ig,Bool.and_eq_true,decide_eq_true_eq] at hm
 simp only[hm,and_self]
theorem Ip{r:Request}(h:r.kind=6):Bn r=[[97,115,107],r.key,Lib.itoa r.day,Ay r.ticket,Lib.itoa r.coupon]:=by unfold Bn;rw[h];rfl
theorem Aob{r:Request}(h:r.kind=6)(hm:Ah r=true):Bq r=[97,115,107]++[32]++r.key++[32]++Lib.itoa r.day++[32]++Ay r.ticket++[32]++Lib.itoa r.coupon:=by
 unfold Bq
 rw[if_pos hm,Ip h]
 simp only[Fe,Lib.join_one,List.append_assoc,List.cons_append,List.nil_append]
theorem Kt{r:Request}(h:r.kind=7)(hm:Ah r=true):Gb r.key=true∧Gl r.day=true∧E7 r.ticket=true∧(1≤r.coupon∧r.coupon≤4):=by
 rw[Ym h] at hm
 simp only[F1,F2,F3,Ig,Bool.and_eq_true,decide_eq_true_eq] at hm
 simp only[hm,and_self]
theorem Iq{r:Request}(h:r.kind=7):Bn r=[[114,101,116,117,114,110],r.key,Lib.itoa r.day,Ay r.ticket,Lib.itoa r.coupon]:=by unfold Bn;rw[h];rfl
theorem Aoc{r:Request}(h:r.kind=7)(hm:Ah r=true):Bq r=[114,101,116,117,114,110]++[32]++r.key++[32]++Lib.itoa r.day++[32]++Ay r.ticket++[32]++Lib.itoa r.coupon:=by
 unfold Bq
 rw[if_pos hm,Iq h]
 simp only[Fe,Lib.join_one,List.append_assoc,List.cons_append,List.nil_append]
theorem Yr{r:Request}(h:r.kind=8)(hm:Ah r=true):E7 r.ticket=true:=by
 rw[Yn h] at hm
 simp only[F3,Bool.and_eq_true,decide_eq_true_eq] at hm
 simp only[hm,and_self]
theorem Ir{r:Request}(h:r.kind=8):Bn r=[[115,104,111,119],Ay r.ticket]:=by unfold Bn;rw[h];rfl
theorem Aod{r:Request}(h:r.kind=8)(hm:Ah r=true):Bq r=[115,104,111,119]++[32]++Ay r.ticket:=by
 unfold Bq
 rw[if_pos hm,Ir h]
 simp only[Fe,Lib.join_one,List.append_assoc,List.cons_append,List.nil_append]
theorem Ku{r:Request}(h:r.kind=9)(hm:Ah r=true):G4 r.locator=true:=by
 rw[Yo h] at hm
 simp only[Jf,Bool.and_eq_true,decide_eq_true_eq] at hm
 simp only[hm,and_self]
theorem Is{r:Request}(h:r.kind=9):Bn r=[[102,105,110,100],r.locator]:=by unfold Bn;rw[h];rfl
theorem Aoe{r:Request}(h:r.kind=9)(hm:Ah r=true):Bq r=[102,105,110,100]++[32]++r.locator:=by
 unfold Bq
 rw[if_pos hm,Is h]
 simp only[Fe,Lib.join_one,List.append_assoc,List.cons_append,List.nil_append]
theorem Vb{r:Request}(h:r.kind=10)(hm:Ah r=true):(Gl r.frm=true∧Gl r.til=true):=by
 rw[Ub h] at hm
 simp only[Ko,Bool.and_eq_true,decide_eq_true_eq] at hm
 simp only[hm,and_self]
theorem G6{r:Request}(h:r.kind=10):Bn r=[[114,101,112,111,114,116],Lib.itoa r.frm,Lib.itoa r.til]:=by unfold Bn;rw[h];rfl
theorem Aid{r:Request}(h:r.kind=10)(hm:Ah r=true):Bq r=[114,101,112,111,114,116]++[32]++Lib.itoa r.frm++[32]++Lib.itoa r.til:=by
 unfold Bq
 rw[if_pos hm,G6 h]
 simp only[Fe,Lib.join_one,List.append_assoc,List.cons_append,List.nil_append]
theorem Kv{s:List UInt8}(h:Gb s=true):s.length≤16:=by
 unfold Gb at h;simp only[Bool.and_eq_true,decide_eq_true_eq] at h;omega
theorem F4{m:Int}{l:List Coupon}(h:Gf m l=true):1≤l.length∧(l.length:Int)≤m∧∀ c ∈ l,Nc c 0=true:=by
 unfold Gf at h;simp only[Bool.and_eq_true,decide_eq_true_eq,List.all_eq_true] at h
 exact⟨h.1.2,h.2,h.1.1⟩
end
end Go.Vc.Z
