/- Requests, the document's: which may be, which are the same. -/
import Derived.Test.YtpmpclbdnakniaaGreatDoorV12
import Derived.Test.YtpmpclbdnakniaaGreatDoorV9
set_option linter.all false
set_option linter.unusedVariables false
set_option linter.unusedSimpArgs false
namespace Go.Vc.Z
open Go Go.Vc Go.Proofs Go.RowKit Go.Pl Go.Lib
noncomputable section
set_option maxRecDepth 100000
attribute [local irreducible] inK Utf8.decode Utf8.encode Lib.itoa Pl.worth Pl.allDig
attribute [local irreducible] Lib.join
open Classical in
@[irreducible] def Dp(a b:Request):Bool:=decide (a=b)
theorem A0{a b:Request}:Dp a b=true↔a=b:=by unfold Dp;simp
theorem sF{a b:Request}(h:a≠b):false=Dp a b:=by
 cases hs:Dp a b with
 |false=>rfl
 |true=>exact absurd (A0.1 hs) h
def Wz:PC:=PC.of (fun x:Request × Request=>[.agg x.1.enc,.agg x.2.enc]) (fun _=>True) (fun x=>.bool (sB (Dp x.1 x.2)))
@[irreducible] def Az(r:Request)(c:Int):Bool:=
 if c=75 then Gb r.key else if c=68 then Gl r.day else if c=76 then G4 r.locator else if c=84 then E7 r.ticket
 else if c=78 then decide (1≤r.coupon)&&decide (r.coupon≤4) else if c=83 then Iz r.status else if c=65 then D2 r.amount
 else if c=74 then Gf 12 r.coupons else if c=67 then Gf 4 r.coupons else if c=88 then Dv r.taxes else Gl r.frm&&Gl r.til
def De(r:Request):Request:=cond (eqI r.kind 1) ⟨r.key,r.kind,r.day,0,0,0,r.locator,r.coupons,r.taxes,0,0,0⟩ (cond (eqI r.kind 2) ⟨r.key,r.kind,r.day,r.ticket,r.coupon,r.status,[],[],[],0,0,0⟩ (cond (eqI r.kind 3) ⟨r.key,r.kind,r.day,r.ticket,0,0,[],[],[],0,0,0⟩ (cond (eqI r.kind 4) ⟨r.key,r.kind,r.day,r.ticket,0,0,[],[],[],r.amount,0,0⟩ (cond (eqI r.kind 5) ⟨r.key,r.kind,r.day,r.ticket,0,0,[],r.coupons,r.taxes,r.amount,0,0⟩ (cond (eqI r.kind 6) ⟨r.key,r.kind,r.day,r.ticket,r.coupon,0,[],[],[],0,0,0⟩ (cond (eqI r.kind 7) ⟨r.key,r.kind,r.day,r.ticket,r.coupon,0,[],[],[],0,0,0⟩ (cond (eqI r.kind 8) ⟨[],r.kind,0,r.ticket,0,0,[],[],[],0,0,0⟩ (cond (eqI r.kind 9) ⟨[],r.kind,0,0,0,0,r.locator,[],[],0,0,0⟩ (cond (eqI r.kind 10) ⟨[],r.kind,0,0,0,0,[],[],[],0,r.frm,r.til⟩ (⟨[],r.kind,0,0,0,0,[],[],[],0,0,0⟩))))))))))
@[irreducible] def Ah(r:Request):Bool:=cond (eqI r.kind 1) (Az r 75&&(Az r 68&&(Az r 76&&(Az r 74&&(Az r 88&&Dp r (De r)))))) (cond (eqI r.kind 2) (Az r 75&&(Az r 68&&(Az r 84&&(Az r 78&&(Az r 83&&Dp r (De r)))))) (cond (eqI r.kind 3) (Az r 75&&(Az r 68&&(Az r 84&&Dp r (De r)))) (cond (eqI r.kind 4) (Az r 75&&(Az r 68&&(Az r 84&&(Az r 65&&Dp r (De r))))) (cond (eqI r.kind 5) (Az r 75&&(Az r 68&&(Az r 84&&(Az r 65&&(Az r 67&&(Az r 88&&Dp r (De r))))))) (cond (eqI r.kind 6) (Az r 75&&(Az r 68&&(Az r 84&&(Az r 78&&Dp r (De r))))) (cond (eqI r.kind 7) (Az r 75&&(Az r 68&&(Az r 84&&(Az r 78&&Dp r (De r))))) (cond (eqI r.kind 8) (Az r 84&&Dp r (De r)) (cond (eqI r.kind 9) (Az r 76&&Dp r (De r)) (cond (eqI r.kind 10) (Az r 82&&Dp r (De r)) (false))))))))))
theorem R9{r:Request}(h:r.kind=1):Ah r=(Az r 75&&(Az r 68&&(Az r 76&&(Az r 74&&(Az r 88&&Dp r (De r)))))):=by unfold Ah;rw[h];rfl
theorem Yh{r:Request}(h:r.kind=2):Ah r=(Az r 75&&(Az r 68&&(Az r 84&&(Az r 78&&(Az r 83&&Dp r (De r)))))):=by unfold Ah;rw[h];rfl
theorem Yi{r:Request}(h:r.kind=3):Ah r=(Az r 75&&(Az r 68&&(Az r 84&&Dp r (De r)))):=by unfold Ah;rw[h];rfl
theorem Yj{r:Request}(h:r.kind=4):Ah r=(Az r 75&&(Az r 68&&(Az r 84&&(Az r 65&&Dp r (De r))))):=by unfold Ah;rw[h];rfl
theorem Yk{r:Request}(h:r.kind=5):Ah r=(Az r 75&&(Az r 68&&(Az r 84&&(Az r 65&&(Az r 67&&(Az r 88&&Dp r (De r))))))):=by unfold Ah;rw[h];rfl
theorem Yl{r:Request}(h:r.kind=6):Ah r=(Az r 75&&(Az r 68&&(Az r 84&&(Az r 78&&Dp r (De r))))):=by unfold Ah;rw[h];rfl
theorem Ym{r:Request}(h:r.kind=7):Ah r=(Az r 75&&(Az r 68&&(Az r 84&&(Az r 78&&Dp r (De r))))):=by unfold Ah;rw[h];rfl
theorem Yn{r:Request}(h:r.kind=8):Ah r=(Az r 84&&Dp r (De r)):=by unfold Ah;rw[h];rfl
theorem Yo{r:Request}(h:r.kind=9):Ah r=(Az r 76&&Dp r (De r)):=by unfold Ah;rw[h];rfl
theorem Ub{r:Request}(h:r.kind=10):Ah r=(Az r 82&&Dp r (De r)):=by unfold Ah;rw[h];rfl
theorem Uc{r:Request}(h: ¬(1≤r.kind∧r.kind≤10)):Ah r=false:=by
 unfold Ah
 have e:∀ k:Int,1≤k→k≤10→eqI r.kind k=false:=fun k h1 h2=>by
  rw[Bw,beq_eq_false_iff_ne];omega
 simp only[e 1 (by decide) (by decide),e 2 (by decide) (by decide),e 3 (by decide) (by decide),e 4 (by decide) (by decide),e 5 (by decide) (by decide),e 6 (by decide) (by decide),e 7 (by decide) (by decide),e 8 (by decide) (by decide),e 9 (by decide) (by decide),e 10 (by decide) (by decide),cond_false]
end
end Go.Vc.Z
