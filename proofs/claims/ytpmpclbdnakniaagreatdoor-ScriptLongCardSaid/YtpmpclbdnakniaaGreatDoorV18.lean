/- request.May, of kinds that name no lists. -/
import Derived.Test.YtpmpclbdnakniaaGreatDoorV17
set_option linter.all false
set_option linter.unusedVariables false
set_option linter.unusedSimpArgs false
namespace Go.Vc.Z
open Go Go.Vc Go.Proofs Go.RowKit Go.Pl Go.Lib
theorem Bs{g:Bool}{lo n hi:Int}:Dc g lo n hi=true↔g=true∧lo≤n∧n≤hi:=by
 unfold Dc;rw[C3,C3];simp
theorem Gs{s:List UInt8}(h:Gb s=true):1≤s.length∧s.length≤16:=by
 unfold Gb at h;simp only[Bool.and_eq_true,decide_eq_true_eq] at h;omega
section
variable {key locator : List UInt8} {day ticket coupon status amount frm til : Int} {coupons : List Coupon} {taxes : List Tax}
theorem Jy:Ah ⟨key,1,day,ticket,coupon,status,locator,coupons,taxes,amount,frm,til⟩=true↔Gb key=true∧(0≤day∧day≤1000000)∧G4 locator=true∧Gf 12 coupons=true∧Dv taxes=true∧ticket=0∧coupon=0∧status=0∧amount=0∧frm=0∧til=0:=by
 have ho:De ⟨key,1,day,ticket,coupon,status,locator,coupons,taxes,amount,frm,til⟩=⟨key,1,day,0,0,0,locator,coupons,taxes,0,0,0⟩:=rfl
 rw[R9 rfl,ho]
 simp only[F1,F2,Jf,F3,Ig,Kl,Jg,Km,Kn,Jh,Ko,Bool.and_eq_true,A0,Request.mk.injEq,and_true,true_and,decide_eq_true_eq]
 all_goals (try unfold Gl);(try unfold E7);(try unfold D2);(try unfold Iz)
 all_goals simp only[Bool.and_eq_true,decide_eq_true_eq,and_assoc,true_and,and_true]
theorem eY:Ah ⟨key,2,day,ticket,coupon,status,locator,coupons,taxes,amount,frm,til⟩=true↔Gb key=true∧(0≤day∧day≤1000000)∧checkN ticket=0∧(1≤coupon∧coupon≤4)∧(1≤status∧status≤9)∧locator=[]∧coupons=[]∧taxes=[]∧amount=0∧frm=0∧til=0:=by
 have ho:De ⟨key,2,day,ticket,coupon,status,locator,coupons,taxes,amount,frm,til⟩=⟨key,2,day,ticket,coupon,status,[],[],[],0,0,0⟩:=rfl
 rw[Yh rfl,ho]
 simp only[F1,F2,Jf,F3,Ig,Kl,Jg,Km,Kn,Jh,Ko,Bool.and_eq_true,A0,Request.mk.injEq,and_true,true_and,decide_eq_true_eq]
 all_goals (try unfold Gl);(try unfold E7);(try unfold D2);(try unfold Iz)
 all_goals simp only[Bool.and_eq_true,decide_eq_true_eq,and_assoc,true_and,and_true]
theorem eZ:Ah ⟨key,3,day,ticket,coupon,status,locator,coupons,taxes,amount,frm,til⟩=true↔Gb key=true∧(0≤day∧day≤1000000)∧checkN ticket=0∧coupon=0∧status=0∧locator=[]∧coupons=[]∧taxes=[]∧amount=0∧frm=0∧til=0:=by
 have ho:De ⟨key,3,day,ticket,coupon,status,locator,coupons,taxes,amount,frm,til⟩=⟨key,3,day,ticket,0,0,[],[],[],0,0,0⟩:=rfl
 rw[Yi rfl,ho]
 simp only[F1,F2,Jf,F3,Ig,Kl,Jg,Km,Kn,Jh,Ko,Bool.and_eq_true,A0,Request.mk.injEq,and_true,true_and,decide_eq_true_eq]
 all_goals (try unfold Gl);(try unfold E7);(try unfold D2);(try unfold Iz)
 all_goals simp only[Bool.and_eq_true,decide_eq_true_eq,and_assoc,true_and,and_true]
theorem fB:Ah ⟨key,4,day,ticket,coupon,status,locator,coupons,taxes,amount,frm,til⟩=true↔Gb key=true∧(0≤day∧day≤1000000)∧checkN ticket=0∧(0≤amount∧amount≤1000000000000)∧coupon=0∧status=0∧locator=[]∧coupons=[]∧taxes=[]∧frm=0∧til=0:=by
 have ho:De ⟨key,4,day,ticket,coupon,status,locator,coupons,taxes,amount,frm,til⟩=⟨key,4,day,ticket,0,0,[],[],[],amount,0,0⟩:=rfl
 rw[Yj rfl,ho]
 simp only[F1,F2,Jf,F3,Ig,Kl,Jg,Km,Kn,Jh,Ko,Bool.and_eq_true,A0,Request.mk.injEq,and_true,true_and,decide_eq_true_eq]
 all_goals (try unfold Gl);(try unfold E7);(try unfold D2);(try unfold Iz)
 all_goals simp only[Bool.and_eq_true,decide_eq_true_eq,and_assoc,true_and,and_true]
theorem Jz:Ah ⟨key,5,day,ticket,coupon,status,locator,coupons,taxes,amount,frm,til⟩=true↔Gb key=true∧(0≤day∧day≤1000000)∧checkN ticket=0∧(0≤amount∧amount≤1000000000000)∧Gf 4 coupons=true∧Dv taxes=true∧coupon=0∧status=0∧locator=[]∧frm=0∧til=0:=by
 have ho:De ⟨key,5,day,ticket,coupon,status,locator,coupons,taxes,amount,frm,til⟩=⟨key,5,day,ticket,0,0,[],coupons,taxes,amount,0,0⟩:=rfl
 rw[Yk rfl,ho]
 simp only[F1,F2,Jf,F3,Ig,Kl,Jg,Km,Kn,Jh,Ko,Bool.and_eq_true,A0,Request.mk.injEq,and_true,true_and,decide_eq_true_eq]
 all_goals (try unfold Gl);(try unfold E7);(try unfold D2);(try unfold Iz)
 all_goals simp only[Bool.and_eq_true,decide_eq_true_eq,and_assoc,true_and,and_true]
theorem fE:Ah ⟨key,6,day,ticket,coupon,status,locator,coupons,taxes,amount,frm,til⟩=true↔Gb key=true∧(0≤day∧day≤1000000)∧checkN ticket=0∧(1≤coupon∧coupon≤4)∧status=0∧locator=[]∧coupons=[]∧taxes=[]∧amount=0∧frm=0∧til=0:=by
 have ho:De ⟨key,6,day,ticket,coupon,status,locator,coupons,taxes,amount,frm,til⟩=⟨key,6,day,ticket,coupon,0,[],[],[],0,0,0⟩:=rfl
 rw[Yl rfl,ho]
 simp only[F1,F2,Jf,F3,Ig,Kl,Jg,Km,Kn,Jh,Ko,Bool.and_eq_true,A0,Request.mk.injEq,and_true,true_and,decide_eq_true_eq]
 all_goals (try unfold Gl);(try unfold E7);(try unfold D2);(try unfold Iz)
 all_goals simp only[Bool.and_eq_true,decide_eq_true_eq,and_assoc,true_and,and_true]
theorem fG:Ah ⟨key,7,day,ticket,coupon,status,locator,coupons,taxes,amount,frm,til⟩=true↔Gb key=true∧(0≤day∧day≤1000000)∧checkN ticket=0∧(1≤coupon∧coupon≤4)∧status=0∧locator=[]∧coupons=[]∧taxes=[]∧amount=0∧frm=0∧til=0:=by
 have ho:De ⟨key,7,day,ticket,coupon,status,locator,coupons,taxes,amount,frm,til⟩=⟨key,7,day,ticket,coupon,0,[],[],[],0,0,0⟩:=rfl
 rw[Ym rfl,ho]
 simp only[F1,F2,Jf,F3,Ig,Kl,Jg,Km,Kn,Jh,Ko,Bool.and_eq_true,A0,Request.mk.injEq,and_true,true_and,decide_eq_true_eq]
 all_goals (try unfold Gl);(try unfold E7);(try unfold D2);(try unfold Iz)
 all_goals simp only[Bool.and_eq_true,decide_eq_true_eq,and_assoc,true_and,and_true]
theorem fH:Ah ⟨key,8,day,ticket,coupon,status,locator,coupons,taxes,amount,frm,til⟩=true↔checkN ticket=0∧key=[]∧day=0∧coupon=0∧status=0∧locator=[]∧coupons=[]∧taxes=[]∧amount=0∧frm=0∧til=0:=by
 have ho:De ⟨key,8,day,ticket,coupon,status,locator,coupons,taxes,amount,frm,til⟩=⟨[],8,0,ticket,0,0,[],[],[],0,0,0⟩:=rfl
 rw[Yn rfl,ho]
 simp only[F1,F2,Jf,F3,Ig,Kl,Jg,Km,Kn,Jh,Ko,Bool.and_eq_true,A0,Request.mk.injEq,and_true,true_and,decide_eq_true_eq]
 all_goals (try unfold Gl);(try unfold E7);(try unfold D2);(try unfold Iz)
 all_goals simp only[Bool.and_eq_true,decide_eq_true_eq,and_assoc,true_and,and_true]
theorem fI:Ah ⟨key,9,day,ticket,coupon,status,locator,coupons,taxes,amount,frm,til⟩=true↔G4 locator=true∧key=[]∧day=0∧ticket=0∧coupon=0∧status=0∧coupons=[]∧taxes=[]∧amount=0∧frm=0∧til=0:=by
 have ho:De ⟨key,9,day,ticket,coupon,status,locator,coupons,taxes,amount,frm,til⟩=⟨[],9,0,0,0,0,locator,[],[],0,0,0⟩:=rfl
 rw[Yo rfl,ho]
 simp only[F1,F2,Jf,F3,Ig,Kl,Jg,Km,Kn,Jh,Ko,Bool.and_eq_true,A0,Request.mk.injEq,and_true,true_and,decide_eq_true_eq]
 all_goals (try unfold Gl);(try unfold E7);(try unfold D2);(try unfold Iz)
 all_goals simp only[Bool.and_eq_true,decide_eq_true_eq,and_assoc,true_and,and_true]
theorem Yx:Ah ⟨key,10,day,ticket,coupon,status,locator,coupons,taxes,amount,frm,til⟩=true↔((0≤frm∧frm≤1000000)∧(0≤til∧til≤1000000))∧key=[]∧day=0∧ticket=0∧coupon=0∧status=0∧locator=[]∧coupons=[]∧taxes=[]∧amount=0:=by
 have ho:De ⟨key,10,day,ticket,coupon,status,locator,coupons,taxes,amount,frm,til⟩=⟨[],10,0,0,0,0,[],[],[],0,frm,til⟩:=rfl
 rw[Ub rfl,ho]
 simp only[F1,F2,Jf,F3,Ig,Kl,Jg,Km,Kn,Jh,Ko,Bool.and_eq_true,A0,Request.mk.injEq,and_true,true_and,decide_eq_true_eq]
 all_goals (try unfold Gl);(try unfold E7);(try unfold D2);(try unfold Iz)
 all_goals simp only[Bool.and_eq_true,decide_eq_true_eq,and_assoc,true_and,and_true]
end
noncomputable section
set_option maxRecDepth 100000
attribute [local irreducible] inK Utf8.decode Utf8.encode Lib.itoa Pl.worth Pl.allDig
attribute [local irreducible] Lib.join
def Afr(H:List Blk)(q e j:Nat)(c:AV):List Blk:=match H[q]? with|some (.row sz len get T)=>H.set q (.row sz len (fun k=>Od (decide (k=e)) (over (get e) j [c]) (get k)) T)|_=>H
def Am6(H:List Blk)(q e j:Nat):Option AV:=match H[q]? with|some (.row _ _ get _)=>(get e)[j]? |_=>none
theorem fJ{TY:TypeId→Option TI}{C:FuncId→Option Ctr}{D:PT}{wr:Tmp→Bool}{L:List AV→List Blk→Nat→Option LR}{fn:Func}{cs:List AV}{H:List Blk}{Q:AV→List Blk→Prop}(r:AV)(F:Bool→List Blk)(B:Bool)(h1:fnE TY C D wr (L cs H) fn cs H (fun c H'=>c=r∧∃ b,b=B∧H'=F b))(h2:Q r (F (sB B))):P9 TY C D wr L fn cs H Q:=by
 refine Xx _ h1 ?_
 rintro c H' ⟨rfl,b,rfl,rfl⟩
 rw[A9] at h2;exact h2
theorem yS{TY:TypeId→Option TI}{C:FuncId→Option Ctr}{D:PT}{wr:Tmp→Bool}{L:List AV→List Blk→Nat→Option LR}{fn:Func}{H:List Blk}{Q:AV→List Blk→Prop}{p:Nat}{g m:Bool}(hg:cellOf H p 2=some (.bool g))
  (h1:fnE TY C D wr (L [.ptr p 0,.bool m] H) fn [.ptr p 0,.bool m] H (fun c H'=>c= .tup []∧∃ b,b=(g&&m)∧H'=setCell H p 2 (.bool b)))
  (h2:Q (.tup []) (setCell H p 2 (.bool (sB (g&&m))))):P9 TY C D wr L fn [.ptr p 0,.bool m] H Q:=
 fJ _ (fun b=>setCell H p 2 (.bool b)) _ h1 h2
theorem pK{TY:TypeId→Option TI}{C:FuncId→Option Ctr}{D:PT}{wr:Tmp→Bool}{L:List AV→List Blk→Nat→Option LR}{fn:Func}{H:List Blk}{Q:AV→List Blk→Prop}{p q z e j:Nat}{sz lo hi n:Int}{g:Bool}(hg:cellOf H p 2=some (.bool g))(hn:Am6 H q e j=some (.int .i64 n))
  (h1:fnE TY C D wr (L [.ptr p 0,.eptr q z e j,.int .i64 sz,.int .i64 lo,.int .i64 hi] H) fn [.ptr p 0,.eptr q z e j,.int .i64 sz,.int .i64 lo,.int .i64 hi] H (fun c H'=>c= .tup []∧∃ b,b=Dc g lo n hi∧H'=Afr (setCell H p 2 (.bool b)) q e j (.int .i64 0)))
  (h2:Q (.tup []) (Afr (setCell H p 2 (.bool (sB (Dc g lo n hi)))) q e j (.int .i64 0))):P9 TY C D wr L fn [.ptr p 0,.eptr q z e j,.int .i64 sz,.int .i64 lo,.int .i64 hi] H Q:=
 fJ _ (fun b=>Afr (setCell H p 2 (.bool b)) q e j (.int .i64 0)) _ h1 h2
theorem Bv{TY:TypeId→Option TI}{C:FuncId→Option Ctr}{D:PT}{wr:Tmp→Bool}{L:List AV→List Blk→Nat→Option LR}{fn:Func}{cs:List AV}{H:List Blk}{Q:AV→List Blk→Prop}{p:Nat}{g m:Bool}(hcs:cs=[.ptr p 0,.bool m])(hg:cellOf H p 2=some (.bool g))
  (h1:fnE TY C D wr (L [.ptr p 0,.bool m] H) fn [.ptr p 0,.bool m] H (fun c H'=>c= .tup []∧∃ b,b=(g&&m)∧H'=setCell H p 2 (.bool b)))
  (h2:Q (.tup []) (setCell H p 2 (.bool (sB (g&&m))))):P9 TY C D wr L fn cs H Q:=by
 subst hcs;exact yS hg h1 h2
theorem Bt{TY:TypeId→Option TI}{C:FuncId→Option Ctr}{D:PT}{wr:Tmp→Bool}{L:List AV→List Blk→Nat→Option LR}{fn:Func}{cs:List AV}{H:List Blk}{Q:AV→List Blk→Prop}{p q j:Nat}{sz lo hi n:Int}{g:Bool}(hcs:cs=[.ptr p 0,.ptr q j,.int .i64 sz,.int .i64 lo,.int .i64 hi])(hg:cellOf H p 2=some (.bool g))(hn:cellOf H q j=some (.int .i64 n))
  (h1:fnE TY C D wr (L [.ptr p 0,.ptr q j,.int .i64 sz,.int .i64 lo,.int .i64 hi] H) fn [.ptr p 0,.ptr q j,.int .i64 sz,.int .i64 lo,.int .i64 hi] H (fun c H'=>c= .tup []∧∃ b,b=Dc g lo n hi∧H'=setCell (setCell H p 2 (.bool b)) q j (.int .i64 0)))
  (h2:Q (.tup []) (setCell (setCell H p 2 (.bool (sB (Dc g lo n hi)))) q j (.int .i64 0))):P9 TY C D wr L fn cs H Q:=by
 subst hcs;exact rS hg hn h1 h2
theorem Eb{TY:TypeId→Option TI}{C:FuncId→Option Ctr}{D:PT}{wr:Tmp→Bool}{L:List AV→List Blk→Nat→Option LR}{fn:Func}{cs:List AV}{H:List Blk}{Q:AV→List Blk→Prop}{p q z e j:Nat}{sz lo hi n:Int}{g:Bool}(hcs:cs=[.ptr p 0,.eptr q z e j,.int .i64 sz,.int .i64 lo,.int .i64 hi])(hg:cellOf H p 2=some (.bool g))(hn:Am6 H q e j=some (.int .i64 n))
  (h1:fnE TY C D wr (L [.ptr p 0,.eptr q z e j,.int .i64 sz,.int .i64 lo,.int .i64 hi] H) fn [.ptr p 0,.eptr q z e j,.int .i64 sz,.int .i64 lo,.int .i64 hi] H (fun c H'=>c= .tup []∧∃ b,b=Dc g lo n hi∧H'=Afr (setCell H p 2 (.bool b)) q e j (.int .i64 0)))
  (h2:Q (.tup []) (Afr (setCell H p 2 (.bool (sB (Dc g lo n hi)))) q e j (.int .i64 0))):P9 TY C D wr L fn cs H Q:=by
 subst hcs;exact pK hg hn h1 h2
theorem C0{g:Bool}{lo n hi:Int}(h:lo≤n):(g&&leI n hi)=Dc g lo n hi:=by
 unfold Dc;rw[C3 lo,decide_eq_true h];simp
def sU(cs:List AV):Nat:=match cs with
 | .ptr p _::_=>p
 |_=>0
def Afs(H:List Blk)(cs:List AV)(j:Nat):Option Nat:=match cellOf H (sU cs) 3 with
 |some (.ptr q _)=>(match cellOf H q j with|some (.osl k _ _ _ _)=>some k|_=>none)
 |_=>none
def E1(r:Request):Prop:=r.coupons.length≤200000000∧r.taxes.length≤200000000
def Yy:PC:=PC.of (fun l:List Coupon=>[slE 6 Coupon.enc l]) (fun l=>l.length≤200000000) (fun l=>slE 6 Coupon.enc l)
def Cj:PT:=D1 []
theorem C9{W:World}(hW:Tabs W):Dj (Fw W) Tryz.prog Cj:=A6
def B8:FuncId→Option Ctr:=Av Cj []
theorem D8{W:World}(hW:Tabs W):Ad (Fw W) Tryz.prog B8:=(A7 (C9 hW))
theorem D9{W:World}(hW:Tabs W):GoodP (Fw W) Tryz.prog 211 Yy:=by
 have hD:=C9 hW
 have hC0:∀ l:List Coupon,Ad (Fw W) Tryz.prog B8:=fun l=>(D8 hW)
 refine Ax (D:=Cj) (C:=fun l=>B8) (wr:=(fun _=>false)) rfl Aq hD hC0 Tryz.func211 (fun _ _=>none) (fun _=>rfl) ?_
 intro l hf hp
 clear hf
 have hp:l.length≤200000000:=hp
 (conv=>whnf)
 (repeat' ((first
  |((with_reducible refine aI ?_ ?_);focus (first|omega|((with_reducible refine⟨?_,?_⟩)<;>first|with_reducible assumption|omega)|(simp only[Ag,ty2,ty3,ty4,ty5,ty9,Cn,Ch,Co,Ci,Cl,Cp,Cq,Cr,Bf,Bc,Bg,Bd,Bh,Bi,Bj];first|omega|(refine⟨?_,?_⟩<;>omega))|assumption|decide))
  |(split<;>rename_i hh<;>(try simp only[wS] at hh))
  |fail)<;>(conv=>whnf)))
 all_goals try (intro e he;exfalso;omega)
 ·refine⟨⟨by omega,fun e he=>by unfold Bu;rw[if_neg (by omega)];rfl⟩,?_⟩
  (conv=>whnf)
  (repeat' ((first
   |((with_reducible refine aI ?_ ?_);focus (first|omega|decide))
   |fail)<;>(conv=>whnf)))
  intro e he
  show Bu 0 _ _ (0+e)=_
  unfold Bu
  rw[if_neg (by omega),Nat.zero_add,Nat.sub_zero]
def Yz:PC:=PC.of (fun l:List Tax=>[slE 2 Tax.enc l]) (fun l=>l.length≤200000000) (fun l=>slE 2 Tax.enc l)
theorem E2{W:World}(hW:Tabs W):GoodP (Fw W) Tryz.prog 212 Yz:=by
 have hD:=C9 hW
 have hC0:∀ l:List Tax,Ad (Fw W) Tryz.prog B8:=fun l=>(D8 hW)
 refine Ax (D:=Cj) (C:=fun l=>B8) (wr:=(fun _=>false)) rfl Aq hD hC0 Tryz.func212 (fun _ _=>none) (fun _=>rfl) ?_
 intro l hf hp
 clear hf
 have hp:l.length≤200000000:=hp
 (conv=>whnf)
 (repeat' ((first
  |((with_reducible refine aI ?_ ?_);focus (first|omega|((with_reducible refine⟨?_,?_⟩)<;>first|with_reducible assumption|omega)|(simp only[Ag,ty2,ty3,ty4,ty5,ty9,Cn,Ch,Co,Ci,Cl,Cp,Cq,Cr,Bf,Bc,Bg,Bd,Bh,Bi,Bj];first|omega|(refine⟨?_,?_⟩<;>omega))|assumption|decide))
  |(split<;>rename_i hh<;>(try simp only[wS] at hh))
  |fail)<;>(conv=>whnf)))
 all_goals try (intro e he;exfalso;omega)
 ·refine⟨⟨by omega,fun e he=>by unfold Bu;rw[if_neg (by omega)];rfl⟩,?_⟩
  (conv=>whnf)
  (repeat' ((first
   |((with_reducible refine aI ?_ ?_);focus (first|omega|decide))
   |fail)<;>(conv=>whnf)))
  intro e he
  show Bu 0 _ _ (0+e)=_
  unfold Bu
  rw[if_neg (by omega),Nat.zero_add,Nat.sub_zero]
def Aad:PC:=PC.of (fun r:Request=>[.agg r.enc]) E1 (fun r=>.agg r.enc)
def Jk:PT:=D1 [(211,Yy),(212,Yz)]
theorem N3{W:World}(hW:Tabs W):Dj (Fw W) Tryz.prog Jk:=(Ae Tryz.call211 (D9 hW) (Ae Tryz.call212 (E2 hW) A6))
def Jl:FuncId→Option Ctr:=Av Jk []
theorem Wl{W:World}(hW:Tabs W):Ad (Fw W) Tryz.prog Jl:=(A7 (N3 hW))
theorem Wm{W:World}(hW:Tabs W):GoodP (Fw W) Tryz.prog 140 Aad:=by
 have hD:=N3 hW
 have hC0:∀ r:Request,Ad (Fw W) Tryz.prog Jl:=fun r=>(Wl hW)
 refine Ax (D:=Jk) (C:=fun r=>Jl) (wr:=(fun _=>false)) rfl Aq hD hC0 Tryz.func140 (fun _ _=>none) (fun _=>rfl) ?_
 intro r hf hp
 clear hf
 obtain⟨hp1,hp2⟩:=hp
 (conv=>whnf)
 refine⟨r.coupons,hp1,?_,?_⟩
 ·exact Aj _
 (conv=>whnf)
 refine⟨r.taxes,hp2,?_,?_⟩
 ·exact Aj _
 (conv=>whnf)
 (repeat' ((first
  |with_reducible exact⟨⟩
  |((with_reducible refine aI ?_ ?_);focus (first|exact tO|with_reducible rfl|decide))
  |with_reducible refine iA ?_ ?_
  |fail)<;>(conv=>whnf)))
 all_goals (intro e he;rfl)
def Aog:PC:=PC.of (fun r:Request=>[.agg r.enc]) (fun r=>(r.kind≠1∧r.kind≠5)∧E1 r) (fun r=>.bool (sB (Ah r)))
def Cv:PT:=D1 [(73,Yv),(127,Wx),(140,Aad),(142,Wz),(195,T4),(275,Yg)]
theorem E3{W:World}(hW:Tabs W):Dj (Fw W) Tryz.prog Cv:=(Ae Tryz.call73 (Hj hW) (Ae Tryz.call127 (Ka hW) (Ae Tryz.call140 (Wm hW) (Ae Tryz.call142 (Kx hW) (Ae Tryz.call195 (Mj hW) (Ae Tryz.call275 (Mq hW) A6))))))
def Aft:FuncId→Option Ctr:=Av Cv []
theorem Afu{W:World}(hW:Tabs W):Ad (Fw W) Tryz.prog Aft:=(A7 (E3 hW))
def Aae:List (FuncId × Ctr):=(298,P9 TY Aft Cv (fun _=>false) (fun _ _ _=>none) Tryz.f298)::[]
def Aaf:FuncId→Option Ctr:=Av Cv Aae
theorem Aag{W:World}(hW:Tabs W):Ad (Fw W) Tryz.prog Aaf:=Ab Tryz.call298 (Pv rfl Aq (E3 hW) (Afu hW) Tryz.func298 (fun _ _ _=>none)) (Afu hW)
def Aah:List (FuncId × Ctr):=(273,P9 TY Aaf Cv (fun _=>false) (fun _ _ _=>none) Tryz.f273)::Aae
def Aai:FuncId→Option Ctr:=Av Cv Aah
theorem Aaj{W:World}(hW:Tabs W):Ad (Fw W) Tryz.prog Aai:=Ab Tryz.call273 (Pv rfl Aq (E3 hW) (Aag hW) Tryz.func273 (fun _ _ _=>none)) (Aag hW)
def Aak:List (FuncId × Ctr):=(276,inl TY Aai Cv (fun _=>false) (fun _ _ _=>none) Tryz.f276)::Aah
def Aal:FuncId→Option Ctr:=Av Cv Aak
theorem Aam{W:World}(hW:Tabs W):Ad (Fw W) Tryz.prog Aal:=Ab Tryz.call276 (Af rfl Aq (E3 hW) (Aaj hW) Tryz.func276 (fun _ _ _=>none)) (Aaj hW)
def Aan:List (FuncId × Ctr):=(279,inl TY Aal Cv (fun _=>false) (fun _ _ _=>none) Tryz.f279)::Aak
def Aao:FuncId→Option Ctr:=Av Cv Aan
theorem Aap{W:World}(hW:Tabs W):Ad (Fw W) Tryz.prog Aao:=Ab Tryz.call279 (Af rfl Aq (E3 hW) (Aam hW) Tryz.func279 (fun _ _ _=>none)) (Aam hW)
def Aaq:List (FuncId × Ctr):=(259,inl TY Aao Cv (fun _=>false) (fun _ _ _=>none) Tryz.f259)::Aan
def Aar:FuncId→Option Ctr:=Av Cv Aaq
theorem Aas{W:World}(hW:Tabs W):Ad (Fw W) Tryz.prog Aar:=Ab Tryz.call259 (Af rfl Aq (E3 hW) (Aap hW) Tryz.func259 (fun _ _ _=>none)) (Aap hW)
def Aat:List (FuncId × Ctr):=(254,inl TY Aar Cv (fun _=>false) (fun _ _ _=>none) Tryz.f254)::Aaq
def Aau:FuncId→Option Ctr:=Av Cv Aat
theorem Aav{W:World}(hW:Tabs W):Ad (Fw W) Tryz.prog Aau:=Ab Tryz.call254 (Af rfl Aq (E3 hW) (Aas hW) Tryz.func254 (fun _ _ _=>none)) (Aas hW)
def Aaw:List (FuncId × Ctr):=(255,inl TY Aau Cv (fun _=>false) (fun _ _ _=>none) Tryz.f255)::Aat
def Aax:FuncId→Option Ctr:=Av Cv Aaw
theorem Aay{W:World}(hW:Tabs W):Ad (Fw W) Tryz.prog Aax:=Ab Tryz.call255 (Af rfl Aq (E3 hW) (Aav hW) Tryz.func255 (fun _ _ _=>none)) (Aav hW)
def Aaz:List (FuncId × Ctr):=(274,inl TY Aax Cv (fun _=>false) (fun _ _ _=>none) Tryz.f274)::Aaw
def Aa0:FuncId→Option Ctr:=Av Cv Aaz
theorem Aa1{W:World}(hW:Tabs W):Ad (Fw W) Tryz.prog Aa0:=Ab Tryz.call274 (Af rfl Aq (E3 hW) (Aay hW) Tryz.func274 (fun _ _ _=>none)) (Aay hW)
def Aa2:List (FuncId × Ctr):=(225,inl TY Aa0 Cv (fun _=>false) (fun _ _ _=>none) Tryz.f225)::Aaz
def Aa3:FuncId→Option Ctr:=Av Cv Aa2
theorem Aa4{W:World}(hW:Tabs W):Ad (Fw W) Tryz.prog Aa3:=Ab Tryz.call225 (Af rfl Aq (E3 hW) (Aa1 hW) Tryz.func225 (fun _ _ _=>none)) (Aa1 hW)
def sV:List (FuncId × Ctr):=(226,inl TY Aa3 Cv (fun _=>false) (fun _ _ _=>none) Tryz.f226)::Aa2
def sW:FuncId→Option Ctr:=Av Cv sV
theorem sX{W:World}(hW:Tabs W):Ad (Fw W) Tryz.prog sW:=Ab Tryz.call226 (Af rfl Aq (E3 hW) (Aa4 hW) Tryz.func226 (fun _ _ _=>none)) (Aa4 hW)
def sY:List (FuncId × Ctr):=(230,inl TY sW Cv (fun _=>false) (fun _ _ _=>none) Tryz.f230)::sV
def sZ:FuncId→Option Ctr:=Av Cv sY
theorem tB{W:World}(hW:Tabs W):Ad (Fw W) Tryz.prog sZ:=Ab Tryz.call230 (Af rfl Aq (E3 hW) (sX hW) Tryz.func230 (fun _ _ _=>none)) (sX hW)
def tC:List (FuncId × Ctr):=(231,inl TY sZ Cv (fun _=>false) (fun _ _ _=>none) Tryz.f231)::sY
def tD:FuncId→Option Ctr:=Av Cv tC
theorem tE{W:World}(hW:Tabs W):Ad (Fw W) Tryz.prog tD:=Ab Tryz.call231 (Af rfl Aq (E3 hW) (tB hW) Tryz.func231 (fun _ _ _=>none)) (tB hW)
def tF:List (FuncId × Ctr):=(232,inl TY tD Cv (fun _=>false) (fun _ _ _=>none) Tryz.f232)::tC
def tG:FuncId→Option Ctr:=Av Cv tF
theorem tH{W:World}(hW:Tabs W):Ad (Fw W) Tryz.prog tG:=Ab Tryz.call232 (Af rfl Aq (E3 hW) (tE hW) Tryz.func232 (fun _ _ _=>none)) (tE hW)
def tI:List (FuncId × Ctr):=(233,inl TY tG Cv (fun _=>false) (fun _ _ _=>none) Tryz.f233)::tF
def tJ:FuncId→Option Ctr:=Av Cv tI
theorem tM{W:World}(hW:Tabs W):Ad (Fw W) Tryz.prog tJ:=Ab Tryz.call233 (Af rfl Aq (E3 hW) (tH hW) Tryz.func233 (fun _ _ _=>none)) (tH hW)
def tN:List (FuncId × Ctr):=(227,inl TY tJ Cv (fun _=>false) (fun _ _ _=>none) Tryz.f227)::tI
def tP:FuncId→Option Ctr:=Av Cv tN
theorem tQ{W:World}(hW:Tabs W):Ad (Fw W) Tryz.prog tP:=Ab Tryz.call227 (Af rfl Aq (E3 hW) (tM hW) Tryz.func227 (fun _ _ _=>none)) (tM hW)
def tR:List (FuncId × Ctr):=(235,inl TY tP Cv (fun _=>false) (fun _ _ _=>none) Tryz.f235)::tN
def tS:FuncId→Option Ctr:=Av Cv tR
theorem tT{W:World}(hW:Tabs W):Ad (Fw W) Tryz.prog tS:=Ab Tryz.call235 (Af rfl Aq (E3 hW) (tQ hW) Tryz.func235 (fun _ _ _=>none)) (tQ hW)
def tU:List (FuncId × Ctr):=(164,inl TY tS Cv (fun _=>false) (fun _ _ _=>none) Tryz.f164)::tR
def tV:FuncId→Option Ctr:=Av Cv tU
theorem tW{W:World}(hW:Tabs W):Ad (Fw W) Tryz.prog tV:=Ab Tryz.call164 (Af rfl Aq (E3 hW) (tT hW) Tryz.func164 (fun _ _ _=>none)) (tT hW)
def fK:List AV→List Blk→Nat→Option LR:=fun _ _ i=>cond (Nat.beq i 2) (some (.unroll 7)) none
def Afv:List (FuncId × Ctr):=(141,inl TY tV Cv (fun _=>false) (fK) Tryz.f141)::tU
def Y0:FuncId→Option Ctr:=Av Cv Afv
theorem Afw{W:World}(hW:Tabs W):Ad (Fw W) Tryz.prog Y0:=Ab Tryz.call141 (Af rfl Aq (E3 hW) (tW hW) Tryz.func141 (fK)) (tW hW)
set_option maxHeartbeats 4000000 in
theorem Aoh{W:World}(hW:Tabs W):GoodP (Fw W) Tryz.prog 71 Aog:=by
 have hD:=E3 hW
 have hC0:∀ r:Request,Ad (Fw W) Tryz.prog Y0:=fun r=>(Afw hW)
 refine Ax (D:=Cv) (C:=fun r=>Y0) (wr:=(fun _=>false)) rfl Aq hD hC0 Tryz.func71 (fun _ _=>none) (fun _=>rfl) ?_
 rintro⟨key,kind,day,ticket,coupon,status,locator,coupons,taxes,amount,frm,til⟩ hf hp
 clear hf
 by_cases h:1≤kind∧kind≤10
 ·rcases kinds h with rfl|rfl|rfl|rfl|rfl|rfl|rfl|rfl|rfl|rfl
  ·exact absurd rfl hp.1.1
  ·have hex: ¬Ce 2=[]:=by rw[Cc (by decide)];decide
   (conv=>whnf)
   (repeat' ((first
    |(exact absurd (by with_reducible assumption) hex)
    |((with_reducible refine aI ?_ ?_);focus (with_reducible exact⟨⟩))
    |(split<;>rename_i hh<;>(try simp only[wS] at hh))
    |fail)<;>(conv=>whnf)))
   refine⟨(⟨key,2,day,ticket,coupon,status,locator,coupons,taxes,amount,frm,til⟩:Request),hp.2,?_,?_⟩
   ·exact Aj _
   (conv=>whnf)
   (repeat' ((first
    |(with_reducible refine Ac ?_)
    |((with_reducible apply Bv);(focus rfl);(focus rfl))
    |((with_reducible apply Bt);(focus rfl);(focus rfl);(focus rfl))
    |((refine⟨rfl,_,?_,rfl⟩);(try simp only[A9,Cs,Bw,cond_true,cond_false,Bool.true_and,Bool.and_false,Bool.false_and])<;>first|rfl|exact Cy (by omega)|exact Cz (by omega)|exact C0 (by omega)|(rename_i hh;first|(simp[hh];done)|(rcases hh with hh|hh<;>simp[hh];done)))
    |((with_reducible refine aI ?_ ?_);focus (first|with_reducible exact⟨⟩|exact tO|omega|exact tK))
    |(split<;>rename_i hh<;>(try simp only[wS] at hh))
    |with_reducible refine lnI fun hln=>?_
    |fail)<;>(conv=>whnf)))
   all_goals (try (show _=_;simp only[wQ]))
   ·refine⟨((⟨[],2,0,0,0,0,locator,coupons,taxes,amount,frm,til⟩,⟨[],2,0,0,0,0,[],[],[],0,0,0⟩):Request × Request),True.intro,?_,?_⟩
    ·exact tL
    (conv=>whnf)
    all_goals (try (show _=_;simp only[wQ]))
    rw[cond_true,Bool.eq_iff_iff,A0,eY]
    have kl:=@Gs key
    simp only[Bs,Bool.and_eq_true,beq_iff_eq,Request.mk.injEq,true_and,and_true] at hh ⊢
    exact⟨fun h=>by simp_all,fun h=>by simp_all⟩
   ·symm
    refine Bool.eq_false_iff.2 fun hm=>?_
    rw[eY] at hm
    have kl:=@Gs key
    have hm2:=hm
    try simp only[and_assoc] at hm2
    simp_all[Dc,C3]
    all_goals omega
  ·have hex: ¬Ce 3=[]:=by rw[Cc (by decide)];decide
   (conv=>whnf)
   (repeat' ((first
    |(exact absurd (by with_reducible assumption) hex)
    |((with_reducible refine aI ?_ ?_);focus (with_reducible exact⟨⟩))
    |(split<;>rename_i hh<;>(try simp only[wS] at hh))
    |fail)<;>(conv=>whnf)))
   refine⟨(⟨key,3,day,ticket,coupon,status,locator,coupons,taxes,amount,frm,til⟩:Request),hp.2,?_,?_⟩
   ·exact Aj _
   (conv=>whnf)
   (repeat' ((first
    |(with_reducible refine Ac ?_)
    |((with_reducible apply Bv);(focus rfl);(focus rfl))
    |((with_reducible apply Bt);(focus rfl);(focus rfl);(focus rfl))
    |((refine⟨rfl,_,?_,rfl⟩);(try simp only[A9,Cs,Bw,cond_true,cond_false,Bool.true_and,Bool.and_false,Bool.false_and])<;>first|rfl|exact Cy (by omega)|exact Cz (by omega)|exact C0 (by omega)|(rename_i hh;first|(simp[hh];done)|(rcases hh with hh|hh<;>simp[hh];done)))
    |((with_reducible refine aI ?_ ?_);focus (first|with_reducible exact⟨⟩|exact tO|omega|exact tK))
    |(split<;>rename_i hh<;>(try simp only[wS] at hh))
    |with_reducible refine lnI fun hln=>?_
    |fail)<;>(conv=>whnf)))
   all_goals (try (show _=_;simp only[wQ]))
   ·refine⟨((⟨[],3,0,0,coupon,status,locator,coupons,taxes,amount,frm,til⟩,⟨[],3,0,0,0,0,[],[],[],0,0,0⟩):Request × Request),True.intro,?_,?_⟩
    ·exact tL
    (conv=>whnf)
    all_goals (try (show _=_;simp only[wQ]))
    rw[cond_true,Bool.eq_iff_iff,A0,eZ]
    have kl:=@Gs key
    simp only[Bs,Bool.and_eq_true,beq_iff_eq,Request.mk.injEq,true_and,and_true] at hh ⊢
    exact⟨fun h=>by simp_all,fun h=>by simp_all⟩
   ·symm
    refine Bool.eq_false_iff.2 fun hm=>?_
    rw[eZ] at hm
    have kl:=@Gs key
    have hm2:=hm
    try simp only[and_assoc] at hm2
    simp_all[Dc,C3]
    all_goals omega
  ·have hex: ¬Ce 4=[]:=by rw[Cc (by decide)];decide
   (conv=>whnf)
   (repeat' ((first
    |(exact absurd (by with_reducible assumption) hex)
    |((with_reducible refine aI ?_ ?_);focus (with_reducible exact⟨⟩))
    |(split<;>rename_i hh<;>(try simp only[wS] at hh))
    |fail)<;>(conv=>whnf)))
   refine⟨(⟨key,4,day,ticket,coupon,status,locator,coupons,taxes,amount,frm,til⟩:Request),hp.2,?_,?_⟩
   ·exact Aj _
   (conv=>whnf)
   (repeat' ((first
    |(with_reducible refine Ac ?_)
    |((with_reducible apply Bv);(focus rfl);(focus rfl))
    |((with_reducible apply Bt);(focus rfl);(focus rfl);(focus rfl))
    |((refine⟨rfl,_,?_,rfl⟩);(try simp only[A9,Cs,Bw,cond_true,cond_false,Bool.true_and,Bool.and_false,Bool.false_and])<;>first|rfl|exact Cy (by omega)|exact Cz (by omega)|exact C0 (by omega)|(rename_i hh;first|(simp[hh];done)|(rcases hh with hh|hh<;>simp[hh];done)))
    |((with_reducible refine aI ?_ ?_);focus (first|with_reducible exact⟨⟩|exact tO|omega|exact tK))
    |(split<;>rename_i hh<;>(try simp only[wS] at hh))
    |with_reducible refine lnI fun hln=>?_
    |fail)<;>(conv=>whnf)))
   all_goals (try (show _=_;simp only[wQ]))
   ·refine⟨((⟨[],4,0,0,coupon,status,locator,coupons,taxes,0,frm,til⟩,⟨[],4,0,0,0,0,[],[],[],0,0,0⟩):Request × Request),True.intro,?_,?_⟩
    ·exact tL
    (conv=>whnf)
    all_goals (try (show _=_;simp only[wQ]))
    rw[cond_true,Bool.eq_iff_iff,A0,fB]
    have kl:=@Gs key
    simp only[Bs,Bool.and_eq_true,beq_iff_eq,Request.mk.injEq,true_and,and_true] at hh ⊢
    exact⟨fun h=>by simp_all,fun h=>by simp_all⟩
   ·symm
    refine Bool.eq_false_iff.2 fun hm=>?_
    rw[fB] at hm
    have kl:=@Gs key
    have hm2:=hm
    try simp only[and_assoc] at hm2
    simp_all[Dc,C3]
    all_goals omega
  ·exact absurd rfl hp.1.2
  ·have hex: ¬Ce 6=[]:=by rw[Cc (by decide)];decide
   (conv=>whnf)
   (repeat' ((first
    |(exact absurd (by with_reducible assumption) hex)
    |((with_reducible refine aI ?_ ?_);focus (with_reducible exact⟨⟩))
    |(split<;>rename_i hh<;>(try simp only[wS] at hh))
    |fail)<;>(conv=>whnf)))
   refine⟨(⟨key,6,day,ticket,coupon,status,locator,coupons,taxes,amount,frm,til⟩:Request),hp.2,?_,?_⟩
   ·exact Aj _
   (conv=>whnf)
   (repeat' ((first
    |(with_reducible refine Ac ?_)
    |((with_reducible apply Bv);(focus rfl);(focus rfl))
    |((with_reducible apply Bt);(focus rfl);(focus rfl);(focus rfl))
    |((refine⟨rfl,_,?_,rfl⟩);(try simp only[A9,Cs,Bw,cond_true,cond_false,Bool.true_and,Bool.and_false,Bool.false_and])<;>first|rfl|exact Cy (by omega)|exact Cz (by omega)|exact C0 (by omega)|(rename_i hh;first|(simp[hh];done)|(rcases hh with hh|hh<;>simp[hh];done)))
    |((with_reducible refine aI ?_ ?_);focus (first|with_reducible exact⟨⟩|exact tO|omega|exact tK))
    |(split<;>rename_i hh<;>(try simp only[wS] at hh))
    |with_reducible refine lnI fun hln=>?_
    |fail)<;>(conv=>whnf)))
   all_goals (try (show _=_;simp only[wQ]))
   ·refine⟨((⟨[],6,0,0,0,status,locator,coupons,taxes,amount,frm,til⟩,⟨[],6,0,0,0,0,[],[],[],0,0,0⟩):Request × Request),True.intro,?_,?_⟩
    ·exact tL
    (conv=>whnf)
    all_goals (try (show _=_;simp only[wQ]))
    rw[cond_true,Bool.eq_iff_iff,A0,fE]
    have kl:=@Gs key
    simp only[Bs,Bool.and_eq_true,beq_iff_eq,Request.mk.injEq,true_and,and_true] at hh ⊢
    exact⟨fun h=>by simp_all,fun h=>by simp_all⟩
   ·symm
    refine Bool.eq_false_iff.2 fun hm=>?_
    rw[fE] at hm
    have kl:=@Gs key
    have hm2:=hm
    try simp only[and_assoc] at hm2
    simp_all[Dc,C3]
    all_goals omega
  ·have hex: ¬Ce 7=[]:=by rw[Cc (by decide)];decide
   (conv=>whnf)
   (repeat' ((first
    |(exact absurd (by with_reducible assumption) hex)
    |((with_reducible refine aI ?_ ?_);focus (with_reducible exact⟨⟩))
    |(split<;>rename_i hh<;>(try simp only[wS] at hh))
    |fail)<;>(conv=>whnf)))
   refine⟨(⟨key,7,day,ticket,coupon,status,locator,coupons,taxes,amount,frm,til⟩:Request),hp.2,?_,?_⟩
   ·exact Aj _
   (conv=>whnf)
   (repeat' ((first
    |(with_reducible refine Ac ?_)
    |((with_reducible apply Bv);(focus rfl);(focus rfl))
    |((with_reducible apply Bt);(focus rfl);(focus rfl);(focus rfl))
    |((refine⟨rfl,_,?_,rfl⟩);(try simp only[A9,Cs,Bw,cond_true,cond_false,Bool.true_and,Bool.and_false,Bool.false_and])<;>first|rfl|exact Cy (by omega)|exact Cz (by omega)|exact C0 (by omega)|(rename_i hh;first|(simp[hh];done)|(rcases hh with hh|hh<;>simp[hh];done)))
    |((with_reducible refine aI ?_ ?_);focus (first|with_reducible exact⟨⟩|exact tO|omega|exact tK))
    |(split<;>rename_i hh<;>(try simp only[wS] at hh))
    |with_reducible refine lnI fun hln=>?_
    |fail)<;>(conv=>whnf)))
   all_goals (try (show _=_;simp only[wQ]))
   ·refine⟨((⟨[],7,0,0,0,status,locator,coupons,taxes,amount,frm,til⟩,⟨[],7,0,0,0,0,[],[],[],0,0,0⟩):Request × Request),True.intro,?_,?_⟩
    ·exact tL
    (conv=>whnf)
    all_goals (try (show _=_;simp only[wQ]))
    rw[cond_true,Bool.eq_iff_iff,A0,fG]
    have kl:=@Gs key
    simp only[Bs,Bool.and_eq_true,beq_iff_eq,Request.mk.injEq,true_and,and_true] at hh ⊢
    exact⟨fun h=>by simp_all,fun h=>by simp_all⟩
   ·symm
    refine Bool.eq_false_iff.2 fun hm=>?_
    rw[fG] at hm
    have kl:=@Gs key
    have hm2:=hm
    try simp only[and_assoc] at hm2
    simp_all[Dc,C3]
    all_goals omega
  ·have hex: ¬Ce 8=[]:=by rw[Cc (by decide)];decide
   (conv=>whnf)
   (repeat' ((first
    |(exact absurd (by with_reducible assumption) hex)
    |((with_reducible refine aI ?_ ?_);focus (with_reducible exact⟨⟩))
    |(split<;>rename_i hh<;>(try simp only[wS] at hh))
    |fail)<;>(conv=>whnf)))
   refine⟨(⟨key,8,day,ticket,coupon,status,locator,coupons,taxes,amount,frm,til⟩:Request),hp.2,?_,?_⟩
   ·exact Aj _
   (conv=>whnf)
   (repeat' ((first
    |(with_reducible refine Ac ?_)
    |((with_reducible apply Bv);(focus rfl);(focus rfl))
    |((refine⟨rfl,_,?_,rfl⟩);(try simp only[A9,Cs,Bw,cond_true,cond_false,Bool.true_and,Bool.and_false,Bool.false_and])<;>first|rfl|exact Cy (by omega)|exact Cz (by omega)|exact C0 (by omega)|(rename_i hh;first|(simp[hh];done)|(rcases hh with hh|hh<;>simp[hh];done)))
    |((with_reducible refine aI ?_ ?_);focus (first|with_reducible exact⟨⟩|exact tO|omega|exact tK))
    |(split<;>rename_i hh<;>(try simp only[wS] at hh))
    |with_reducible refine lnI fun hln=>?_
    |fail)<;>(conv=>whnf)))
   all_goals (try (show _=_;simp only[wQ]))
   ·refine⟨((⟨key,8,day,0,coupon,status,locator,coupons,taxes,amount,frm,til⟩,⟨[],8,0,0,0,0,[],[],[],0,0,0⟩):Request × Request),True.intro,?_,?_⟩
    ·exact tL
    (conv=>whnf)
    all_goals (try (show _=_;simp only[wQ]))
    rw[cond_true,Bool.eq_iff_iff,A0,fH]
    simp only[Bs,Bool.and_eq_true,beq_iff_eq,Request.mk.injEq,true_and,and_true] at hh ⊢
    exact⟨fun h=>by simp_all,fun h=>by simp_all⟩
   ·symm
    refine Bool.eq_false_iff.2 fun hm=>?_
    rw[fH] at hm
    have hm2:=hm
    try simp only[and_assoc] at hm2
    simp_all[Dc,C3]
    all_goals omega
  ·have hex: ¬Ce 9=[]:=by rw[Cc (by decide)];decide
   (conv=>whnf)
   (repeat' ((first
    |(exact absurd (by with_reducible assumption) hex)
    |((with_reducible refine aI ?_ ?_);focus (with_reducible exact⟨⟩))
    |(split<;>rename_i hh<;>(try simp only[wS] at hh))
    |fail)<;>(conv=>whnf)))
   refine⟨(⟨key,9,day,ticket,coupon,status,locator,coupons,taxes,amount,frm,til⟩:Request),hp.2,?_,?_⟩
   ·exact Aj _
   (conv=>whnf)
   (repeat' ((first
    |(with_reducible refine Ac ?_)
    |((with_reducible apply Bv);(focus rfl);(focus rfl))
    |((refine⟨rfl,_,?_,rfl⟩);(try simp only[A9,Cs,Bw,cond_true,cond_false,Bool.true_and,Bool.and_false,Bool.false_and])<;>first|rfl|exact Cy (by omega)|exact Cz (by omega)|exact C0 (by omega)|(rename_i hh;first|(simp[hh];done)|(rcases hh with hh|hh<;>simp[hh];done)))
    |((with_reducible refine aI ?_ ?_);focus (first|with_reducible exact⟨⟩|exact tO|omega|exact tK))
    |(split<;>rename_i hh<;>(try simp only[wS] at hh))
    |with_reducible refine lnI fun hln=>?_
    |fail)<;>(conv=>whnf)))
   all_goals (try (show _=_;simp only[wQ]))
   ·refine⟨((⟨key,9,day,ticket,coupon,status,[],coupons,taxes,amount,frm,til⟩,⟨[],9,0,0,0,0,[],[],[],0,0,0⟩):Request × Request),True.intro,?_,?_⟩
    ·exact tL
    (conv=>whnf)
    all_goals (try (show _=_;simp only[wQ]))
    rw[cond_true,Bool.eq_iff_iff,A0,fI]
    simp only[Bs,Bool.and_eq_true,beq_iff_eq,Request.mk.injEq,true_and,and_true] at hh ⊢
    exact⟨fun h=>by simp_all,fun h=>by simp_all⟩
   ·symm
    refine Bool.eq_false_iff.2 fun hm=>?_
    rw[fI] at hm
    have hm2:=hm
    try simp only[and_assoc] at hm2
    simp_all[Dc,C3]
    all_goals omega
  ·have hex: ¬Ce 10=[]:=by rw[Cc (by decide)];decide
   (conv=>whnf)
   (repeat' ((first
    |(exact absurd (by with_reducible assumption) hex)
    |((with_reducible refine aI ?_ ?_);focus (with_reducible exact⟨⟩))
    |(split<;>rename_i hh<;>(try simp only[wS] at hh))
    |fail)<;>(conv=>whnf)))
   refine⟨(⟨key,10,day,ticket,coupon,status,locator,coupons,taxes,amount,frm,til⟩:Request),hp.2,?_,?_⟩
   ·exact Aj _
   (conv=>whnf)
   (repeat' ((first
    |(with_reducible refine Ac ?_)
    |((with_reducible apply Bv);(focus rfl);(focus rfl))
    |((with_reducible apply Bt);(focus rfl);(focus rfl);(focus rfl))
    |((refine⟨rfl,_,?_,rfl⟩);(try simp only[A9,Cs,Bw,cond_true,cond_false,Bool.true_and,Bool.and_false,Bool.false_and])<;>first|rfl|exact Cy (by omega)|exact Cz (by omega)|exact C0 (by omega)|(rename_i hh;first|(simp[hh];done)|(rcases hh with hh|hh<;>simp[hh];done)))
    |((with_reducible refine aI ?_ ?_);focus (first|exact tO|omega|exact tK))
    |(split<;>rename_i hh<;>(try simp only[wS] at hh))
    |with_reducible refine lnI fun hln=>?_
    |fail)<;>(conv=>whnf)))
   all_goals (try (show _=_;simp only[wQ]))
   ·refine⟨((⟨key,10,day,ticket,coupon,status,locator,coupons,taxes,amount,0,0⟩,⟨[],10,0,0,0,0,[],[],[],0,0,0⟩):Request × Request),True.intro,?_,?_⟩
    ·exact tL
    (conv=>whnf)
    all_goals (try (show _=_;simp only[wQ]))
    rw[cond_true,Bool.eq_iff_iff,A0,Yx]
    simp only[Bs,Bool.and_eq_true,beq_iff_eq,Request.mk.injEq,true_and,and_true] at hh ⊢
    exact⟨fun h=>by simp_all,fun h=>by simp_all⟩
   ·symm
    refine Bool.eq_false_iff.2 fun hm=>?_
    rw[Yx] at hm
    have hm2:=hm
    try simp only[and_assoc] at hm2
    simp_all[Dc,C3]
    all_goals omega
 ·have hn:Ce kind=[]:=sT h
  have hm:Ah ⟨key,kind,day,ticket,coupon,status,locator,coupons,taxes,amount,frm,til⟩=false:=Uc h
  (conv=>whnf)
  (repeat' ((first
   |((with_reducible refine aI ?_ ?_);focus (with_reducible exact⟨⟩))
   |(split<;>rename_i hh<;>(try simp only[wS] at hh))
   |fail)<;>(conv=>whnf)))
  all_goals (try (show _=_;simp only[wQ]))
  ·exact hm.symm
  all_goals exact absurd hn (by assumption)
end
end Go.Vc.Z
