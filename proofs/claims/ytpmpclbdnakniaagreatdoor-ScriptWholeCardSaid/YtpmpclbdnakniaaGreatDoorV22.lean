/- request.May, of kinds that name no lists. -/
import Derived.Test.YtpmpclbdnakniaaGreatDoorV18
set_option linter.all false
set_option linter.unusedVariables false
set_option linter.unusedSimpArgs false
namespace Go.Vc.Z
open Go Go.Vc Go.Proofs Go.RowKit Go.Pl Go.Lib
theorem By{g:Bool}{lo n hi:Int}:Dj g lo n hi=true↔g=true∧lo≤n∧n≤hi:=by
 unfold Dj;rw[Ca,Ca];simp
theorem Hu{s:List UInt8}(h:Fp s=true):1≤s.length∧s.length≤16:=by
 unfold Fp at h;simp only[Bool.and_eq_true,decide_eq_true_eq] at h;omega
section
variable {key locator : List UInt8} {day ticket coupon status amount frm til : Int} {coupons : List Coupon} {taxes : List Tax}
theorem Mi:Ah ⟨key,1,day,ticket,coupon,status,locator,coupons,taxes,amount,frm,til⟩=true↔Fp key=true∧(0≤day∧day≤1000000)∧Fx locator=true∧E8 12 coupons=true∧De taxes=true∧ticket=0∧coupon=0∧status=0∧amount=0∧frm=0∧til=0:=by
 have ho:Ct ⟨key,1,day,ticket,coupon,status,locator,coupons,taxes,amount,frm,til⟩=⟨key,1,day,0,0,0,locator,coupons,taxes,0,0,0⟩:=rfl
 rw[Tb rfl,ho]
 simp only[Gx,Gy,Lr,Gz,Kd,Nb,Ls,Nc,Nf,Lt,Ng,Bool.and_eq_true,Bb,Request.mk.injEq,and_true,true_and,decide_eq_true_eq]
 all_goals (try unfold Fy);(try unfold Ee);(try unfold Dh);(try unfold Ir)
 all_goals simp only[Bool.and_eq_true,decide_eq_true_eq,and_assoc,true_and,and_true]
theorem qP:Ah ⟨key,2,day,ticket,coupon,status,locator,coupons,taxes,amount,frm,til⟩=true↔Fp key=true∧(0≤day∧day≤1000000)∧checkN ticket=0∧(1≤coupon∧coupon≤4)∧(1≤status∧status≤9)∧locator=[]∧coupons=[]∧taxes=[]∧amount=0∧frm=0∧til=0:=by
 have ho:Ct ⟨key,2,day,ticket,coupon,status,locator,coupons,taxes,amount,frm,til⟩=⟨key,2,day,ticket,coupon,status,[],[],[],0,0,0⟩:=rfl
 rw[Xw rfl,ho]
 simp only[Gx,Gy,Lr,Gz,Kd,Nb,Ls,Nc,Nf,Lt,Ng,Bool.and_eq_true,Bb,Request.mk.injEq,and_true,true_and,decide_eq_true_eq]
 all_goals (try unfold Fy);(try unfold Ee);(try unfold Dh);(try unfold Ir)
 all_goals simp only[Bool.and_eq_true,decide_eq_true_eq,and_assoc,true_and,and_true]
theorem qQ:Ah ⟨key,3,day,ticket,coupon,status,locator,coupons,taxes,amount,frm,til⟩=true↔Fp key=true∧(0≤day∧day≤1000000)∧checkN ticket=0∧coupon=0∧status=0∧locator=[]∧coupons=[]∧taxes=[]∧amount=0∧frm=0∧til=0:=by
 have ho:Ct ⟨key,3,day,ticket,coupon,status,locator,coupons,taxes,amount,frm,til⟩=⟨key,3,day,ticket,0,0,[],[],[],0,0,0⟩:=rfl
 rw[Xx rfl,ho]
 simp only[Gx,Gy,Lr,Gz,Kd,Nb,Ls,Nc,Nf,Lt,Ng,Bool.and_eq_true,Bb,Request.mk.injEq,and_true,true_and,decide_eq_true_eq]
 all_goals (try unfold Fy);(try unfold Ee);(try unfold Dh);(try unfold Ir)
 all_goals simp only[Bool.and_eq_true,decide_eq_true_eq,and_assoc,true_and,and_true]
theorem qR:Ah ⟨key,4,day,ticket,coupon,status,locator,coupons,taxes,amount,frm,til⟩=true↔Fp key=true∧(0≤day∧day≤1000000)∧checkN ticket=0∧(0≤amount∧amount≤1000000000000)∧coupon=0∧status=0∧locator=[]∧coupons=[]∧taxes=[]∧frm=0∧til=0:=by
 have ho:Ct ⟨key,4,day,ticket,coupon,status,locator,coupons,taxes,amount,frm,til⟩=⟨key,4,day,ticket,0,0,[],[],[],amount,0,0⟩:=rfl
 rw[Xy rfl,ho]
 simp only[Gx,Gy,Lr,Gz,Kd,Nb,Ls,Nc,Nf,Lt,Ng,Bool.and_eq_true,Bb,Request.mk.injEq,and_true,true_and,decide_eq_true_eq]
 all_goals (try unfold Fy);(try unfold Ee);(try unfold Dh);(try unfold Ir)
 all_goals simp only[Bool.and_eq_true,decide_eq_true_eq,and_assoc,true_and,and_true]
theorem Mj:Ah ⟨key,5,day,ticket,coupon,status,locator,coupons,taxes,amount,frm,til⟩=true↔Fp key=true∧(0≤day∧day≤1000000)∧checkN ticket=0∧(0≤amount∧amount≤1000000000000)∧E8 4 coupons=true∧De taxes=true∧coupon=0∧status=0∧locator=[]∧frm=0∧til=0:=by
 have ho:Ct ⟨key,5,day,ticket,coupon,status,locator,coupons,taxes,amount,frm,til⟩=⟨key,5,day,ticket,0,0,[],coupons,taxes,amount,0,0⟩:=rfl
 rw[Xz rfl,ho]
 simp only[Gx,Gy,Lr,Gz,Kd,Nb,Ls,Nc,Nf,Lt,Ng,Bool.and_eq_true,Bb,Request.mk.injEq,and_true,true_and,decide_eq_true_eq]
 all_goals (try unfold Fy);(try unfold Ee);(try unfold Dh);(try unfold Ir)
 all_goals simp only[Bool.and_eq_true,decide_eq_true_eq,and_assoc,true_and,and_true]
theorem qS:Ah ⟨key,6,day,ticket,coupon,status,locator,coupons,taxes,amount,frm,til⟩=true↔Fp key=true∧(0≤day∧day≤1000000)∧checkN ticket=0∧(1≤coupon∧coupon≤4)∧status=0∧locator=[]∧coupons=[]∧taxes=[]∧amount=0∧frm=0∧til=0:=by
 have ho:Ct ⟨key,6,day,ticket,coupon,status,locator,coupons,taxes,amount,frm,til⟩=⟨key,6,day,ticket,coupon,0,[],[],[],0,0,0⟩:=rfl
 rw[X0 rfl,ho]
 simp only[Gx,Gy,Lr,Gz,Kd,Nb,Ls,Nc,Nf,Lt,Ng,Bool.and_eq_true,Bb,Request.mk.injEq,and_true,true_and,decide_eq_true_eq]
 all_goals (try unfold Fy);(try unfold Ee);(try unfold Dh);(try unfold Ir)
 all_goals simp only[Bool.and_eq_true,decide_eq_true_eq,and_assoc,true_and,and_true]
theorem qT:Ah ⟨key,7,day,ticket,coupon,status,locator,coupons,taxes,amount,frm,til⟩=true↔Fp key=true∧(0≤day∧day≤1000000)∧checkN ticket=0∧(1≤coupon∧coupon≤4)∧status=0∧locator=[]∧coupons=[]∧taxes=[]∧amount=0∧frm=0∧til=0:=by
 have ho:Ct ⟨key,7,day,ticket,coupon,status,locator,coupons,taxes,amount,frm,til⟩=⟨key,7,day,ticket,coupon,0,[],[],[],0,0,0⟩:=rfl
 rw[X1 rfl,ho]
 simp only[Gx,Gy,Lr,Gz,Kd,Nb,Ls,Nc,Nf,Lt,Ng,Bool.and_eq_true,Bb,Request.mk.injEq,and_true,true_and,decide_eq_true_eq]
 all_goals (try unfold Fy);(try unfold Ee);(try unfold Dh);(try unfold Ir)
 all_goals simp only[Bool.and_eq_true,decide_eq_true_eq,and_assoc,true_and,and_true]
theorem qU:Ah ⟨key,8,day,ticket,coupon,status,locator,coupons,taxes,amount,frm,til⟩=true↔checkN ticket=0∧key=[]∧day=0∧coupon=0∧status=0∧locator=[]∧coupons=[]∧taxes=[]∧amount=0∧frm=0∧til=0:=by
 have ho:Ct ⟨key,8,day,ticket,coupon,status,locator,coupons,taxes,amount,frm,til⟩=⟨[],8,0,ticket,0,0,[],[],[],0,0,0⟩:=rfl
 rw[X2 rfl,ho]
 simp only[Gx,Gy,Lr,Gz,Kd,Nb,Ls,Nc,Nf,Lt,Ng,Bool.and_eq_true,Bb,Request.mk.injEq,and_true,true_and,decide_eq_true_eq]
 all_goals (try unfold Fy);(try unfold Ee);(try unfold Dh);(try unfold Ir)
 all_goals simp only[Bool.and_eq_true,decide_eq_true_eq,and_assoc,true_and,and_true]
theorem qV:Ah ⟨key,9,day,ticket,coupon,status,locator,coupons,taxes,amount,frm,til⟩=true↔Fx locator=true∧key=[]∧day=0∧ticket=0∧coupon=0∧status=0∧coupons=[]∧taxes=[]∧amount=0∧frm=0∧til=0:=by
 have ho:Ct ⟨key,9,day,ticket,coupon,status,locator,coupons,taxes,amount,frm,til⟩=⟨[],9,0,0,0,0,locator,[],[],0,0,0⟩:=rfl
 rw[X3 rfl,ho]
 simp only[Gx,Gy,Lr,Gz,Kd,Nb,Ls,Nc,Nf,Lt,Ng,Bool.and_eq_true,Bb,Request.mk.injEq,and_true,true_and,decide_eq_true_eq]
 all_goals (try unfold Fy);(try unfold Ee);(try unfold Dh);(try unfold Ir)
 all_goals simp only[Bool.and_eq_true,decide_eq_true_eq,and_assoc,true_and,and_true]
theorem iE:Ah ⟨key,10,day,ticket,coupon,status,locator,coupons,taxes,amount,frm,til⟩=true↔((0≤frm∧frm≤1000000)∧(0≤til∧til≤1000000))∧key=[]∧day=0∧ticket=0∧coupon=0∧status=0∧locator=[]∧coupons=[]∧taxes=[]∧amount=0:=by
 have ho:Ct ⟨key,10,day,ticket,coupon,status,locator,coupons,taxes,amount,frm,til⟩=⟨[],10,0,0,0,0,[],[],[],0,frm,til⟩:=rfl
 rw[Ug rfl,ho]
 simp only[Gx,Gy,Lr,Gz,Kd,Nb,Ls,Nc,Nf,Lt,Ng,Bool.and_eq_true,Bb,Request.mk.injEq,and_true,true_and,decide_eq_true_eq]
 all_goals (try unfold Fy);(try unfold Ee);(try unfold Dh);(try unfold Ir)
 all_goals simp only[Bool.and_eq_true,decide_eq_true_eq,and_assoc,true_and,and_true]
end
noncomputable section
set_option maxRecDepth 100000
attribute [local irreducible] inK Utf8.decode Utf8.encode Lib.itoa Pl.worth Pl.allDig
attribute [local irreducible] Lib.join
def An4(H:List Blk)(q e j:Nat)(c:AV):List Blk:=match H[q]? with|some (.row sz len get T)=>H.set q (.row sz len (fun k=>Vq (decide (k=e)) (over (get e) j [c]) (get k)) T)|_=>H
def Av1(H:List Blk)(q e j:Nat):Option AV:=match H[q]? with|some (.row _ _ get _)=>(get e)[j]? |_=>none
theorem qW{TY:TypeId→Option TI}{C:FuncId→Option Ctr}{D:PT}{wr:Tmp→Bool}{L:List AV→List Blk→Nat→Option LR}{fn:Func}{cs:List AV}{H:List Blk}{Q:AV→List Blk→Prop}(r:AV)(F:Bool→List Blk)(B:Bool)(h1:fnE TY C D wr (L cs H) fn cs H (fun c H'=>c=r∧∃ b,b=B∧H'=F b))(h2:Q r (F (sB B))):Uu TY C D wr L fn cs H Q:=by
 refine eZ _ h1 ?_
 rintro c H' ⟨rfl,b,rfl,rfl⟩
 rw[Bd] at h2;exact h2
theorem Agp{TY:TypeId→Option TI}{C:FuncId→Option Ctr}{D:PT}{wr:Tmp→Bool}{L:List AV→List Blk→Nat→Option LR}{fn:Func}{H:List Blk}{Q:AV→List Blk→Prop}{p:Nat}{g m:Bool}(hg:cellOf H p 2=some (.bool g))
  (h1:fnE TY C D wr (L [.ptr p 0,.bool m] H) fn [.ptr p 0,.bool m] H (fun c H'=>c= .tup []∧∃ b,b=(g&&m)∧H'=setCell H p 2 (.bool b)))
  (h2:Q (.tup []) (setCell H p 2 (.bool (sB (g&&m))))):Uu TY C D wr L fn [.ptr p 0,.bool m] H Q:=
 qW _ (fun b=>setCell H p 2 (.bool b)) _ h1 h2
theorem zP{TY:TypeId→Option TI}{C:FuncId→Option Ctr}{D:PT}{wr:Tmp→Bool}{L:List AV→List Blk→Nat→Option LR}{fn:Func}{H:List Blk}{Q:AV→List Blk→Prop}{p q z e j:Nat}{sz lo hi n:Int}{g:Bool}(hg:cellOf H p 2=some (.bool g))(hn:Av1 H q e j=some (.int .i64 n))
  (h1:fnE TY C D wr (L [.ptr p 0,.eptr q z e j,.int .i64 sz,.int .i64 lo,.int .i64 hi] H) fn [.ptr p 0,.eptr q z e j,.int .i64 sz,.int .i64 lo,.int .i64 hi] H (fun c H'=>c= .tup []∧∃ b,b=Dj g lo n hi∧H'=An4 (setCell H p 2 (.bool b)) q e j (.int .i64 0)))
  (h2:Q (.tup []) (An4 (setCell H p 2 (.bool (sB (Dj g lo n hi)))) q e j (.int .i64 0))):Uu TY C D wr L fn [.ptr p 0,.eptr q z e j,.int .i64 sz,.int .i64 lo,.int .i64 hi] H Q:=
 qW _ (fun b=>An4 (setCell H p 2 (.bool b)) q e j (.int .i64 0)) _ h1 h2
theorem B6{TY:TypeId→Option TI}{C:FuncId→Option Ctr}{D:PT}{wr:Tmp→Bool}{L:List AV→List Blk→Nat→Option LR}{fn:Func}{cs:List AV}{H:List Blk}{Q:AV→List Blk→Prop}{p:Nat}{g m:Bool}(hcs:cs=[.ptr p 0,.bool m])(hg:cellOf H p 2=some (.bool g))
  (h1:fnE TY C D wr (L [.ptr p 0,.bool m] H) fn [.ptr p 0,.bool m] H (fun c H'=>c= .tup []∧∃ b,b=(g&&m)∧H'=setCell H p 2 (.bool b)))
  (h2:Q (.tup []) (setCell H p 2 (.bool (sB (g&&m))))):Uu TY C D wr L fn cs H Q:=by
 subst hcs;exact Agp hg h1 h2
theorem Bz{TY:TypeId→Option TI}{C:FuncId→Option Ctr}{D:PT}{wr:Tmp→Bool}{L:List AV→List Blk→Nat→Option LR}{fn:Func}{cs:List AV}{H:List Blk}{Q:AV→List Blk→Prop}{p q j:Nat}{sz lo hi n:Int}{g:Bool}(hcs:cs=[.ptr p 0,.ptr q j,.int .i64 sz,.int .i64 lo,.int .i64 hi])(hg:cellOf H p 2=some (.bool g))(hn:cellOf H q j=some (.int .i64 n))
  (h1:fnE TY C D wr (L [.ptr p 0,.ptr q j,.int .i64 sz,.int .i64 lo,.int .i64 hi] H) fn [.ptr p 0,.ptr q j,.int .i64 sz,.int .i64 lo,.int .i64 hi] H (fun c H'=>c= .tup []∧∃ b,b=Dj g lo n hi∧H'=setCell (setCell H p 2 (.bool b)) q j (.int .i64 0)))
  (h2:Q (.tup []) (setCell (setCell H p 2 (.bool (sB (Dj g lo n hi)))) q j (.int .i64 0))):Uu TY C D wr L fn cs H Q:=by
 subst hcs;exact Abm hg hn h1 h2
theorem Eb{TY:TypeId→Option TI}{C:FuncId→Option Ctr}{D:PT}{wr:Tmp→Bool}{L:List AV→List Blk→Nat→Option LR}{fn:Func}{cs:List AV}{H:List Blk}{Q:AV→List Blk→Prop}{p q z e j:Nat}{sz lo hi n:Int}{g:Bool}(hcs:cs=[.ptr p 0,.eptr q z e j,.int .i64 sz,.int .i64 lo,.int .i64 hi])(hg:cellOf H p 2=some (.bool g))(hn:Av1 H q e j=some (.int .i64 n))
  (h1:fnE TY C D wr (L [.ptr p 0,.eptr q z e j,.int .i64 sz,.int .i64 lo,.int .i64 hi] H) fn [.ptr p 0,.eptr q z e j,.int .i64 sz,.int .i64 lo,.int .i64 hi] H (fun c H'=>c= .tup []∧∃ b,b=Dj g lo n hi∧H'=An4 (setCell H p 2 (.bool b)) q e j (.int .i64 0)))
  (h2:Q (.tup []) (An4 (setCell H p 2 (.bool (sB (Dj g lo n hi)))) q e j (.int .i64 0))):Uu TY C D wr L fn cs H Q:=by
 subst hcs;exact zP hg hn h1 h2
theorem C6{g:Bool}{lo n hi:Int}(h:lo≤n):(g&&leI n hi)=Dj g lo n hi:=by
 unfold Dj;rw[Ca lo,decide_eq_true h];simp
def Acl(cs:List AV):Nat:=match cs with
 | .ptr p _::_=>p
 |_=>0
def An5(H:List Blk)(cs:List AV)(j:Nat):Option Nat:=match cellOf H (Acl cs) 3 with
 |some (.ptr q _)=>(match cellOf H q j with|some (.osl k _ _ _ _)=>some k|_=>none)
 |_=>none
def D5(r:Request):Prop:=r.coupons.length≤200000000∧r.taxes.length≤200000000
def iG:PC:=PC.of (fun l:List Coupon=>[slE 6 Coupon.enc l]) (fun l=>l.length≤200000000) (fun l=>slE 6 Coupon.enc l)
def Cq:PT:=C2 []
theorem Df{W:World}(hW:Tabs W):Cl (Fw W) Tryz.prog Cq:=As
def Cd:FuncId→Option Ctr:=Aw Cq []
theorem D7{W:World}(hW:Tabs W):Ad (Fw W) Tryz.prog Cd:=(Au (Df hW))
theorem D8{W:World}(hW:Tabs W):GoodP (Fw W) Tryz.prog 211 iG:=by
 have hD:=Df hW
 have hC0:∀ l:List Coupon,Ad (Fw W) Tryz.prog Cd:=fun l=>(D7 hW)
 refine Ar (D:=Cq) (C:=fun l=>Cd) (wr:=(fun _=>false)) rfl Ap hD hC0 Tryz.func211 (fun _ _=>none) (fun _=>rfl) ?_
 intro l hf hp
 clear hf
 have hp:l.length≤200000000:=hp
 (conv=>whnf)
 (repeat' ((first
  |((with_reducible refine aI ?_ ?_);focus (first|omega|((with_reducible refine⟨?_,?_⟩)<;>first|with_reducible assumption|omega)|(simp only[Aq,ty2,ty3,ty4,ty5,ty9,Cw,Co,Cx,Cp,Cu,Cy,Cv,Cz,Bm,Bj,Bn,Bi,Bo,Bp,Bq];first|omega|(refine⟨?_,?_⟩<;>omega))|assumption|decide))
  |(split<;>rename_i hh<;>(try simp only[wS] at hh))
  |fail)<;>(conv=>whnf)))
 all_goals try (intro e he;exfalso;omega)
 ·refine⟨⟨by omega,fun e he=>by unfold B0;rw[if_neg (by omega)];rfl⟩,?_⟩
  (conv=>whnf)
  (repeat' ((first
   |((with_reducible refine aI ?_ ?_);focus (first|omega|decide))
   |fail)<;>(conv=>whnf)))
  intro e he
  show B0 0 _ _ (0+e)=_
  unfold B0
  rw[if_neg (by omega),Nat.zero_add,Nat.sub_zero]
def iH:PC:=PC.of (fun l:List Tax=>[slE 2 Tax.enc l]) (fun l=>l.length≤200000000) (fun l=>slE 2 Tax.enc l)
theorem Fb{W:World}(hW:Tabs W):GoodP (Fw W) Tryz.prog 212 iH:=by
 have hD:=Df hW
 have hC0:∀ l:List Tax,Ad (Fw W) Tryz.prog Cd:=fun l=>(D7 hW)
 refine Ar (D:=Cq) (C:=fun l=>Cd) (wr:=(fun _=>false)) rfl Ap hD hC0 Tryz.func212 (fun _ _=>none) (fun _=>rfl) ?_
 intro l hf hp
 clear hf
 have hp:l.length≤200000000:=hp
 (conv=>whnf)
 (repeat' ((first
  |((with_reducible refine aI ?_ ?_);focus (first|omega|((with_reducible refine⟨?_,?_⟩)<;>first|with_reducible assumption|omega)|(simp only[Aq,ty2,ty3,ty4,ty5,ty9,Cw,Co,Cx,Cp,Cu,Cy,Cv,Cz,Bm,Bj,Bn,Bi,Bo,Bp,Bq];first|omega|(refine⟨?_,?_⟩<;>omega))|assumption|decide))
  |(split<;>rename_i hh<;>(try simp only[wS] at hh))
  |fail)<;>(conv=>whnf)))
 all_goals try (intro e he;exfalso;omega)
 ·refine⟨⟨by omega,fun e he=>by unfold B0;rw[if_neg (by omega)];rfl⟩,?_⟩
  (conv=>whnf)
  (repeat' ((first
   |((with_reducible refine aI ?_ ?_);focus (first|omega|decide))
   |fail)<;>(conv=>whnf)))
  intro e he
  show B0 0 _ _ (0+e)=_
  unfold B0
  rw[if_neg (by omega),Nat.zero_add,Nat.sub_zero]
def Ah4:PC:=PC.of (fun r:Request=>[.agg r.enc]) D5 (fun r=>.agg r.enc)
def Lw:PT:=C2 [(211,iG),(212,iH)]
theorem Rm{W:World}(hW:Tabs W):Cl (Fw W) Tryz.prog Lw:=(Ab Tryz.call211 (D8 hW) (Ab Tryz.call212 (Fb hW) As))
def Lx:FuncId→Option Ctr:=Aw Lw []
theorem dA{W:World}(hW:Tabs W):Ad (Fw W) Tryz.prog Lx:=(Au (Rm hW))
theorem dB{W:World}(hW:Tabs W):GoodP (Fw W) Tryz.prog 140 Ah4:=by
 have hD:=Rm hW
 have hC0:∀ r:Request,Ad (Fw W) Tryz.prog Lx:=fun r=>(dA hW)
 refine Ar (D:=Lw) (C:=fun r=>Lx) (wr:=(fun _=>false)) rfl Ap hD hC0 Tryz.func140 (fun _ _=>none) (fun _=>rfl) ?_
 intro r hf hp
 clear hf
 obtain⟨hp1,hp2⟩:=hp
 (conv=>whnf)
 refine⟨r.coupons,hp1,?_,?_⟩
 ·exact Ac _
 (conv=>whnf)
 refine⟨r.taxes,hp2,?_,?_⟩
 ·exact Ac _
 (conv=>whnf)
 (repeat' ((first
  |with_reducible exact⟨⟩
  |((with_reducible refine aI ?_ ?_);focus (first|exact tO|with_reducible rfl|decide))
  |with_reducible refine iA ?_ ?_
  |fail)<;>(conv=>whnf)))
 all_goals (intro e he;rfl)
def Axh:PC:=PC.of (fun r:Request=>[.agg r.enc]) (fun r=>(r.kind≠1∧r.kind≠5)∧D5 r) (fun r=>.bool (sB (Ah r)))
def C1:PT:=C2 [(73,gY),(127,T9),(140,Ah4),(142,Oi),(195,Pw),(275,Sz)]
theorem Fc{W:World}(hW:Tabs W):Cl (Fw W) Tryz.prog C1:=(Ab Tryz.call73 (Ja hW) (Ab Tryz.call127 (Mu hW) (Ab Tryz.call140 (dB hW) (Ab Tryz.call142 (Ni hW) (Ab Tryz.call195 (Px hW) (Ab Tryz.call275 (P5 hW) As))))))
def An6:FuncId→Option Ctr:=Aw C1 []
theorem An7{W:World}(hW:Tabs W):Ad (Fw W) Tryz.prog An6:=(Au (Fc hW))
def Ah5:List (FuncId × Ctr):=(298,Uu TY An6 C1 (fun _=>false) (fun _ _ _=>none) Tryz.f298)::[]
def Ah6:FuncId→Option Ctr:=Aw C1 Ah5
theorem Ah7{W:World}(hW:Tabs W):Ad (Fw W) Tryz.prog Ah6:=Ae Tryz.call298 (T7 rfl Ap (Fc hW) (An7 hW) Tryz.func298 (fun _ _ _=>none)) (An7 hW)
def Ah8:List (FuncId × Ctr):=(273,Uu TY Ah6 C1 (fun _=>false) (fun _ _ _=>none) Tryz.f273)::Ah5
def Ah9:FuncId→Option Ctr:=Aw C1 Ah8
theorem Aia{W:World}(hW:Tabs W):Ad (Fw W) Tryz.prog Ah9:=Ae Tryz.call273 (T7 rfl Ap (Fc hW) (Ah7 hW) Tryz.func273 (fun _ _ _=>none)) (Ah7 hW)
def Aib:List (FuncId × Ctr):=(276,inl TY Ah9 C1 (fun _=>false) (fun _ _ _=>none) Tryz.f276)::Ah8
def Aic:FuncId→Option Ctr:=Aw C1 Aib
theorem Aid{W:World}(hW:Tabs W):Ad (Fw W) Tryz.prog Aic:=Ae Tryz.call276 (Ag rfl Ap (Fc hW) (Aia hW) Tryz.func276 (fun _ _ _=>none)) (Aia hW)
def Aie:List (FuncId × Ctr):=(279,inl TY Aic C1 (fun _=>false) (fun _ _ _=>none) Tryz.f279)::Aib
def Aif:FuncId→Option Ctr:=Aw C1 Aie
theorem Aig{W:World}(hW:Tabs W):Ad (Fw W) Tryz.prog Aif:=Ae Tryz.call279 (Ag rfl Ap (Fc hW) (Aid hW) Tryz.func279 (fun _ _ _=>none)) (Aid hW)
def Aih:List (FuncId × Ctr):=(259,inl TY Aif C1 (fun _=>false) (fun _ _ _=>none) Tryz.f259)::Aie
def Aii:FuncId→Option Ctr:=Aw C1 Aih
theorem Aij{W:World}(hW:Tabs W):Ad (Fw W) Tryz.prog Aii:=Ae Tryz.call259 (Ag rfl Ap (Fc hW) (Aig hW) Tryz.func259 (fun _ _ _=>none)) (Aig hW)
def Aik:List (FuncId × Ctr):=(254,inl TY Aii C1 (fun _=>false) (fun _ _ _=>none) Tryz.f254)::Aih
def Ail:FuncId→Option Ctr:=Aw C1 Aik
theorem Aim{W:World}(hW:Tabs W):Ad (Fw W) Tryz.prog Ail:=Ae Tryz.call254 (Ag rfl Ap (Fc hW) (Aij hW) Tryz.func254 (fun _ _ _=>none)) (Aij hW)
def Ain:List (FuncId × Ctr):=(255,inl TY Ail C1 (fun _=>false) (fun _ _ _=>none) Tryz.f255)::Aik
def Aio:FuncId→Option Ctr:=Aw C1 Ain
theorem Aip{W:World}(hW:Tabs W):Ad (Fw W) Tryz.prog Aio:=Ae Tryz.call255 (Ag rfl Ap (Fc hW) (Aim hW) Tryz.func255 (fun _ _ _=>none)) (Aim hW)
def Aiq:List (FuncId × Ctr):=(274,inl TY Aio C1 (fun _=>false) (fun _ _ _=>none) Tryz.f274)::Ain
def Air:FuncId→Option Ctr:=Aw C1 Aiq
theorem Ais{W:World}(hW:Tabs W):Ad (Fw W) Tryz.prog Air:=Ae Tryz.call274 (Ag rfl Ap (Fc hW) (Aip hW) Tryz.func274 (fun _ _ _=>none)) (Aip hW)
def Ait:List (FuncId × Ctr):=(225,inl TY Air C1 (fun _=>false) (fun _ _ _=>none) Tryz.f225)::Aiq
def Aiu:FuncId→Option Ctr:=Aw C1 Ait
theorem Aiv{W:World}(hW:Tabs W):Ad (Fw W) Tryz.prog Aiu:=Ae Tryz.call225 (Ag rfl Ap (Fc hW) (Ais hW) Tryz.func225 (fun _ _ _=>none)) (Ais hW)
def Acm:List (FuncId × Ctr):=(226,inl TY Aiu C1 (fun _=>false) (fun _ _ _=>none) Tryz.f226)::Ait
def Acn:FuncId→Option Ctr:=Aw C1 Acm
theorem Aco{W:World}(hW:Tabs W):Ad (Fw W) Tryz.prog Acn:=Ae Tryz.call226 (Ag rfl Ap (Fc hW) (Aiv hW) Tryz.func226 (fun _ _ _=>none)) (Aiv hW)
def Acp:List (FuncId × Ctr):=(230,inl TY Acn C1 (fun _=>false) (fun _ _ _=>none) Tryz.f230)::Acm
def Acr:FuncId→Option Ctr:=Aw C1 Acp
theorem Acs{W:World}(hW:Tabs W):Ad (Fw W) Tryz.prog Acr:=Ae Tryz.call230 (Ag rfl Ap (Fc hW) (Aco hW) Tryz.func230 (fun _ _ _=>none)) (Aco hW)
def Acu:List (FuncId × Ctr):=(231,inl TY Acr C1 (fun _=>false) (fun _ _ _=>none) Tryz.f231)::Acp
def Acv:FuncId→Option Ctr:=Aw C1 Acu
theorem Acw{W:World}(hW:Tabs W):Ad (Fw W) Tryz.prog Acv:=Ae Tryz.call231 (Ag rfl Ap (Fc hW) (Acs hW) Tryz.func231 (fun _ _ _=>none)) (Acs hW)
def Acx:List (FuncId × Ctr):=(232,inl TY Acv C1 (fun _=>false) (fun _ _ _=>none) Tryz.f232)::Acu
def Acy:FuncId→Option Ctr:=Aw C1 Acx
theorem Acz{W:World}(hW:Tabs W):Ad (Fw W) Tryz.prog Acy:=Ae Tryz.call232 (Ag rfl Ap (Fc hW) (Acw hW) Tryz.func232 (fun _ _ _=>none)) (Acw hW)
def Ac0:List (FuncId × Ctr):=(233,inl TY Acy C1 (fun _=>false) (fun _ _ _=>none) Tryz.f233)::Acx
def Ac1:FuncId→Option Ctr:=Aw C1 Ac0
theorem Ac2{W:World}(hW:Tabs W):Ad (Fw W) Tryz.prog Ac1:=Ae Tryz.call233 (Ag rfl Ap (Fc hW) (Acz hW) Tryz.func233 (fun _ _ _=>none)) (Acz hW)
def Ac3:List (FuncId × Ctr):=(227,inl TY Ac1 C1 (fun _=>false) (fun _ _ _=>none) Tryz.f227)::Ac0
def Ac4:FuncId→Option Ctr:=Aw C1 Ac3
theorem Ac5{W:World}(hW:Tabs W):Ad (Fw W) Tryz.prog Ac4:=Ae Tryz.call227 (Ag rfl Ap (Fc hW) (Ac2 hW) Tryz.func227 (fun _ _ _=>none)) (Ac2 hW)
def Ac6:List (FuncId × Ctr):=(235,inl TY Ac4 C1 (fun _=>false) (fun _ _ _=>none) Tryz.f235)::Ac3
def Ac7:FuncId→Option Ctr:=Aw C1 Ac6
theorem Ac8{W:World}(hW:Tabs W):Ad (Fw W) Tryz.prog Ac7:=Ae Tryz.call235 (Ag rfl Ap (Fc hW) (Ac5 hW) Tryz.func235 (fun _ _ _=>none)) (Ac5 hW)
def Ac9:List (FuncId × Ctr):=(164,inl TY Ac7 C1 (fun _=>false) (fun _ _ _=>none) Tryz.f164)::Ac6
def Ada:FuncId→Option Ctr:=Aw C1 Ac9
theorem Adb{W:World}(hW:Tabs W):Ad (Fw W) Tryz.prog Ada:=Ae Tryz.call164 (Ag rfl Ap (Fc hW) (Ac8 hW) Tryz.func164 (fun _ _ _=>none)) (Ac8 hW)
def qX:List AV→List Blk→Nat→Option LR:=fun _ _ i=>cond (Nat.beq i 2) (some (.unroll 7)) none
def An8:List (FuncId × Ctr):=(141,inl TY Ada C1 (fun _=>false) (qX) Tryz.f141)::Ac9
def iI:FuncId→Option Ctr:=Aw C1 An8
theorem An9{W:World}(hW:Tabs W):Ad (Fw W) Tryz.prog iI:=Ae Tryz.call141 (Ag rfl Ap (Fc hW) (Adb hW) Tryz.func141 (qX)) (Adb hW)
set_option maxHeartbeats 4000000 in
theorem Axi{W:World}(hW:Tabs W):GoodP (Fw W) Tryz.prog 71 Axh:=by
 have hD:=Fc hW
 have hC0:∀ r:Request,Ad (Fw W) Tryz.prog iI:=fun r=>(An9 hW)
 refine Ar (D:=C1) (C:=fun r=>iI) (wr:=(fun _=>false)) rfl Ap hD hC0 Tryz.func71 (fun _ _=>none) (fun _=>rfl) ?_
 rintro⟨key,kind,day,ticket,coupon,status,locator,coupons,taxes,amount,frm,til⟩ hf hp
 clear hf
 by_cases h:1≤kind∧kind≤10
 ·rcases kinds h with rfl|rfl|rfl|rfl|rfl|rfl|rfl|rfl|rfl|rfl
  ·exact absurd rfl hp.1.1
  ·have hex: ¬Ck 2=[]:=by rw[Ci (by decide)];decide
   (conv=>whnf)
   (repeat' ((first
    |(exact absurd (by with_reducible assumption) hex)
    |((with_reducible refine aI ?_ ?_);focus (with_reducible exact⟨⟩))
    |(split<;>rename_i hh<;>(try simp only[wS] at hh))
    |fail)<;>(conv=>whnf)))
   refine⟨(⟨key,2,day,ticket,coupon,status,locator,coupons,taxes,amount,frm,til⟩:Request),hp.2,?_,?_⟩
   ·exact Ac _
   (conv=>whnf)
   (repeat' ((first
    |(with_reducible refine Ao ?_)
    |((with_reducible apply B6);(focus rfl);(focus rfl))
    |((with_reducible apply Bz);(focus rfl);(focus rfl);(focus rfl))
    |((refine⟨rfl,_,?_,rfl⟩);(try simp only[Bd,Cg,Be,cond_true,cond_false,Bool.true_and,Bool.and_false,Bool.false_and])<;>first|rfl|exact C4 (by omega)|exact C5 (by omega)|exact C6 (by omega)|(rename_i hh;first|(simp[hh];done)|(rcases hh with hh|hh<;>simp[hh];done)))
    |((with_reducible refine aI ?_ ?_);focus (first|with_reducible exact⟨⟩|exact tO|omega|exact tK))
    |(split<;>rename_i hh<;>(try simp only[wS] at hh))
    |with_reducible refine lnI fun hln=>?_
    |fail)<;>(conv=>whnf)))
   all_goals (try (show _=_;simp only[wQ]))
   ·refine⟨((⟨[],2,0,0,0,0,locator,coupons,taxes,amount,frm,til⟩,⟨[],2,0,0,0,0,[],[],[],0,0,0⟩):Request × Request),True.intro,?_,?_⟩
    ·exact tL
    (conv=>whnf)
    all_goals (try (show _=_;simp only[wQ]))
    rw[cond_true,Bool.eq_iff_iff,Bb,qP]
    have kl:=@Hu key
    simp only[By,Bool.and_eq_true,beq_iff_eq,Request.mk.injEq,true_and,and_true] at hh ⊢
    exact⟨fun h=>by simp_all,fun h=>by simp_all⟩
   ·symm
    refine Bool.eq_false_iff.2 fun hm=>?_
    rw[qP] at hm
    have kl:=@Hu key
    have hm2:=hm
    try simp only[and_assoc] at hm2
    simp_all[Dj,Ca]
    all_goals omega
  ·have hex: ¬Ck 3=[]:=by rw[Ci (by decide)];decide
   (conv=>whnf)
   (repeat' ((first
    |(exact absurd (by with_reducible assumption) hex)
    |((with_reducible refine aI ?_ ?_);focus (with_reducible exact⟨⟩))
    |(split<;>rename_i hh<;>(try simp only[wS] at hh))
    |fail)<;>(conv=>whnf)))
   refine⟨(⟨key,3,day,ticket,coupon,status,locator,coupons,taxes,amount,frm,til⟩:Request),hp.2,?_,?_⟩
   ·exact Ac _
   (conv=>whnf)
   (repeat' ((first
    |(with_reducible refine Ao ?_)
    |((with_reducible apply B6);(focus rfl);(focus rfl))
    |((with_reducible apply Bz);(focus rfl);(focus rfl);(focus rfl))
    |((refine⟨rfl,_,?_,rfl⟩);(try simp only[Bd,Cg,Be,cond_true,cond_false,Bool.true_and,Bool.and_false,Bool.false_and])<;>first|rfl|exact C4 (by omega)|exact C5 (by omega)|exact C6 (by omega)|(rename_i hh;first|(simp[hh];done)|(rcases hh with hh|hh<;>simp[hh];done)))
    |((with_reducible refine aI ?_ ?_);focus (first|with_reducible exact⟨⟩|exact tO|omega|exact tK))
    |(split<;>rename_i hh<;>(try simp only[wS] at hh))
    |with_reducible refine lnI fun hln=>?_
    |fail)<;>(conv=>whnf)))
   all_goals (try (show _=_;simp only[wQ]))
   ·refine⟨((⟨[],3,0,0,coupon,status,locator,coupons,taxes,amount,frm,til⟩,⟨[],3,0,0,0,0,[],[],[],0,0,0⟩):Request × Request),True.intro,?_,?_⟩
    ·exact tL
    (conv=>whnf)
    all_goals (try (show _=_;simp only[wQ]))
    rw[cond_true,Bool.eq_iff_iff,Bb,qQ]
    have kl:=@Hu key
    simp only[By,Bool.and_eq_true,beq_iff_eq,Request.mk.injEq,true_and,and_true] at hh ⊢
    exact⟨fun h=>by simp_all,fun h=>by simp_all⟩
   ·symm
    refine Bool.eq_false_iff.2 fun hm=>?_
    rw[qQ] at hm
    have kl:=@Hu key
    have hm2:=hm
    try simp only[and_assoc] at hm2
    simp_all[Dj,Ca]
    all_goals omega
  ·have hex: ¬Ck 4=[]:=by rw[Ci (by decide)];decide
   (conv=>whnf)
   (repeat' ((first
    |(exact absurd (by with_reducible assumption) hex)
    |((with_reducible refine aI ?_ ?_);focus (with_reducible exact⟨⟩))
    |(split<;>rename_i hh<;>(try simp only[wS] at hh))
    |fail)<;>(conv=>whnf)))
   refine⟨(⟨key,4,day,ticket,coupon,status,locator,coupons,taxes,amount,frm,til⟩:Request),hp.2,?_,?_⟩
   ·exact Ac _
   (conv=>whnf)
   (repeat' ((first
    |(with_reducible refine Ao ?_)
    |((with_reducible apply B6);(focus rfl);(focus rfl))
    |((with_reducible apply Bz);(focus rfl);(focus rfl);(focus rfl))
    |((refine⟨rfl,_,?_,rfl⟩);(try simp only[Bd,Cg,Be,cond_true,cond_false,Bool.true_and,Bool.and_false,Bool.false_and])<;>first|rfl|exact C4 (by omega)|exact C5 (by omega)|exact C6 (by omega)|(rename_i hh;first|(simp[hh];done)|(rcases hh with hh|hh<;>simp[hh];done)))
    |((with_reducible refine aI ?_ ?_);focus (first|with_reducible exact⟨⟩|exact tO|omega|exact tK))
    |(split<;>rename_i hh<;>(try simp only[wS] at hh))
    |with_reducible refine lnI fun hln=>?_
    |fail)<;>(conv=>whnf)))
   all_goals (try (show _=_;simp only[wQ]))
   ·refine⟨((⟨[],4,0,0,coupon,status,locator,coupons,taxes,0,frm,til⟩,⟨[],4,0,0,0,0,[],[],[],0,0,0⟩):Request × Request),True.intro,?_,?_⟩
    ·exact tL
    (conv=>whnf)
    all_goals (try (show _=_;simp only[wQ]))
    rw[cond_true,Bool.eq_iff_iff,Bb,qR]
    have kl:=@Hu key
    simp only[By,Bool.and_eq_true,beq_iff_eq,Request.mk.injEq,true_and,and_true] at hh ⊢
    exact⟨fun h=>by simp_all,fun h=>by simp_all⟩
   ·symm
    refine Bool.eq_false_iff.2 fun hm=>?_
    rw[qR] at hm
    have kl:=@Hu key
    have hm2:=hm
    try simp only[and_assoc] at hm2
    simp_all[Dj,Ca]
    all_goals omega
  ·exact absurd rfl hp.1.2
  ·have hex: ¬Ck 6=[]:=by rw[Ci (by decide)];decide
   (conv=>whnf)
   (repeat' ((first
    |(exact absurd (by with_reducible assumption) hex)
    |((with_reducible refine aI ?_ ?_);focus (with_reducible exact⟨⟩))
    |(split<;>rename_i hh<;>(try simp only[wS] at hh))
    |fail)<;>(conv=>whnf)))
   refine⟨(⟨key,6,day,ticket,coupon,status,locator,coupons,taxes,amount,frm,til⟩:Request),hp.2,?_,?_⟩
   ·exact Ac _
   (conv=>whnf)
   (repeat' ((first
    |(with_reducible refine Ao ?_)
    |((with_reducible apply B6);(focus rfl);(focus rfl))
    |((with_reducible apply Bz);(focus rfl);(focus rfl);(focus rfl))
    |((refine⟨rfl,_,?_,rfl⟩);(try simp only[Bd,Cg,Be,cond_true,cond_false,Bool.true_and,Bool.and_false,Bool.false_and])<;>first|rfl|exact C4 (by omega)|exact C5 (by omega)|exact C6 (by omega)|(rename_i hh;first|(simp[hh];done)|(rcases hh with hh|hh<;>simp[hh];done)))
    |((with_reducible refine aI ?_ ?_);focus (first|with_reducible exact⟨⟩|exact tO|omega|exact tK))
    |(split<;>rename_i hh<;>(try simp only[wS] at hh))
    |with_reducible refine lnI fun hln=>?_
    |fail)<;>(conv=>whnf)))
   all_goals (try (show _=_;simp only[wQ]))
   ·refine⟨((⟨[],6,0,0,0,status,locator,coupons,taxes,amount,frm,til⟩,⟨[],6,0,0,0,0,[],[],[],0,0,0⟩):Request × Request),True.intro,?_,?_⟩
    ·exact tL
    (conv=>whnf)
    all_goals (try (show _=_;simp only[wQ]))
    rw[cond_true,Bool.eq_iff_iff,Bb,qS]
    have kl:=@Hu key
    simp only[By,Bool.and_eq_true,beq_iff_eq,Request.mk.injEq,true_and,and_true] at hh ⊢
    exact⟨fun h=>by simp_all,fun h=>by simp_all⟩
   ·symm
    refine Bool.eq_false_iff.2 fun hm=>?_
    rw[qS] at hm
    have kl:=@Hu key
    have hm2:=hm
    try simp only[and_assoc] at hm2
    simp_all[Dj,Ca]
    all_goals omega
  ·have hex: ¬Ck 7=[]:=by rw[Ci (by decide)];decide
   (conv=>whnf)
   (repeat' ((first
    |(exact absurd (by with_reducible assumption) hex)
    |((with_reducible refine aI ?_ ?_);focus (with_reducible exact⟨⟩))
    |(split<;>rename_i hh<;>(try simp only[wS] at hh))
    |fail)<;>(conv=>whnf)))
   refine⟨(⟨key,7,day,ticket,coupon,status,locator,coupons,taxes,amount,frm,til⟩:Request),hp.2,?_,?_⟩
   ·exact Ac _
   (conv=>whnf)
   (repeat' ((first
    |(with_reducible refine Ao ?_)
    |((with_reducible apply B6);(focus rfl);(focus rfl))
    |((with_reducible apply Bz);(focus rfl);(focus rfl);(focus rfl))
    |((refine⟨rfl,_,?_,rfl⟩);(try simp only[Bd,Cg,Be,cond_true,cond_false,Bool.true_and,Bool.and_false,Bool.false_and])<;>first|rfl|exact C4 (by omega)|exact C5 (by omega)|exact C6 (by omega)|(rename_i hh;first|(simp[hh];done)|(rcases hh with hh|hh<;>simp[hh];done)))
    |((with_reducible refine aI ?_ ?_);focus (first|with_reducible exact⟨⟩|exact tO|omega|exact tK))
    |(split<;>rename_i hh<;>(try simp only[wS] at hh))
    |with_reducible refine lnI fun hln=>?_
    |fail)<;>(conv=>whnf)))
   all_goals (try (show _=_;simp only[wQ]))
   ·refine⟨((⟨[],7,0,0,0,status,locator,coupons,taxes,amount,frm,til⟩,⟨[],7,0,0,0,0,[],[],[],0,0,0⟩):Request × Request),True.intro,?_,?_⟩
    ·exact tL
    (conv=>whnf)
    all_goals (try (show _=_;simp only[wQ]))
    rw[cond_true,Bool.eq_iff_iff,Bb,qT]
    have kl:=@Hu key
    simp only[By,Bool.and_eq_true,beq_iff_eq,Request.mk.injEq,true_and,and_true] at hh ⊢
    exact⟨fun h=>by simp_all,fun h=>by simp_all⟩
   ·symm
    refine Bool.eq_false_iff.2 fun hm=>?_
    rw[qT] at hm
    have kl:=@Hu key
    have hm2:=hm
    try simp only[and_assoc] at hm2
    simp_all[Dj,Ca]
    all_goals omega
  ·have hex: ¬Ck 8=[]:=by rw[Ci (by decide)];decide
   (conv=>whnf)
   (repeat' ((first
    |(exact absurd (by with_reducible assumption) hex)
    |((with_reducible refine aI ?_ ?_);focus (with_reducible exact⟨⟩))
    |(split<;>rename_i hh<;>(try simp only[wS] at hh))
    |fail)<;>(conv=>whnf)))
   refine⟨(⟨key,8,day,ticket,coupon,status,locator,coupons,taxes,amount,frm,til⟩:Request),hp.2,?_,?_⟩
   ·exact Ac _
   (conv=>whnf)
   (repeat' ((first
    |(with_reducible refine Ao ?_)
    |((with_reducible apply B6);(focus rfl);(focus rfl))
    |((refine⟨rfl,_,?_,rfl⟩);(try simp only[Bd,Cg,Be,cond_true,cond_false,Bool.true_and,Bool.and_false,Bool.false_and])<;>first|rfl|exact C4 (by omega)|exact C5 (by omega)|exact C6 (by omega)|(rename_i hh;first|(simp[hh];done)|(rcases hh with hh|hh<;>simp[hh];done)))
    |((with_reducible refine aI ?_ ?_);focus (first|with_reducible exact⟨⟩|exact tO|omega|exact tK))
    |(split<;>rename_i hh<;>(try simp only[wS] at hh))
    |with_reducible refine lnI fun hln=>?_
    |fail)<;>(conv=>whnf)))
   all_goals (try (show _=_;simp only[wQ]))
   ·refine⟨((⟨key,8,day,0,coupon,status,locator,coupons,taxes,amount,frm,til⟩,⟨[],8,0,0,0,0,[],[],[],0,0,0⟩):Request × Request),True.intro,?_,?_⟩
    ·exact tL
    (conv=>whnf)
    all_goals (try (show _=_;simp only[wQ]))
    rw[cond_true,Bool.eq_iff_iff,Bb,qU]
    simp only[By,Bool.and_eq_true,beq_iff_eq,Request.mk.injEq,true_and,and_true] at hh ⊢
    exact⟨fun h=>by simp_all,fun h=>by simp_all⟩
   ·symm
    refine Bool.eq_false_iff.2 fun hm=>?_
    rw[qU] at hm
    have hm2:=hm
    try simp only[and_assoc] at hm2
    simp_all[Dj,Ca]
    all_goals omega
  ·have hex: ¬Ck 9=[]:=by rw[Ci (by decide)];decide
   (conv=>whnf)
   (repeat' ((first
    |(exact absurd (by with_reducible assumption) hex)
    |((with_reducible refine aI ?_ ?_);focus (with_reducible exact⟨⟩))
    |(split<;>rename_i hh<;>(try simp only[wS] at hh))
    |fail)<;>(conv=>whnf)))
   refine⟨(⟨key,9,day,ticket,coupon,status,locator,coupons,taxes,amount,frm,til⟩:Request),hp.2,?_,?_⟩
   ·exact Ac _
   (conv=>whnf)
   (repeat' ((first
    |(with_reducible refine Ao ?_)
    |((with_reducible apply B6);(focus rfl);(focus rfl))
    |((refine⟨rfl,_,?_,rfl⟩);(try simp only[Bd,Cg,Be,cond_true,cond_false,Bool.true_and,Bool.and_false,Bool.false_and])<;>first|rfl|exact C4 (by omega)|exact C5 (by omega)|exact C6 (by omega)|(rename_i hh;first|(simp[hh];done)|(rcases hh with hh|hh<;>simp[hh];done)))
    |((with_reducible refine aI ?_ ?_);focus (first|with_reducible exact⟨⟩|exact tO|omega|exact tK))
    |(split<;>rename_i hh<;>(try simp only[wS] at hh))
    |with_reducible refine lnI fun hln=>?_
    |fail)<;>(conv=>whnf)))
   all_goals (try (show _=_;simp only[wQ]))
   ·refine⟨((⟨key,9,day,ticket,coupon,status,[],coupons,taxes,amount,frm,til⟩,⟨[],9,0,0,0,0,[],[],[],0,0,0⟩):Request × Request),True.intro,?_,?_⟩
    ·exact tL
    (conv=>whnf)
    all_goals (try (show _=_;simp only[wQ]))
    rw[cond_true,Bool.eq_iff_iff,Bb,qV]
    simp only[By,Bool.and_eq_true,beq_iff_eq,Request.mk.injEq,true_and,and_true] at hh ⊢
    exact⟨fun h=>by simp_all,fun h=>by simp_all⟩
   ·symm
    refine Bool.eq_false_iff.2 fun hm=>?_
    rw[qV] at hm
    have hm2:=hm
    try simp only[and_assoc] at hm2
    simp_all[Dj,Ca]
    all_goals omega
  ·have hex: ¬Ck 10=[]:=by rw[Ci (by decide)];decide
   (conv=>whnf)
   (repeat' ((first
    |(exact absurd (by with_reducible assumption) hex)
    |((with_reducible refine aI ?_ ?_);focus (with_reducible exact⟨⟩))
    |(split<;>rename_i hh<;>(try simp only[wS] at hh))
    |fail)<;>(conv=>whnf)))
   refine⟨(⟨key,10,day,ticket,coupon,status,locator,coupons,taxes,amount,frm,til⟩:Request),hp.2,?_,?_⟩
   ·exact Ac _
   (conv=>whnf)
   (repeat' ((first
    |(with_reducible refine Ao ?_)
    |((with_reducible apply B6);(focus rfl);(focus rfl))
    |((with_reducible apply Bz);(focus rfl);(focus rfl);(focus rfl))
    |((refine⟨rfl,_,?_,rfl⟩);(try simp only[Bd,Cg,Be,cond_true,cond_false,Bool.true_and,Bool.and_false,Bool.false_and])<;>first|rfl|exact C4 (by omega)|exact C5 (by omega)|exact C6 (by omega)|(rename_i hh;first|(simp[hh];done)|(rcases hh with hh|hh<;>simp[hh];done)))
    |((with_reducible refine aI ?_ ?_);focus (first|exact tO|omega|exact tK))
    |(split<;>rename_i hh<;>(try simp only[wS] at hh))
    |with_reducible refine lnI fun hln=>?_
    |fail)<;>(conv=>whnf)))
   all_goals (try (show _=_;simp only[wQ]))
   ·refine⟨((⟨key,10,day,ticket,coupon,status,locator,coupons,taxes,amount,0,0⟩,⟨[],10,0,0,0,0,[],[],[],0,0,0⟩):Request × Request),True.intro,?_,?_⟩
    ·exact tL
    (conv=>whnf)
    all_goals (try (show _=_;simp only[wQ]))
    rw[cond_true,Bool.eq_iff_iff,Bb,iE]
    simp only[By,Bool.and_eq_true,beq_iff_eq,Request.mk.injEq,true_and,and_true] at hh ⊢
    exact⟨fun h=>by simp_all,fun h=>by simp_all⟩
   ·symm
    refine Bool.eq_false_iff.2 fun hm=>?_
    rw[iE] at hm
    have hm2:=hm
    try simp only[and_assoc] at hm2
    simp_all[Dj,Ca]
    all_goals omega
 ·have hn:Ck kind=[]:=Ach h
  have hm:Ah ⟨key,kind,day,ticket,coupon,status,locator,coupons,taxes,amount,frm,til⟩=false:=P9 h
  (conv=>whnf)
  (repeat' ((first
   |((with_reducible refine aI ?_ ?_);focus (with_reducible exact⟨⟩))
   |(split<;>rename_i hh<;>(try simp only[wS] at hh))
   |fail)<;>(conv=>whnf)))
  all_goals (try (show _=_;simp only[wQ]))
  ·exact hm.symm
  all_goals exact absurd hn (by assumption)
end
end Go.Vc.Z
