/- request.May, of kinds that name no lists. -/
import Derived.Test.YtpmpclbdnakniaaGreatDoorV19
set_option linter.all false
set_option linter.unusedVariables false
set_option linter.unusedSimpArgs false
namespace Go.Vc.Z
open Go Go.Vc Go.Proofs Go.RowKit Go.Pl Go.Lib
theorem B0{g:Bool}{lo n hi:Int}:Dp g lo n hi=true↔g=true∧lo≤n∧n≤hi:=by
 unfold Dp;rw[Dc,Dc];simp
theorem Im{s:List UInt8}(h:Gp s=true):1≤s.length∧s.length≤16:=by
 unfold Gp at h;simp only[Bool.and_eq_true,decide_eq_true_eq] at h;omega
section
variable {key locator : List UInt8} {day ticket coupon status amount frm til : Int} {coupons : List Coupon} {taxes : List Tax}
theorem Mn:Af ⟨key,1,day,ticket,coupon,status,locator,coupons,taxes,amount,frm,til⟩=true↔Gp key=true∧(0≤day∧day≤1000000)∧G3 locator=true∧Fh 12 coupons=true∧Dg taxes=true∧ticket=0∧coupon=0∧status=0∧amount=0∧frm=0∧til=0:=by
 have ho:C1 ⟨key,1,day,ticket,coupon,status,locator,coupons,taxes,amount,frm,til⟩=⟨key,1,day,0,0,0,locator,coupons,taxes,0,0,0⟩:=rfl
 rw[Tf rfl,ho]
 simp only[Hb,Hc,Lr,Hd,Kp,Ni,Ls,Nj,Nk,Lt,Nl,Bool.and_eq_true,Ba,Request.mk.injEq,and_true,true_and,decide_eq_true_eq]
 all_goals (try unfold F7);(try unfold Es);(try unfold Di);(try unfold Jf)
 all_goals simp only[Bool.and_eq_true,decide_eq_true_eq,and_assoc,true_and,and_true]
theorem pM:Af ⟨key,2,day,ticket,coupon,status,locator,coupons,taxes,amount,frm,til⟩=true↔Gp key=true∧(0≤day∧day≤1000000)∧checkN ticket=0∧(1≤coupon∧coupon≤4)∧(1≤status∧status≤9)∧locator=[]∧coupons=[]∧taxes=[]∧amount=0∧frm=0∧til=0:=by
 have ho:C1 ⟨key,2,day,ticket,coupon,status,locator,coupons,taxes,amount,frm,til⟩=⟨key,2,day,ticket,coupon,status,[],[],[],0,0,0⟩:=rfl
 rw[Xu rfl,ho]
 simp only[Hb,Hc,Lr,Hd,Kp,Ni,Ls,Nj,Nk,Lt,Nl,Bool.and_eq_true,Ba,Request.mk.injEq,and_true,true_and,decide_eq_true_eq]
 all_goals (try unfold F7);(try unfold Es);(try unfold Di);(try unfold Jf)
 all_goals simp only[Bool.and_eq_true,decide_eq_true_eq,and_assoc,true_and,and_true]
theorem pN:Af ⟨key,3,day,ticket,coupon,status,locator,coupons,taxes,amount,frm,til⟩=true↔Gp key=true∧(0≤day∧day≤1000000)∧checkN ticket=0∧coupon=0∧status=0∧locator=[]∧coupons=[]∧taxes=[]∧amount=0∧frm=0∧til=0:=by
 have ho:C1 ⟨key,3,day,ticket,coupon,status,locator,coupons,taxes,amount,frm,til⟩=⟨key,3,day,ticket,0,0,[],[],[],0,0,0⟩:=rfl
 rw[Xv rfl,ho]
 simp only[Hb,Hc,Lr,Hd,Kp,Ni,Ls,Nj,Nk,Lt,Nl,Bool.and_eq_true,Ba,Request.mk.injEq,and_true,true_and,decide_eq_true_eq]
 all_goals (try unfold F7);(try unfold Es);(try unfold Di);(try unfold Jf)
 all_goals simp only[Bool.and_eq_true,decide_eq_true_eq,and_assoc,true_and,and_true]
theorem pO:Af ⟨key,4,day,ticket,coupon,status,locator,coupons,taxes,amount,frm,til⟩=true↔Gp key=true∧(0≤day∧day≤1000000)∧checkN ticket=0∧(0≤amount∧amount≤1000000000000)∧coupon=0∧status=0∧locator=[]∧coupons=[]∧taxes=[]∧frm=0∧til=0:=by
 have ho:C1 ⟨key,4,day,ticket,coupon,status,locator,coupons,taxes,amount,frm,til⟩=⟨key,4,day,ticket,0,0,[],[],[],amount,0,0⟩:=rfl
 rw[Xw rfl,ho]
 simp only[Hb,Hc,Lr,Hd,Kp,Ni,Ls,Nj,Nk,Lt,Nl,Bool.and_eq_true,Ba,Request.mk.injEq,and_true,true_and,decide_eq_true_eq]
 all_goals (try unfold F7);(try unfold Es);(try unfold Di);(try unfold Jf)
 all_goals simp only[Bool.and_eq_true,decide_eq_true_eq,and_assoc,true_and,and_true]
theorem Mo:Af ⟨key,5,day,ticket,coupon,status,locator,coupons,taxes,amount,frm,til⟩=true↔Gp key=true∧(0≤day∧day≤1000000)∧checkN ticket=0∧(0≤amount∧amount≤1000000000000)∧Fh 4 coupons=true∧Dg taxes=true∧coupon=0∧status=0∧locator=[]∧frm=0∧til=0:=by
 have ho:C1 ⟨key,5,day,ticket,coupon,status,locator,coupons,taxes,amount,frm,til⟩=⟨key,5,day,ticket,0,0,[],coupons,taxes,amount,0,0⟩:=rfl
 rw[Xx rfl,ho]
 simp only[Hb,Hc,Lr,Hd,Kp,Ni,Ls,Nj,Nk,Lt,Nl,Bool.and_eq_true,Ba,Request.mk.injEq,and_true,true_and,decide_eq_true_eq]
 all_goals (try unfold F7);(try unfold Es);(try unfold Di);(try unfold Jf)
 all_goals simp only[Bool.and_eq_true,decide_eq_true_eq,and_assoc,true_and,and_true]
theorem pP:Af ⟨key,6,day,ticket,coupon,status,locator,coupons,taxes,amount,frm,til⟩=true↔Gp key=true∧(0≤day∧day≤1000000)∧checkN ticket=0∧(1≤coupon∧coupon≤4)∧status=0∧locator=[]∧coupons=[]∧taxes=[]∧amount=0∧frm=0∧til=0:=by
 have ho:C1 ⟨key,6,day,ticket,coupon,status,locator,coupons,taxes,amount,frm,til⟩=⟨key,6,day,ticket,coupon,0,[],[],[],0,0,0⟩:=rfl
 rw[Xy rfl,ho]
 simp only[Hb,Hc,Lr,Hd,Kp,Ni,Ls,Nj,Nk,Lt,Nl,Bool.and_eq_true,Ba,Request.mk.injEq,and_true,true_and,decide_eq_true_eq]
 all_goals (try unfold F7);(try unfold Es);(try unfold Di);(try unfold Jf)
 all_goals simp only[Bool.and_eq_true,decide_eq_true_eq,and_assoc,true_and,and_true]
theorem pQ:Af ⟨key,7,day,ticket,coupon,status,locator,coupons,taxes,amount,frm,til⟩=true↔Gp key=true∧(0≤day∧day≤1000000)∧checkN ticket=0∧(1≤coupon∧coupon≤4)∧status=0∧locator=[]∧coupons=[]∧taxes=[]∧amount=0∧frm=0∧til=0:=by
 have ho:C1 ⟨key,7,day,ticket,coupon,status,locator,coupons,taxes,amount,frm,til⟩=⟨key,7,day,ticket,coupon,0,[],[],[],0,0,0⟩:=rfl
 rw[Xz rfl,ho]
 simp only[Hb,Hc,Lr,Hd,Kp,Ni,Ls,Nj,Nk,Lt,Nl,Bool.and_eq_true,Ba,Request.mk.injEq,and_true,true_and,decide_eq_true_eq]
 all_goals (try unfold F7);(try unfold Es);(try unfold Di);(try unfold Jf)
 all_goals simp only[Bool.and_eq_true,decide_eq_true_eq,and_assoc,true_and,and_true]
theorem pR:Af ⟨key,8,day,ticket,coupon,status,locator,coupons,taxes,amount,frm,til⟩=true↔checkN ticket=0∧key=[]∧day=0∧coupon=0∧status=0∧locator=[]∧coupons=[]∧taxes=[]∧amount=0∧frm=0∧til=0:=by
 have ho:C1 ⟨key,8,day,ticket,coupon,status,locator,coupons,taxes,amount,frm,til⟩=⟨[],8,0,ticket,0,0,[],[],[],0,0,0⟩:=rfl
 rw[X0 rfl,ho]
 simp only[Hb,Hc,Lr,Hd,Kp,Ni,Ls,Nj,Nk,Lt,Nl,Bool.and_eq_true,Ba,Request.mk.injEq,and_true,true_and,decide_eq_true_eq]
 all_goals (try unfold F7);(try unfold Es);(try unfold Di);(try unfold Jf)
 all_goals simp only[Bool.and_eq_true,decide_eq_true_eq,and_assoc,true_and,and_true]
theorem pS:Af ⟨key,9,day,ticket,coupon,status,locator,coupons,taxes,amount,frm,til⟩=true↔G3 locator=true∧key=[]∧day=0∧ticket=0∧coupon=0∧status=0∧coupons=[]∧taxes=[]∧amount=0∧frm=0∧til=0:=by
 have ho:C1 ⟨key,9,day,ticket,coupon,status,locator,coupons,taxes,amount,frm,til⟩=⟨[],9,0,0,0,0,locator,[],[],0,0,0⟩:=rfl
 rw[X1 rfl,ho]
 simp only[Hb,Hc,Lr,Hd,Kp,Ni,Ls,Nj,Nk,Lt,Nl,Bool.and_eq_true,Ba,Request.mk.injEq,and_true,true_and,decide_eq_true_eq]
 all_goals (try unfold F7);(try unfold Es);(try unfold Di);(try unfold Jf)
 all_goals simp only[Bool.and_eq_true,decide_eq_true_eq,and_assoc,true_and,and_true]
theorem gI:Af ⟨key,10,day,ticket,coupon,status,locator,coupons,taxes,amount,frm,til⟩=true↔((0≤frm∧frm≤1000000)∧(0≤til∧til≤1000000))∧key=[]∧day=0∧ticket=0∧coupon=0∧status=0∧locator=[]∧coupons=[]∧taxes=[]∧amount=0:=by
 have ho:C1 ⟨key,10,day,ticket,coupon,status,locator,coupons,taxes,amount,frm,til⟩=⟨[],10,0,0,0,0,[],[],[],0,frm,til⟩:=rfl
 rw[Um rfl,ho]
 simp only[Hb,Hc,Lr,Hd,Kp,Ni,Ls,Nj,Nk,Lt,Nl,Bool.and_eq_true,Ba,Request.mk.injEq,and_true,true_and,decide_eq_true_eq]
 all_goals (try unfold F7);(try unfold Es);(try unfold Di);(try unfold Jf)
 all_goals simp only[Bool.and_eq_true,decide_eq_true_eq,and_assoc,true_and,and_true]
end
noncomputable section
set_option maxRecDepth 100000
attribute [local irreducible] inK Utf8.decode Utf8.encode Lib.itoa Pl.worth Pl.allDig
attribute [local irreducible] Lib.join
def Aml(H:List Blk)(q e j:Nat)(c:AV):List Blk:=match H[q]? with|some (.row sz len get T)=>H.set q (.row sz len (fun k=>Vt (decide (k=e)) (over (get e) j [c]) (get k)) T)|_=>H
def Atr(H:List Blk)(q e j:Nat):Option AV:=match H[q]? with|some (.row _ _ get _)=>(get e)[j]? |_=>none
theorem pT{TY:TypeId→Option TI}{C:FuncId→Option Ctr}{D:PT}{wr:Tmp→Bool}{L:List AV→List Blk→Nat→Option LR}{fn:Func}{cs:List AV}{H:List Blk}{Q:AV→List Blk→Prop}(r:AV)(F:Bool→List Blk)(B:Bool)(h1:fnE TY C D wr (L cs H) fn cs H (fun c H'=>c=r∧∃ b,b=B∧H'=F b))(h2:Q r (F (sB B))):Uw TY C D wr L fn cs H Q:=by
 refine dW _ h1 ?_
 rintro c H' ⟨rfl,b,rfl,rfl⟩
 rw[Bh] at h2;exact h2
theorem Afl{TY:TypeId→Option TI}{C:FuncId→Option Ctr}{D:PT}{wr:Tmp→Bool}{L:List AV→List Blk→Nat→Option LR}{fn:Func}{H:List Blk}{Q:AV→List Blk→Prop}{p:Nat}{g m:Bool}(hg:cellOf H p 2=some (.bool g))
  (h1:fnE TY C D wr (L [.ptr p 0,.bool m] H) fn [.ptr p 0,.bool m] H (fun c H'=>c= .tup []∧∃ b,b=(g&&m)∧H'=setCell H p 2 (.bool b)))
  (h2:Q (.tup []) (setCell H p 2 (.bool (sB (g&&m))))):Uw TY C D wr L fn [.ptr p 0,.bool m] H Q:=
 pT _ (fun b=>setCell H p 2 (.bool b)) _ h1 h2
theorem yH{TY:TypeId→Option TI}{C:FuncId→Option Ctr}{D:PT}{wr:Tmp→Bool}{L:List AV→List Blk→Nat→Option LR}{fn:Func}{H:List Blk}{Q:AV→List Blk→Prop}{p q z e j:Nat}{sz lo hi n:Int}{g:Bool}(hg:cellOf H p 2=some (.bool g))(hn:Atr H q e j=some (.int .i64 n))
  (h1:fnE TY C D wr (L [.ptr p 0,.eptr q z e j,.int .i64 sz,.int .i64 lo,.int .i64 hi] H) fn [.ptr p 0,.eptr q z e j,.int .i64 sz,.int .i64 lo,.int .i64 hi] H (fun c H'=>c= .tup []∧∃ b,b=Dp g lo n hi∧H'=Aml (setCell H p 2 (.bool b)) q e j (.int .i64 0)))
  (h2:Q (.tup []) (Aml (setCell H p 2 (.bool (sB (Dp g lo n hi)))) q e j (.int .i64 0))):Uw TY C D wr L fn [.ptr p 0,.eptr q z e j,.int .i64 sz,.int .i64 lo,.int .i64 hi] H Q:=
 pT _ (fun b=>Aml (setCell H p 2 (.bool b)) q e j (.int .i64 0)) _ h1 h2
theorem B8{TY:TypeId→Option TI}{C:FuncId→Option Ctr}{D:PT}{wr:Tmp→Bool}{L:List AV→List Blk→Nat→Option LR}{fn:Func}{cs:List AV}{H:List Blk}{Q:AV→List Blk→Prop}{p:Nat}{g m:Bool}(hcs:cs=[.ptr p 0,.bool m])(hg:cellOf H p 2=some (.bool g))
  (h1:fnE TY C D wr (L [.ptr p 0,.bool m] H) fn [.ptr p 0,.bool m] H (fun c H'=>c= .tup []∧∃ b,b=(g&&m)∧H'=setCell H p 2 (.bool b)))
  (h2:Q (.tup []) (setCell H p 2 (.bool (sB (g&&m))))):Uw TY C D wr L fn cs H Q:=by
 subst hcs;exact Afl hg h1 h2
theorem B6{TY:TypeId→Option TI}{C:FuncId→Option Ctr}{D:PT}{wr:Tmp→Bool}{L:List AV→List Blk→Nat→Option LR}{fn:Func}{cs:List AV}{H:List Blk}{Q:AV→List Blk→Prop}{p q j:Nat}{sz lo hi n:Int}{g:Bool}(hcs:cs=[.ptr p 0,.ptr q j,.int .i64 sz,.int .i64 lo,.int .i64 hi])(hg:cellOf H p 2=some (.bool g))(hn:cellOf H q j=some (.int .i64 n))
  (h1:fnE TY C D wr (L [.ptr p 0,.ptr q j,.int .i64 sz,.int .i64 lo,.int .i64 hi] H) fn [.ptr p 0,.ptr q j,.int .i64 sz,.int .i64 lo,.int .i64 hi] H (fun c H'=>c= .tup []∧∃ b,b=Dp g lo n hi∧H'=setCell (setCell H p 2 (.bool b)) q j (.int .i64 0)))
  (h2:Q (.tup []) (setCell (setCell H p 2 (.bool (sB (Dp g lo n hi)))) q j (.int .i64 0))):Uw TY C D wr L fn cs H Q:=by
 subst hcs;exact Aai hg hn h1 h2
theorem En{TY:TypeId→Option TI}{C:FuncId→Option Ctr}{D:PT}{wr:Tmp→Bool}{L:List AV→List Blk→Nat→Option LR}{fn:Func}{cs:List AV}{H:List Blk}{Q:AV→List Blk→Prop}{p q z e j:Nat}{sz lo hi n:Int}{g:Bool}(hcs:cs=[.ptr p 0,.eptr q z e j,.int .i64 sz,.int .i64 lo,.int .i64 hi])(hg:cellOf H p 2=some (.bool g))(hn:Atr H q e j=some (.int .i64 n))
  (h1:fnE TY C D wr (L [.ptr p 0,.eptr q z e j,.int .i64 sz,.int .i64 lo,.int .i64 hi] H) fn [.ptr p 0,.eptr q z e j,.int .i64 sz,.int .i64 lo,.int .i64 hi] H (fun c H'=>c= .tup []∧∃ b,b=Dp g lo n hi∧H'=Aml (setCell H p 2 (.bool b)) q e j (.int .i64 0)))
  (h2:Q (.tup []) (Aml (setCell H p 2 (.bool (sB (Dp g lo n hi)))) q e j (.int .i64 0))):Uw TY C D wr L fn cs H Q:=by
 subst hcs;exact yH hg hn h1 h2
theorem Db{g:Bool}{lo n hi:Int}(h:lo≤n):(g&&leI n hi)=Dp g lo n hi:=by
 unfold Dp;rw[Dc lo,decide_eq_true h];simp
def Abl(cs:List AV):Nat:=match cs with
 | .ptr p _::_=>p
 |_=>0
def Amm(H:List Blk)(cs:List AV)(j:Nat):Option Nat:=match cellOf H (Abl cs) 3 with
 |some (.ptr q _)=>(match cellOf H q j with|some (.osl k _ _ _ _)=>some k|_=>none)
 |_=>none
def Fy(r:Request):Prop:=r.coupons.length≤200000000∧r.taxes.length≤200000000
def gJ:PC:=PC.of (fun l:List Coupon=>[slE 6 Coupon.enc l]) (fun l=>l.length≤200000000) (fun l=>slE 6 Coupon.enc l)
def Cr:PT:=C8 []
theorem Dm{W:World}(hW:Tabs W):Ct (Fw W) Tryz.prog Cr:=Av
def Cf:FuncId→Option Ctr:=Az Cr []
theorem Ej{W:World}(hW:Tabs W):Ad (Fw W) Tryz.prog Cf:=(Aw (Dm hW))
theorem Ek{W:World}(hW:Tabs W):GoodP (Fw W) Tryz.prog 211 gJ:=by
 have hD:=Dm hW
 have hC0:∀ l:List Coupon,Ad (Fw W) Tryz.prog Cf:=fun l=>(Ej hW)
 refine As (D:=Cr) (C:=fun l=>Cf) (wr:=(fun _=>false)) rfl Ao hD hC0 Tryz.func211 (fun _ _=>none) (fun _=>rfl) ?_
 intro l hf hp
 clear hf
 have hp:l.length≤200000000:=hp
 (conv=>whnf)
 (repeat' ((first
  |((with_reducible refine aI ?_ ?_);focus (first|omega|((with_reducible refine⟨?_,?_⟩)<;>first|with_reducible assumption|omega)|(simp only[Ap,ty2,ty3,ty4,ty5,ty9,Cu,Ck,Cv,Cl,Cq,Cw,Cx,Cy,Bm,Bl,Bn,Bo,Bp,Bq,Br];first|omega|(refine⟨?_,?_⟩<;>omega))|assumption|decide))
  |(split<;>rename_i hh<;>(try simp only[wS] at hh))
  |fail)<;>(conv=>whnf)))
 all_goals try (intro e he;exfalso;omega)
 ·refine⟨⟨by omega,fun e he=>by unfold B9;rw[if_neg (by omega)];rfl⟩,?_⟩
  (conv=>whnf)
  (repeat' ((first
   |((with_reducible refine aI ?_ ?_);focus (first|omega|decide))
   |fail)<;>(conv=>whnf)))
  intro e he
  show B9 0 _ _ (0+e)=_
  unfold B9
  rw[if_neg (by omega),Nat.zero_add,Nat.sub_zero]
def gK:PC:=PC.of (fun l:List Tax=>[slE 2 Tax.enc l]) (fun l=>l.length≤200000000) (fun l=>slE 2 Tax.enc l)
theorem Fz{W:World}(hW:Tabs W):GoodP (Fw W) Tryz.prog 212 gK:=by
 have hD:=Dm hW
 have hC0:∀ l:List Tax,Ad (Fw W) Tryz.prog Cf:=fun l=>(Ej hW)
 refine As (D:=Cr) (C:=fun l=>Cf) (wr:=(fun _=>false)) rfl Ao hD hC0 Tryz.func212 (fun _ _=>none) (fun _=>rfl) ?_
 intro l hf hp
 clear hf
 have hp:l.length≤200000000:=hp
 (conv=>whnf)
 (repeat' ((first
  |((with_reducible refine aI ?_ ?_);focus (first|omega|((with_reducible refine⟨?_,?_⟩)<;>first|with_reducible assumption|omega)|(simp only[Ap,ty2,ty3,ty4,ty5,ty9,Cu,Ck,Cv,Cl,Cq,Cw,Cx,Cy,Bm,Bl,Bn,Bo,Bp,Bq,Br];first|omega|(refine⟨?_,?_⟩<;>omega))|assumption|decide))
  |(split<;>rename_i hh<;>(try simp only[wS] at hh))
  |fail)<;>(conv=>whnf)))
 all_goals try (intro e he;exfalso;omega)
 ·refine⟨⟨by omega,fun e he=>by unfold B9;rw[if_neg (by omega)];rfl⟩,?_⟩
  (conv=>whnf)
  (repeat' ((first
   |((with_reducible refine aI ?_ ?_);focus (first|omega|decide))
   |fail)<;>(conv=>whnf)))
  intro e he
  show B9 0 _ _ (0+e)=_
  unfold B9
  rw[if_neg (by omega),Nat.zero_add,Nat.sub_zero]
def Ago:PC:=PC.of (fun r:Request=>[.agg r.enc]) Fy (fun r=>.agg r.enc)
def Lw:PT:=C8 [(211,gJ),(212,gK)]
theorem Ru{W:World}(hW:Tabs W):Ct (Fw W) Tryz.prog Lw:=(Ab Tryz.call211 (Ek hW) (Ab Tryz.call212 (Fz hW) Av))
def Lx:FuncId→Option Ctr:=Az Lw []
theorem cG{W:World}(hW:Tabs W):Ad (Fw W) Tryz.prog Lx:=(Aw (Ru hW))
theorem cH{W:World}(hW:Tabs W):GoodP (Fw W) Tryz.prog 140 Ago:=by
 have hD:=Ru hW
 have hC0:∀ r:Request,Ad (Fw W) Tryz.prog Lx:=fun r=>(cG hW)
 refine As (D:=Lw) (C:=fun r=>Lx) (wr:=(fun _=>false)) rfl Ao hD hC0 Tryz.func140 (fun _ _=>none) (fun _=>rfl) ?_
 intro r hf hp
 clear hf
 obtain⟨hp1,hp2⟩:=hp
 (conv=>whnf)
 refine⟨r.coupons,hp1,?_,?_⟩
 ·exact Ac _
 (conv=>whnf)
 refine⟨r.taxes,hp2,?_,?_⟩
 ·exact Ac _
 (conv=>whnf)
 (repeat' ((first
  |with_reducible exact⟨⟩
  |((with_reducible refine aI ?_ ?_);focus (first|exact tO|with_reducible rfl|decide))
  |with_reducible refine iA ?_ ?_
  |fail)<;>(conv=>whnf)))
 all_goals (intro e he;rfl)
def Avc:PC:=PC.of (fun r:Request=>[.agg r.enc]) (fun r=>(r.kind≠1∧r.kind≠5)∧Fy r) (fun r=>.bool (sB (Af r)))
def C6:PT:=C8 [(73,fO),(127,Ue),(140,Ago),(142,Mj),(195,P0),(275,S5)]
theorem F0{W:World}(hW:Tabs W):Ct (Fw W) Tryz.prog C6:=(Ab Tryz.call73 (J0 hW) (Ab Tryz.call127 (Mz hW) (Ab Tryz.call140 (cH hW) (Ab Tryz.call142 (Nw hW) (Ab Tryz.call195 (P1 hW) (Ab Tryz.call275 (Qa hW) Av))))))
def Amn:FuncId→Option Ctr:=Az C6 []
theorem Amo{W:World}(hW:Tabs W):Ad (Fw W) Tryz.prog Amn:=(Aw (F0 hW))
def Agp:List (FuncId × Ctr):=(298,Uw TY Amn C6 (fun _=>false) (fun _ _ _=>none) Tryz.f298)::[]
def Agq:FuncId→Option Ctr:=Az C6 Agp
theorem Agr{W:World}(hW:Tabs W):Ad (Fw W) Tryz.prog Agq:=Ae Tryz.call298 (Uc rfl Ao (F0 hW) (Amo hW) Tryz.func298 (fun _ _ _=>none)) (Amo hW)
def Ags:List (FuncId × Ctr):=(273,Uw TY Agq C6 (fun _=>false) (fun _ _ _=>none) Tryz.f273)::Agp
def Agt:FuncId→Option Ctr:=Az C6 Ags
theorem Agu{W:World}(hW:Tabs W):Ad (Fw W) Tryz.prog Agt:=Ae Tryz.call273 (Uc rfl Ao (F0 hW) (Agr hW) Tryz.func273 (fun _ _ _=>none)) (Agr hW)
def Agv:List (FuncId × Ctr):=(276,inl TY Agt C6 (fun _=>false) (fun _ _ _=>none) Tryz.f276)::Ags
def Agw:FuncId→Option Ctr:=Az C6 Agv
theorem Agx{W:World}(hW:Tabs W):Ad (Fw W) Tryz.prog Agw:=Ae Tryz.call276 (Ag rfl Ao (F0 hW) (Agu hW) Tryz.func276 (fun _ _ _=>none)) (Agu hW)
def Agy:List (FuncId × Ctr):=(279,inl TY Agw C6 (fun _=>false) (fun _ _ _=>none) Tryz.f279)::Agv
def Agz:FuncId→Option Ctr:=Az C6 Agy
theorem Ag0{W:World}(hW:Tabs W):Ad (Fw W) Tryz.prog Agz:=Ae Tryz.call279 (Ag rfl Ao (F0 hW) (Agx hW) Tryz.func279 (fun _ _ _=>none)) (Agx hW)
def Ag1:List (FuncId × Ctr):=(259,inl TY Agz C6 (fun _=>false) (fun _ _ _=>none) Tryz.f259)::Agy
def Ag2:FuncId→Option Ctr:=Az C6 Ag1
theorem Ag3{W:World}(hW:Tabs W):Ad (Fw W) Tryz.prog Ag2:=Ae Tryz.call259 (Ag rfl Ao (F0 hW) (Ag0 hW) Tryz.func259 (fun _ _ _=>none)) (Ag0 hW)
def Ag4:List (FuncId × Ctr):=(254,inl TY Ag2 C6 (fun _=>false) (fun _ _ _=>none) Tryz.f254)::Ag1
def Ag5:FuncId→Option Ctr:=Az C6 Ag4
theorem Ag6{W:World}(hW:Tabs W):Ad (Fw W) Tryz.prog Ag5:=Ae Tryz.call254 (Ag rfl Ao (F0 hW) (Ag3 hW) Tryz.func254 (fun _ _ _=>none)) (Ag3 hW)
def Ag7:List (FuncId × Ctr):=(255,inl TY Ag5 C6 (fun _=>false) (fun _ _ _=>none) Tryz.f255)::Ag4
def Ag8:FuncId→Option Ctr:=Az C6 Ag7
theorem Ag9{W:World}(hW:Tabs W):Ad (Fw W) Tryz.prog Ag8:=Ae Tryz.call255 (Ag rfl Ao (F0 hW) (Ag6 hW) Tryz.func255 (fun _ _ _=>none)) (Ag6 hW)
def Aha:List (FuncId × Ctr):=(274,inl TY Ag8 C6 (fun _=>false) (fun _ _ _=>none) Tryz.f274)::Ag7
def Ahb:FuncId→Option Ctr:=Az C6 Aha
theorem Ahc{W:World}(hW:Tabs W):Ad (Fw W) Tryz.prog Ahb:=Ae Tryz.call274 (Ag rfl Ao (F0 hW) (Ag9 hW) Tryz.func274 (fun _ _ _=>none)) (Ag9 hW)
def Ahd:List (FuncId × Ctr):=(225,inl TY Ahb C6 (fun _=>false) (fun _ _ _=>none) Tryz.f225)::Aha
def Ahe:FuncId→Option Ctr:=Az C6 Ahd
theorem Ahf{W:World}(hW:Tabs W):Ad (Fw W) Tryz.prog Ahe:=Ae Tryz.call225 (Ag rfl Ao (F0 hW) (Ahc hW) Tryz.func225 (fun _ _ _=>none)) (Ahc hW)
def Abm:List (FuncId × Ctr):=(226,inl TY Ahe C6 (fun _=>false) (fun _ _ _=>none) Tryz.f226)::Ahd
def Abn:FuncId→Option Ctr:=Az C6 Abm
theorem Abo{W:World}(hW:Tabs W):Ad (Fw W) Tryz.prog Abn:=Ae Tryz.call226 (Ag rfl Ao (F0 hW) (Ahf hW) Tryz.func226 (fun _ _ _=>none)) (Ahf hW)
def Abp:List (FuncId × Ctr):=(230,inl TY Abn C6 (fun _=>false) (fun _ _ _=>none) Tryz.f230)::Abm
def Abq:FuncId→Option Ctr:=Az C6 Abp
theorem Abr{W:World}(hW:Tabs W):Ad (Fw W) Tryz.prog Abq:=Ae Tryz.call230 (Ag rfl Ao (F0 hW) (Abo hW) Tryz.func230 (fun _ _ _=>none)) (Abo hW)
def Abs:List (FuncId × Ctr):=(231,inl TY Abq C6 (fun _=>false) (fun _ _ _=>none) Tryz.f231)::Abp
def Abt:FuncId→Option Ctr:=Az C6 Abs
theorem Abu{W:World}(hW:Tabs W):Ad (Fw W) Tryz.prog Abt:=Ae Tryz.call231 (Ag rfl Ao (F0 hW) (Abr hW) Tryz.func231 (fun _ _ _=>none)) (Abr hW)
def Abv:List (FuncId × Ctr):=(232,inl TY Abt C6 (fun _=>false) (fun _ _ _=>none) Tryz.f232)::Abs
def Abw:FuncId→Option Ctr:=Az C6 Abv
theorem Abx{W:World}(hW:Tabs W):Ad (Fw W) Tryz.prog Abw:=Ae Tryz.call232 (Ag rfl Ao (F0 hW) (Abu hW) Tryz.func232 (fun _ _ _=>none)) (Abu hW)
def Aby:List (FuncId × Ctr):=(233,inl TY Abw C6 (fun _=>false) (fun _ _ _=>none) Tryz.f233)::Abv
def Abz:FuncId→Option Ctr:=Az C6 Aby
theorem Ab0{W:World}(hW:Tabs W):Ad (Fw W) Tryz.prog Abz:=Ae Tryz.call233 (Ag rfl Ao (F0 hW) (Abx hW) Tryz.func233 (fun _ _ _=>none)) (Abx hW)
def Ab1:List (FuncId × Ctr):=(227,inl TY Abz C6 (fun _=>false) (fun _ _ _=>none) Tryz.f227)::Aby
def Ab2:FuncId→Option Ctr:=Az C6 Ab1
theorem Ab3{W:World}(hW:Tabs W):Ad (Fw W) Tryz.prog Ab2:=Ae Tryz.call227 (Ag rfl Ao (F0 hW) (Ab0 hW) Tryz.func227 (fun _ _ _=>none)) (Ab0 hW)
def Ab4:List (FuncId × Ctr):=(235,inl TY Ab2 C6 (fun _=>false) (fun _ _ _=>none) Tryz.f235)::Ab1
def Ab5:FuncId→Option Ctr:=Az C6 Ab4
theorem Ab6{W:World}(hW:Tabs W):Ad (Fw W) Tryz.prog Ab5:=Ae Tryz.call235 (Ag rfl Ao (F0 hW) (Ab3 hW) Tryz.func235 (fun _ _ _=>none)) (Ab3 hW)
def Ab7:List (FuncId × Ctr):=(164,inl TY Ab5 C6 (fun _=>false) (fun _ _ _=>none) Tryz.f164)::Ab4
def Ab8:FuncId→Option Ctr:=Az C6 Ab7
theorem Ab9{W:World}(hW:Tabs W):Ad (Fw W) Tryz.prog Ab8:=Ae Tryz.call164 (Ag rfl Ao (F0 hW) (Ab6 hW) Tryz.func164 (fun _ _ _=>none)) (Ab6 hW)
def pU:List AV→List Blk→Nat→Option LR:=fun _ _ i=>cond (Nat.beq i 2) (some (.unroll 7)) none
def Amp:List (FuncId × Ctr):=(141,inl TY Ab8 C6 (fun _=>false) (pU) Tryz.f141)::Ab7
def gL:FuncId→Option Ctr:=Az C6 Amp
theorem Amq{W:World}(hW:Tabs W):Ad (Fw W) Tryz.prog gL:=Ae Tryz.call141 (Ag rfl Ao (F0 hW) (Ab9 hW) Tryz.func141 (pU)) (Ab9 hW)
set_option maxHeartbeats 4000000 in
theorem Avd{W:World}(hW:Tabs W):GoodP (Fw W) Tryz.prog 71 Avc:=by
 have hD:=F0 hW
 have hC0:∀ r:Request,Ad (Fw W) Tryz.prog gL:=fun r=>(Amq hW)
 refine As (D:=C6) (C:=fun r=>gL) (wr:=(fun _=>false)) rfl Ao hD hC0 Tryz.func71 (fun _ _=>none) (fun _=>rfl) ?_
 rintro⟨key,kind,day,ticket,coupon,status,locator,coupons,taxes,amount,frm,til⟩ hf hp
 clear hf
 by_cases h:1≤kind∧kind≤10
 ·rcases kinds h with rfl|rfl|rfl|rfl|rfl|rfl|rfl|rfl|rfl|rfl
  ·exact absurd rfl hp.1.1
  ·have hex: ¬Ci 2=[]:=by rw[Ce (by decide)];decide
   (conv=>whnf)
   (repeat' ((first
    |(exact absurd (by with_reducible assumption) hex)
    |((with_reducible refine aI ?_ ?_);focus (with_reducible exact⟨⟩))
    |(split<;>rename_i hh<;>(try simp only[wS] at hh))
    |fail)<;>(conv=>whnf)))
   refine⟨(⟨key,2,day,ticket,coupon,status,locator,coupons,taxes,amount,frm,til⟩:Request),hp.2,?_,?_⟩
   ·exact Ac _
   (conv=>whnf)
   (repeat' ((first
    |(with_reducible refine Ar ?_)
    |((with_reducible apply B8);(focus rfl);(focus rfl))
    |((with_reducible apply B6);(focus rfl);(focus rfl);(focus rfl))
    |((refine⟨rfl,_,?_,rfl⟩);(try simp only[Bh,Cm,Bt,cond_true,cond_false,Bool.true_and,Bool.and_false,Bool.false_and])<;>first|rfl|exact C9 (by omega)|exact Da (by omega)|exact Db (by omega)|(rename_i hh;first|(simp[hh];done)|(rcases hh with hh|hh<;>simp[hh];done)))
    |((with_reducible refine aI ?_ ?_);focus (first|with_reducible exact⟨⟩|exact tO|omega|exact tK))
    |(split<;>rename_i hh<;>(try simp only[wS] at hh))
    |with_reducible refine lnI fun hln=>?_
    |fail)<;>(conv=>whnf)))
   all_goals (try (show _=_;simp only[wQ]))
   ·refine⟨((⟨[],2,0,0,0,0,locator,coupons,taxes,amount,frm,til⟩,⟨[],2,0,0,0,0,[],[],[],0,0,0⟩):Request × Request),True.intro,?_,?_⟩
    ·exact tL
    (conv=>whnf)
    all_goals (try (show _=_;simp only[wQ]))
    rw[cond_true,Bool.eq_iff_iff,Ba,pM]
    have kl:=@Im key
    simp only[B0,Bool.and_eq_true,beq_iff_eq,Request.mk.injEq,true_and,and_true] at hh ⊢
    exact⟨fun h=>by simp_all,fun h=>by simp_all⟩
   ·symm
    refine Bool.eq_false_iff.2 fun hm=>?_
    rw[pM] at hm
    have kl:=@Im key
    have hm2:=hm
    try simp only[and_assoc] at hm2
    simp_all[Dp,Dc]
    all_goals omega
  ·have hex: ¬Ci 3=[]:=by rw[Ce (by decide)];decide
   (conv=>whnf)
   (repeat' ((first
    |(exact absurd (by with_reducible assumption) hex)
    |((with_reducible refine aI ?_ ?_);focus (with_reducible exact⟨⟩))
    |(split<;>rename_i hh<;>(try simp only[wS] at hh))
    |fail)<;>(conv=>whnf)))
   refine⟨(⟨key,3,day,ticket,coupon,status,locator,coupons,taxes,amount,frm,til⟩:Request),hp.2,?_,?_⟩
   ·exact Ac _
   (conv=>whnf)
   (repeat' ((first
    |(with_reducible refine Ar ?_)
    |((with_reducible apply B8);(focus rfl);(focus rfl))
    |((with_reducible apply B6);(focus rfl);(focus rfl);(focus rfl))
    |((refine⟨rfl,_,?_,rfl⟩);(try simp only[Bh,Cm,Bt,cond_true,cond_false,Bool.true_and,Bool.and_false,Bool.false_and])<;>first|rfl|exact C9 (by omega)|exact Da (by omega)|exact Db (by omega)|(rename_i hh;first|(simp[hh];done)|(rcases hh with hh|hh<;>simp[hh];done)))
    |((with_reducible refine aI ?_ ?_);focus (first|with_reducible exact⟨⟩|exact tO|omega|exact tK))
    |(split<;>rename_i hh<;>(try simp only[wS] at hh))
    |with_reducible refine lnI fun hln=>?_
    |fail)<;>(conv=>whnf)))
   all_goals (try (show _=_;simp only[wQ]))
   ·refine⟨((⟨[],3,0,0,coupon,status,locator,coupons,taxes,amount,frm,til⟩,⟨[],3,0,0,0,0,[],[],[],0,0,0⟩):Request × Request),True.intro,?_,?_⟩
    ·exact tL
    (conv=>whnf)
    all_goals (try (show _=_;simp only[wQ]))
    rw[cond_true,Bool.eq_iff_iff,Ba,pN]
    have kl:=@Im key
    simp only[B0,Bool.and_eq_true,beq_iff_eq,Request.mk.injEq,true_and,and_true] at hh ⊢
    exact⟨fun h=>by simp_all,fun h=>by simp_all⟩
   ·symm
    refine Bool.eq_false_iff.2 fun hm=>?_
    rw[pN] at hm
    have kl:=@Im key
    have hm2:=hm
    try simp only[and_assoc] at hm2
    simp_all[Dp,Dc]
    all_goals omega
  ·have hex: ¬Ci 4=[]:=by rw[Ce (by decide)];decide
   (conv=>whnf)
   (repeat' ((first
    |(exact absurd (by with_reducible assumption) hex)
    |((with_reducible refine aI ?_ ?_);focus (with_reducible exact⟨⟩))
    |(split<;>rename_i hh<;>(try simp only[wS] at hh))
    |fail)<;>(conv=>whnf)))
   refine⟨(⟨key,4,day,ticket,coupon,status,locator,coupons,taxes,amount,frm,til⟩:Request),hp.2,?_,?_⟩
   ·exact Ac _
   (conv=>whnf)
   (repeat' ((first
    |(with_reducible refine Ar ?_)
    |((with_reducible apply B8);(focus rfl);(focus rfl))
    |((with_reducible apply B6);(focus rfl);(focus rfl);(focus rfl))
    |((refine⟨rfl,_,?_,rfl⟩);(try simp only[Bh,Cm,Bt,cond_true,cond_false,Bool.true_and,Bool.and_false,Bool.false_and])<;>first|rfl|exact C9 (by omega)|exact Da (by omega)|exact Db (by omega)|(rename_i hh;first|(simp[hh];done)|(rcases hh with hh|hh<;>simp[hh];done)))
    |((with_reducible refine aI ?_ ?_);focus (first|with_reducible exact⟨⟩|exact tO|omega|exact tK))
    |(split<;>rename_i hh<;>(try simp only[wS] at hh))
    |with_reducible refine lnI fun hln=>?_
    |fail)<;>(conv=>whnf)))
   all_goals (try (show _=_;simp only[wQ]))
   ·refine⟨((⟨[],4,0,0,coupon,status,locator,coupons,taxes,0,frm,til⟩,⟨[],4,0,0,0,0,[],[],[],0,0,0⟩):Request × Request),True.intro,?_,?_⟩
    ·exact tL
    (conv=>whnf)
    all_goals (try (show _=_;simp only[wQ]))
    rw[cond_true,Bool.eq_iff_iff,Ba,pO]
    have kl:=@Im key
    simp only[B0,Bool.and_eq_true,beq_iff_eq,Request.mk.injEq,true_and,and_true] at hh ⊢
    exact⟨fun h=>by simp_all,fun h=>by simp_all⟩
   ·symm
    refine Bool.eq_false_iff.2 fun hm=>?_
    rw[pO] at hm
    have kl:=@Im key
    have hm2:=hm
    try simp only[and_assoc] at hm2
    simp_all[Dp,Dc]
    all_goals omega
  ·exact absurd rfl hp.1.2
  ·have hex: ¬Ci 6=[]:=by rw[Ce (by decide)];decide
   (conv=>whnf)
   (repeat' ((first
    |(exact absurd (by with_reducible assumption) hex)
    |((with_reducible refine aI ?_ ?_);focus (with_reducible exact⟨⟩))
    |(split<;>rename_i hh<;>(try simp only[wS] at hh))
    |fail)<;>(conv=>whnf)))
   refine⟨(⟨key,6,day,ticket,coupon,status,locator,coupons,taxes,amount,frm,til⟩:Request),hp.2,?_,?_⟩
   ·exact Ac _
   (conv=>whnf)
   (repeat' ((first
    |(with_reducible refine Ar ?_)
    |((with_reducible apply B8);(focus rfl);(focus rfl))
    |((with_reducible apply B6);(focus rfl);(focus rfl);(focus rfl))
    |((refine⟨rfl,_,?_,rfl⟩);(try simp only[Bh,Cm,Bt,cond_true,cond_false,Bool.true_and,Bool.and_false,Bool.false_and])<;>first|rfl|exact C9 (by omega)|exact Da (by omega)|exact Db (by omega)|(rename_i hh;first|(simp[hh];done)|(rcases hh with hh|hh<;>simp[hh];done)))
    |((with_reducible refine aI ?_ ?_);focus (first|with_reducible exact⟨⟩|exact tO|omega|exact tK))
    |(split<;>rename_i hh<;>(try simp only[wS] at hh))
    |with_reducible refine lnI fun hln=>?_
    |fail)<;>(conv=>whnf)))
   all_goals (try (show _=_;simp only[wQ]))
   ·refine⟨((⟨[],6,0,0,0,status,locator,coupons,taxes,amount,frm,til⟩,⟨[],6,0,0,0,0,[],[],[],0,0,0⟩):Request × Request),True.intro,?_,?_⟩
    ·exact tL
    (conv=>whnf)
    all_goals (try (show _=_;simp only[wQ]))
    rw[cond_true,Bool.eq_iff_iff,Ba,pP]
    have kl:=@Im key
    simp only[B0,Bool.and_eq_true,beq_iff_eq,Request.mk.injEq,true_and,and_true] at hh ⊢
    exact⟨fun h=>by simp_all,fun h=>by simp_all⟩
   ·symm
    refine Bool.eq_false_iff.2 fun hm=>?_
    rw[pP] at hm
    have kl:=@Im key
    have hm2:=hm
    try simp only[and_assoc] at hm2
    simp_all[Dp,Dc]
    all_goals omega
  ·have hex: ¬Ci 7=[]:=by rw[Ce (by decide)];decide
   (conv=>whnf)
   (repeat' ((first
    |(exact absurd (by with_reducible assumption) hex)
    |((with_reducible refine aI ?_ ?_);focus (with_reducible exact⟨⟩))
    |(split<;>rename_i hh<;>(try simp only[wS] at hh))
    |fail)<;>(conv=>whnf)))
   refine⟨(⟨key,7,day,ticket,coupon,status,locator,coupons,taxes,amount,frm,til⟩:Request),hp.2,?_,?_⟩
   ·exact Ac _
   (conv=>whnf)
   (repeat' ((first
    |(with_reducible refine Ar ?_)
    |((with_reducible apply B8);(focus rfl);(focus rfl))
    |((with_reducible apply B6);(focus rfl);(focus rfl);(focus rfl))
    |((refine⟨rfl,_,?_,rfl⟩);(try simp only[Bh,Cm,Bt,cond_true,cond_false,Bool.true_and,Bool.and_false,Bool.false_and])<;>first|rfl|exact C9 (by omega)|exact Da (by omega)|exact Db (by omega)|(rename_i hh;first|(simp[hh];done)|(rcases hh with hh|hh<;>simp[hh];done)))
    |((with_reducible refine aI ?_ ?_);focus (first|with_reducible exact⟨⟩|exact tO|omega|exact tK))
    |(split<;>rename_i hh<;>(try simp only[wS] at hh))
    |with_reducible refine lnI fun hln=>?_
    |fail)<;>(conv=>whnf)))
   all_goals (try (show _=_;simp only[wQ]))
   ·refine⟨((⟨[],7,0,0,0,status,locator,coupons,taxes,amount,frm,til⟩,⟨[],7,0,0,0,0,[],[],[],0,0,0⟩):Request × Request),True.intro,?_,?_⟩
    ·exact tL
    (conv=>whnf)
    all_goals (try (show _=_;simp only[wQ]))
    rw[cond_true,Bool.eq_iff_iff,Ba,pQ]
    have kl:=@Im key
    simp only[B0,Bool.and_eq_true,beq_iff_eq,Request.mk.injEq,true_and,and_true] at hh ⊢
    exact⟨fun h=>by simp_all,fun h=>by simp_all⟩
   ·symm
    refine Bool.eq_false_iff.2 fun hm=>?_
    rw[pQ] at hm
    have kl:=@Im key
    have hm2:=hm
    try simp only[and_assoc] at hm2
    simp_all[Dp,Dc]
    all_goals omega
  ·have hex: ¬Ci 8=[]:=by rw[Ce (by decide)];decide
   (conv=>whnf)
   (repeat' ((first
    |(exact absurd (by with_reducible assumption) hex)
    |((with_reducible refine aI ?_ ?_);focus (with_reducible exact⟨⟩))
    |(split<;>rename_i hh<;>(try simp only[wS] at hh))
    |fail)<;>(conv=>whnf)))
   refine⟨(⟨key,8,day,ticket,coupon,status,locator,coupons,taxes,amount,frm,til⟩:Request),hp.2,?_,?_⟩
   ·exact Ac _
   (conv=>whnf)
   (repeat' ((first
    |(with_reducible refine Ar ?_)
    |((with_reducible apply B8);(focus rfl);(focus rfl))
    |((refine⟨rfl,_,?_,rfl⟩);(try simp only[Bh,Cm,Bt,cond_true,cond_false,Bool.true_and,Bool.and_false,Bool.false_and])<;>first|rfl|exact C9 (by omega)|exact Da (by omega)|exact Db (by omega)|(rename_i hh;first|(simp[hh];done)|(rcases hh with hh|hh<;>simp[hh];done)))
    |((with_reducible refine aI ?_ ?_);focus (first|with_reducible exact⟨⟩|exact tO|omega|exact tK))
    |(split<;>rename_i hh<;>(try simp only[wS] at hh))
    |with_reducible refine lnI fun hln=>?_
    |fail)<;>(conv=>whnf)))
   all_goals (try (show _=_;simp only[wQ]))
   ·refine⟨((⟨key,8,day,0,coupon,status,locator,coupons,taxes,amount,frm,til⟩,⟨[],8,0,0,0,0,[],[],[],0,0,0⟩):Request × Request),True.intro,?_,?_⟩
    ·exact tL
    (conv=>whnf)
    all_goals (try (show _=_;simp only[wQ]))
    rw[cond_true,Bool.eq_iff_iff,Ba,pR]
    simp only[B0,Bool.and_eq_true,beq_iff_eq,Request.mk.injEq,true_and,and_true] at hh ⊢
    exact⟨fun h=>by simp_all,fun h=>by simp_all⟩
   ·symm
    refine Bool.eq_false_iff.2 fun hm=>?_
    rw[pR] at hm
    have hm2:=hm
    try simp only[and_assoc] at hm2
    simp_all[Dp,Dc]
    all_goals omega
  ·have hex: ¬Ci 9=[]:=by rw[Ce (by decide)];decide
   (conv=>whnf)
   (repeat' ((first
    |(exact absurd (by with_reducible assumption) hex)
    |((with_reducible refine aI ?_ ?_);focus (with_reducible exact⟨⟩))
    |(split<;>rename_i hh<;>(try simp only[wS] at hh))
    |fail)<;>(conv=>whnf)))
   refine⟨(⟨key,9,day,ticket,coupon,status,locator,coupons,taxes,amount,frm,til⟩:Request),hp.2,?_,?_⟩
   ·exact Ac _
   (conv=>whnf)
   (repeat' ((first
    |(with_reducible refine Ar ?_)
    |((with_reducible apply B8);(focus rfl);(focus rfl))
    |((refine⟨rfl,_,?_,rfl⟩);(try simp only[Bh,Cm,Bt,cond_true,cond_false,Bool.true_and,Bool.and_false,Bool.false_and])<;>first|rfl|exact C9 (by omega)|exact Da (by omega)|exact Db (by omega)|(rename_i hh;first|(simp[hh];done)|(rcases hh with hh|hh<;>simp[hh];done)))
    |((with_reducible refine aI ?_ ?_);focus (first|with_reducible exact⟨⟩|exact tO|omega|exact tK))
    |(split<;>rename_i hh<;>(try simp only[wS] at hh))
    |with_reducible refine lnI fun hln=>?_
    |fail)<;>(conv=>whnf)))
   all_goals (try (show _=_;simp only[wQ]))
   ·refine⟨((⟨key,9,day,ticket,coupon,status,[],coupons,taxes,amount,frm,til⟩,⟨[],9,0,0,0,0,[],[],[],0,0,0⟩):Request × Request),True.intro,?_,?_⟩
    ·exact tL
    (conv=>whnf)
    all_goals (try (show _=_;simp only[wQ]))
    rw[cond_true,Bool.eq_iff_iff,Ba,pS]
    simp only[B0,Bool.and_eq_true,beq_iff_eq,Request.mk.injEq,true_and,and_true] at hh ⊢
    exact⟨fun h=>by simp_all,fun h=>by simp_all⟩
   ·symm
    refine Bool.eq_false_iff.2 fun hm=>?_
    rw[pS] at hm
    have hm2:=hm
    try simp only[and_assoc] at hm2
    simp_all[Dp,Dc]
    all_goals omega
  ·have hex: ¬Ci 10=[]:=by rw[Ce (by decide)];decide
   (conv=>whnf)
   (repeat' ((first
    |(exact absurd (by with_reducible assumption) hex)
    |((with_reducible refine aI ?_ ?_);focus (with_reducible exact⟨⟩))
    |(split<;>rename_i hh<;>(try simp only[wS] at hh))
    |fail)<;>(conv=>whnf)))
   refine⟨(⟨key,10,day,ticket,coupon,status,locator,coupons,taxes,amount,frm,til⟩:Request),hp.2,?_,?_⟩
   ·exact Ac _
   (conv=>whnf)
   (repeat' ((first
    |(with_reducible refine Ar ?_)
    |((with_reducible apply B8);(focus rfl);(focus rfl))
    |((with_reducible apply B6);(focus rfl);(focus rfl);(focus rfl))
    |((refine⟨rfl,_,?_,rfl⟩);(try simp only[Bh,Cm,Bt,cond_true,cond_false,Bool.true_and,Bool.and_false,Bool.false_and])<;>first|rfl|exact C9 (by omega)|exact Da (by omega)|exact Db (by omega)|(rename_i hh;first|(simp[hh];done)|(rcases hh with hh|hh<;>simp[hh];done)))
    |((with_reducible refine aI ?_ ?_);focus (first|exact tO|omega|exact tK))
    |(split<;>rename_i hh<;>(try simp only[wS] at hh))
    |with_reducible refine lnI fun hln=>?_
    |fail)<;>(conv=>whnf)))
   all_goals (try (show _=_;simp only[wQ]))
   ·refine⟨((⟨key,10,day,ticket,coupon,status,locator,coupons,taxes,amount,0,0⟩,⟨[],10,0,0,0,0,[],[],[],0,0,0⟩):Request × Request),True.intro,?_,?_⟩
    ·exact tL
    (conv=>whnf)
    all_goals (try (show _=_;simp only[wQ]))
    rw[cond_true,Bool.eq_iff_iff,Ba,gI]
    simp only[B0,Bool.and_eq_true,beq_iff_eq,Request.mk.injEq,true_and,and_true] at hh ⊢
    exact⟨fun h=>by simp_all,fun h=>by simp_all⟩
   ·symm
    refine Bool.eq_false_iff.2 fun hm=>?_
    rw[gI] at hm
    have hm2:=hm
    try simp only[and_assoc] at hm2
    simp_all[Dp,Dc]
    all_goals omega
 ·have hn:Ci kind=[]:=Abf h
  have hm:Af ⟨key,kind,day,ticket,coupon,status,locator,coupons,taxes,amount,frm,til⟩=false:=Qe h
  (conv=>whnf)
  (repeat' ((first
   |((with_reducible refine aI ?_ ?_);focus (with_reducible exact⟨⟩))
   |(split<;>rename_i hh<;>(try simp only[wS] at hh))
   |fail)<;>(conv=>whnf)))
  all_goals (try (show _=_;simp only[wQ]))
  ·exact hm.symm
  all_goals exact absurd hn (by assumption)
end
end Go.Vc.Z
