/- request.May, of kinds that name no lists. -/
import Derived.Test.YtpmpclbdnakniaaGreatDoorV18
set_option linter.all false
set_option maxHeartbeats 8000000
namespace Go.Vc.Z
open Go Go.Vc Go.Proofs Go.RowKit Go.Pl Go.Lib
theorem Br{g:Bool}{lo n hi:Int}:C6 g lo n hi=true↔g=true∧lo≤n∧n≤hi:=by
 unfold C6;rw[B7,B7];simp
theorem Ii{s:List UInt8}(h:F3 s=true):1≤s.length∧s.length≤16:=by
 unfold F3 at h;simp only[Bool.and_eq_true,decide_eq_true_eq] at h;omega
section
variable {key locator : List UInt8} {day ticket coupon status amount frm til : Int} {coupons : List Coupon} {taxes : List Tax}
theorem No:Af ⟨key,1,day,ticket,coupon,status,locator,coupons,taxes,amount,frm,til⟩=true↔F3 key=true∧(0≤day∧day≤1000000)∧Gb locator=true∧E5 12 coupons=true∧C0 taxes=true∧ticket=0∧coupon=0∧status=0∧amount=0∧frm=0∧til=0:=by
 have ho:Cq ⟨key,1,day,ticket,coupon,status,locator,coupons,taxes,amount,frm,til⟩=⟨key,1,day,0,0,0,locator,coupons,taxes,0,0,0⟩:=rfl;rw[Uz rfl,ho];simp only[G7,G8,Mo,G9,K6,Oi,Mp,Oj,Ol,Mq,Om,Bool.and_eq_true,Bc,Request.mk.injEq,and_true,true_and,decide_eq_true_eq];all_goals (try unfold F0);(try unfold Ed);(try unfold C2);(try unfold Ji)
 all_goals simp only[Bool.and_eq_true,decide_eq_true_eq,and_assoc,true_and,and_true]
theorem uJ:Af ⟨key,2,day,ticket,coupon,status,locator,coupons,taxes,amount,frm,til⟩=true↔F3 key=true∧(0≤day∧day≤1000000)∧checkN ticket=0∧(1≤coupon∧coupon≤4)∧(1≤status∧status≤9)∧locator=[]∧coupons=[]∧taxes=[]∧amount=0∧frm=0∧til=0:=by
 have ho:Cq ⟨key,2,day,ticket,coupon,status,locator,coupons,taxes,amount,frm,til⟩=⟨key,2,day,ticket,coupon,status,[],[],[],0,0,0⟩:=rfl;rw[Zv rfl,ho];simp only[G7,G8,Mo,G9,K6,Oi,Mp,Oj,Ol,Mq,Om,Bool.and_eq_true,Bc,Request.mk.injEq,and_true,true_and,decide_eq_true_eq];all_goals (try unfold F0);(try unfold Ed);(try unfold C2);(try unfold Ji)
 all_goals simp only[Bool.and_eq_true,decide_eq_true_eq,and_assoc,true_and,and_true]
theorem uK:Af ⟨key,3,day,ticket,coupon,status,locator,coupons,taxes,amount,frm,til⟩=true↔F3 key=true∧(0≤day∧day≤1000000)∧checkN ticket=0∧coupon=0∧status=0∧locator=[]∧coupons=[]∧taxes=[]∧amount=0∧frm=0∧til=0:=by
 have ho:Cq ⟨key,3,day,ticket,coupon,status,locator,coupons,taxes,amount,frm,til⟩=⟨key,3,day,ticket,0,0,[],[],[],0,0,0⟩:=rfl;rw[Zw rfl,ho];simp only[G7,G8,Mo,G9,K6,Oi,Mp,Oj,Ol,Mq,Om,Bool.and_eq_true,Bc,Request.mk.injEq,and_true,true_and,decide_eq_true_eq];all_goals (try unfold F0);(try unfold Ed);(try unfold C2);(try unfold Ji)
 all_goals simp only[Bool.and_eq_true,decide_eq_true_eq,and_assoc,true_and,and_true]
theorem uL:Af ⟨key,4,day,ticket,coupon,status,locator,coupons,taxes,amount,frm,til⟩=true↔F3 key=true∧(0≤day∧day≤1000000)∧checkN ticket=0∧(0≤amount∧amount≤1000000000000)∧coupon=0∧status=0∧locator=[]∧coupons=[]∧taxes=[]∧frm=0∧til=0:=by
 have ho:Cq ⟨key,4,day,ticket,coupon,status,locator,coupons,taxes,amount,frm,til⟩=⟨key,4,day,ticket,0,0,[],[],[],amount,0,0⟩:=rfl;rw[Zx rfl,ho];simp only[G7,G8,Mo,G9,K6,Oi,Mp,Oj,Ol,Mq,Om,Bool.and_eq_true,Bc,Request.mk.injEq,and_true,true_and,decide_eq_true_eq];all_goals (try unfold F0);(try unfold Ed);(try unfold C2);(try unfold Ji)
 all_goals simp only[Bool.and_eq_true,decide_eq_true_eq,and_assoc,true_and,and_true]
theorem Np:Af ⟨key,5,day,ticket,coupon,status,locator,coupons,taxes,amount,frm,til⟩=true↔F3 key=true∧(0≤day∧day≤1000000)∧checkN ticket=0∧(0≤amount∧amount≤1000000000000)∧E5 4 coupons=true∧C0 taxes=true∧coupon=0∧status=0∧locator=[]∧frm=0∧til=0:=by
 have ho:Cq ⟨key,5,day,ticket,coupon,status,locator,coupons,taxes,amount,frm,til⟩=⟨key,5,day,ticket,0,0,[],coupons,taxes,amount,0,0⟩:=rfl;rw[Zy rfl,ho];simp only[G7,G8,Mo,G9,K6,Oi,Mp,Oj,Ol,Mq,Om,Bool.and_eq_true,Bc,Request.mk.injEq,and_true,true_and,decide_eq_true_eq];all_goals (try unfold F0);(try unfold Ed);(try unfold C2);(try unfold Ji)
 all_goals simp only[Bool.and_eq_true,decide_eq_true_eq,and_assoc,true_and,and_true]
theorem uM:Af ⟨key,6,day,ticket,coupon,status,locator,coupons,taxes,amount,frm,til⟩=true↔F3 key=true∧(0≤day∧day≤1000000)∧checkN ticket=0∧(1≤coupon∧coupon≤4)∧status=0∧locator=[]∧coupons=[]∧taxes=[]∧amount=0∧frm=0∧til=0:=by
 have ho:Cq ⟨key,6,day,ticket,coupon,status,locator,coupons,taxes,amount,frm,til⟩=⟨key,6,day,ticket,coupon,0,[],[],[],0,0,0⟩:=rfl;rw[Zz rfl,ho];simp only[G7,G8,Mo,G9,K6,Oi,Mp,Oj,Ol,Mq,Om,Bool.and_eq_true,Bc,Request.mk.injEq,and_true,true_and,decide_eq_true_eq];all_goals (try unfold F0);(try unfold Ed);(try unfold C2);(try unfold Ji)
 all_goals simp only[Bool.and_eq_true,decide_eq_true_eq,and_assoc,true_and,and_true]
theorem uN:Af ⟨key,7,day,ticket,coupon,status,locator,coupons,taxes,amount,frm,til⟩=true↔F3 key=true∧(0≤day∧day≤1000000)∧checkN ticket=0∧(1≤coupon∧coupon≤4)∧status=0∧locator=[]∧coupons=[]∧taxes=[]∧amount=0∧frm=0∧til=0:=by
 have ho:Cq ⟨key,7,day,ticket,coupon,status,locator,coupons,taxes,amount,frm,til⟩=⟨key,7,day,ticket,coupon,0,[],[],[],0,0,0⟩:=rfl;rw[Z0 rfl,ho];simp only[G7,G8,Mo,G9,K6,Oi,Mp,Oj,Ol,Mq,Om,Bool.and_eq_true,Bc,Request.mk.injEq,and_true,true_and,decide_eq_true_eq];all_goals (try unfold F0);(try unfold Ed);(try unfold C2);(try unfold Ji)
 all_goals simp only[Bool.and_eq_true,decide_eq_true_eq,and_assoc,true_and,and_true]
theorem uO:Af ⟨key,8,day,ticket,coupon,status,locator,coupons,taxes,amount,frm,til⟩=true↔checkN ticket=0∧key=[]∧day=0∧coupon=0∧status=0∧locator=[]∧coupons=[]∧taxes=[]∧amount=0∧frm=0∧til=0:=by
 have ho:Cq ⟨key,8,day,ticket,coupon,status,locator,coupons,taxes,amount,frm,til⟩=⟨[],8,0,ticket,0,0,[],[],[],0,0,0⟩:=rfl;rw[Z1 rfl,ho];simp only[G7,G8,Mo,G9,K6,Oi,Mp,Oj,Ol,Mq,Om,Bool.and_eq_true,Bc,Request.mk.injEq,and_true,true_and,decide_eq_true_eq];all_goals (try unfold F0);(try unfold Ed);(try unfold C2);(try unfold Ji)
 all_goals simp only[Bool.and_eq_true,decide_eq_true_eq,and_assoc,true_and,and_true]
theorem uP:Af ⟨key,9,day,ticket,coupon,status,locator,coupons,taxes,amount,frm,til⟩=true↔Gb locator=true∧key=[]∧day=0∧ticket=0∧coupon=0∧status=0∧coupons=[]∧taxes=[]∧amount=0∧frm=0∧til=0:=by
 have ho:Cq ⟨key,9,day,ticket,coupon,status,locator,coupons,taxes,amount,frm,til⟩=⟨[],9,0,0,0,0,locator,[],[],0,0,0⟩:=rfl;rw[Z2 rfl,ho];simp only[G7,G8,Mo,G9,K6,Oi,Mp,Oj,Ol,Mq,Om,Bool.and_eq_true,Bc,Request.mk.injEq,and_true,true_and,decide_eq_true_eq];all_goals (try unfold F0);(try unfold Ed);(try unfold C2);(try unfold Ji)
 all_goals simp only[Bool.and_eq_true,decide_eq_true_eq,and_assoc,true_and,and_true]
theorem lO:Af ⟨key,10,day,ticket,coupon,status,locator,coupons,taxes,amount,frm,til⟩=true↔((0≤frm∧frm≤1000000)∧(0≤til∧til≤1000000))∧key=[]∧day=0∧ticket=0∧coupon=0∧status=0∧locator=[]∧coupons=[]∧taxes=[]∧amount=0:=by
 have ho:Cq ⟨key,10,day,ticket,coupon,status,locator,coupons,taxes,amount,frm,til⟩=⟨[],10,0,0,0,0,[],[],[],0,frm,til⟩:=rfl;rw[Wd rfl,ho];simp only[G7,G8,Mo,G9,K6,Oi,Mp,Oj,Ol,Mq,Om,Bool.and_eq_true,Bc,Request.mk.injEq,and_true,true_and,decide_eq_true_eq];all_goals (try unfold F0);(try unfold Ed);(try unfold C2);(try unfold Ji)
 all_goals simp only[Bool.and_eq_true,decide_eq_true_eq,and_assoc,true_and,and_true]
end
noncomputable section
set_option maxRecDepth 100000
attribute [local irreducible] inK Utf8.decode Utf8.encode Lib.itoa Pl.worth Pl.allDig
attribute [local irreducible] Lib.join
def Aqz(H:List Blk)(q e j:Nat)(c:AV):List Blk:=match H[q]? with|some (.row sz len get T)=>H.set q (.row sz len (fun k=>Xv (decide (k=e)) (over (get e) j [c]) (get k)) T)|_=>H
def Azg(H:List Blk)(q e j:Nat):Option AV:=match H[q]? with|some (.row _ _ get _)=>(get e)[j]? |_=>none
theorem uQ{TY:TypeId→Option TI}{C:FuncId→Option Ctr}{D:PT}{wr:Tmp→Bool}{L:List AV→List Blk→Nat→Option LR}{fn:Func}{cs:List AV}{H:List Blk}{Q:AV→List Blk→Prop}(r:AV)(F:Bool→List Blk)(B:Bool)(h1:fnE TY C D wr (L cs H) fn cs H (fun c H'=>c=r∧∃ b,b=B∧H'=F b))(h2:Q r (F (sB B))):Wt TY C D wr L fn cs H Q:=by
 refine kD _ h1 ?_;rintro c H' ⟨rfl,b,rfl,rfl⟩;rw[Bt] at h2;exact h2
theorem Ajq{TY:TypeId→Option TI}{C:FuncId→Option Ctr}{D:PT}{wr:Tmp→Bool}{L:List AV→List Blk→Nat→Option LR}{fn:Func}{H:List Blk}{Q:AV→List Blk→Prop}{p:Nat}{g m:Bool}(hg:cellOf H p 2=some (.bool g))
  (h1:fnE TY C D wr (L [.ptr p 0,.bool m] H) fn [.ptr p 0,.bool m] H (fun c H'=>c= .tup []∧∃ b,b=(g&&m)∧H'=setCell H p 2 (.bool b)))
  (h2:Q (.tup []) (setCell H p 2 (.bool (sB (g&&m))))):Wt TY C D wr L fn [.ptr p 0,.bool m] H Q:=
 uQ _ (fun b=>setCell H p 2 (.bool b)) _ h1 h2
theorem Ack{TY:TypeId→Option TI}{C:FuncId→Option Ctr}{D:PT}{wr:Tmp→Bool}{L:List AV→List Blk→Nat→Option LR}{fn:Func}{H:List Blk}{Q:AV→List Blk→Prop}{p q z e j:Nat}{sz lo hi n:Int}{g:Bool}(hg:cellOf H p 2=some (.bool g))(hn:Azg H q e j=some (.int .i64 n))
  (h1:fnE TY C D wr (L [.ptr p 0,.eptr q z e j,.int .i64 sz,.int .i64 lo,.int .i64 hi] H) fn [.ptr p 0,.eptr q z e j,.int .i64 sz,.int .i64 lo,.int .i64 hi] H (fun c H'=>c= .tup []∧∃ b,b=C6 g lo n hi∧H'=Aqz (setCell H p 2 (.bool b)) q e j (.int .i64 0)))
  (h2:Q (.tup []) (Aqz (setCell H p 2 (.bool (sB (C6 g lo n hi)))) q e j (.int .i64 0))):Wt TY C D wr L fn [.ptr p 0,.eptr q z e j,.int .i64 sz,.int .i64 lo,.int .i64 hi] H Q:=
 uQ _ (fun b=>Aqz (setCell H p 2 (.bool b)) q e j (.int .i64 0)) _ h1 h2
theorem Bv{TY:TypeId→Option TI}{C:FuncId→Option Ctr}{D:PT}{wr:Tmp→Bool}{L:List AV→List Blk→Nat→Option LR}{fn:Func}{cs:List AV}{H:List Blk}{Q:AV→List Blk→Prop}{p:Nat}{g m:Bool}(hcs:cs=[.ptr p 0,.bool m])(hg:cellOf H p 2=some (.bool g))
  (h1:fnE TY C D wr (L [.ptr p 0,.bool m] H) fn [.ptr p 0,.bool m] H (fun c H'=>c= .tup []∧∃ b,b=(g&&m)∧H'=setCell H p 2 (.bool b)))
  (h2:Q (.tup []) (setCell H p 2 (.bool (sB (g&&m))))):Wt TY C D wr L fn cs H Q:=by
 subst hcs;exact Ajq hg h1 h2
theorem Bs{TY:TypeId→Option TI}{C:FuncId→Option Ctr}{D:PT}{wr:Tmp→Bool}{L:List AV→List Blk→Nat→Option LR}{fn:Func}{cs:List AV}{H:List Blk}{Q:AV→List Blk→Prop}{p q j:Nat}{sz lo hi n:Int}{g:Bool}(hcs:cs=[.ptr p 0,.ptr q j,.int .i64 sz,.int .i64 lo,.int .i64 hi])(hg:cellOf H p 2=some (.bool g))(hn:cellOf H q j=some (.int .i64 n))
  (h1:fnE TY C D wr (L [.ptr p 0,.ptr q j,.int .i64 sz,.int .i64 lo,.int .i64 hi] H) fn [.ptr p 0,.ptr q j,.int .i64 sz,.int .i64 lo,.int .i64 hi] H (fun c H'=>c= .tup []∧∃ b,b=C6 g lo n hi∧H'=setCell (setCell H p 2 (.bool b)) q j (.int .i64 0)))
  (h2:Q (.tup []) (setCell (setCell H p 2 (.bool (sB (C6 g lo n hi)))) q j (.int .i64 0))):Wt TY C D wr L fn cs H Q:=by
 subst hcs;exact Ael hg hn h1 h2
theorem D9{TY:TypeId→Option TI}{C:FuncId→Option Ctr}{D:PT}{wr:Tmp→Bool}{L:List AV→List Blk→Nat→Option LR}{fn:Func}{cs:List AV}{H:List Blk}{Q:AV→List Blk→Prop}{p q z e j:Nat}{sz lo hi n:Int}{g:Bool}(hcs:cs=[.ptr p 0,.eptr q z e j,.int .i64 sz,.int .i64 lo,.int .i64 hi])(hg:cellOf H p 2=some (.bool g))(hn:Azg H q e j=some (.int .i64 n))
  (h1:fnE TY C D wr (L [.ptr p 0,.eptr q z e j,.int .i64 sz,.int .i64 lo,.int .i64 hi] H) fn [.ptr p 0,.eptr q z e j,.int .i64 sz,.int .i64 lo,.int .i64 hi] H (fun c H'=>c= .tup []∧∃ b,b=C6 g lo n hi∧H'=Aqz (setCell H p 2 (.bool b)) q e j (.int .i64 0)))
  (h2:Q (.tup []) (Aqz (setCell H p 2 (.bool (sB (C6 g lo n hi)))) q e j (.int .i64 0))):Wt TY C D wr L fn cs H Q:=by
 subst hcs;exact Ack hg hn h1 h2
theorem Afb{g:Bool}{lo n hi:Int}(h:lo≤n):(g&&leI n hi)=C6 g lo n hi:=by
 unfold C6;rw[B7 lo,decide_eq_true h];simp
def Afc(cs:List AV):Nat:=match cs with
 | .ptr p _::_=>p
 |_=>0
def Aq0(H:List Blk)(cs:List AV)(j:Nat):Option Nat:=match cellOf H (Afc cs) 3 with
 |some (.ptr q _)=>(match cellOf H q j with|some (.osl k _ _ _ _)=>some k|_=>none)
 |_=>none
def Eh(r:Request):Prop:=r.coupons.length≤200000000∧r.taxes.length≤200000000
def lP:PC:=PC.of (fun l:List Coupon=>[slE 6 Coupon.enc l]) (fun l=>l.length≤200000000) (fun l=>slE 6 Coupon.enc l)
def Cl:PT:=Cg []
theorem C5{W:World}(hW:Tabs W):Cb (Fw W) Tryz.prog Cl:=Aq
def B9:FuncId→Option Ctr:=Av Cl []
theorem D3{W:World}(hW:Tabs W):Ad (Fw W) Tryz.prog B9:=(Ar (C5 hW))
theorem D4{W:World}(hW:Tabs W):GoodP (Fw W) Tryz.prog 211 lP:=by
 have hD:=C5 hW;have hC0:∀ l:List Coupon,Ad (Fw W) Tryz.prog B9:=fun l=>(D3 hW);refine As (D:=Cl) (C:=fun l=>B9) (wr:=(fun _=>false)) rfl Ao hD hC0 Tryz.func211 (fun _ _=>none) (fun _=>rfl) ?_;intro l hf hp;clear hf;have hp:l.length≤200000000:=hp
 (conv=>whnf)
 (repeat' (first|refine tuU ?_|split<;>rename_i hh<;>try simp only[wS] at hh)<;>conv=>whnf)
 all_goals try (intro e he;exfalso;omega)
 ·refine⟨⟨by omega,fun e he=>by unfold Bq;rw[if_neg (by omega)];rfl⟩,?_⟩
  (conv=>whnf)
  (repeat' (first|refine tuU ?_)<;>conv=>whnf)
  intro e he;show Bq 0 _ _ (0+e)=_;unfold Bq;rw[if_neg (by omega),Nat.zero_add,Nat.sub_zero]
def lV:PC:=PC.of (fun l:List Tax=>[slE 2 Tax.enc l]) (fun l=>l.length≤200000000) (fun l=>slE 2 Tax.enc l)
theorem Fi{W:World}(hW:Tabs W):GoodP (Fw W) Tryz.prog 212 lV:=by
 have hD:=C5 hW;have hC0:∀ l:List Tax,Ad (Fw W) Tryz.prog B9:=fun l=>(D3 hW);refine As (D:=Cl) (C:=fun l=>B9) (wr:=(fun _=>false)) rfl Ao hD hC0 Tryz.func212 (fun _ _=>none) (fun _=>rfl) ?_;intro l hf hp;clear hf;have hp:l.length≤200000000:=hp
 (conv=>whnf)
 (repeat' (first|refine tuU ?_|split<;>rename_i hh<;>try simp only[wS] at hh)<;>conv=>whnf)
 all_goals try (intro e he;exfalso;omega)
 ·refine⟨⟨by omega,fun e he=>by unfold Bq;rw[if_neg (by omega)];rfl⟩,?_⟩
  (conv=>whnf)
  (repeat' (first|refine tuU ?_)<;>conv=>whnf)
  intro e he;show Bq 0 _ _ (0+e)=_;unfold Bq;rw[if_neg (by omega),Nat.zero_add,Nat.sub_zero]
def Ak5:PC:=PC.of (fun r:Request=>[.agg r.enc]) Eh (fun r=>.agg r.enc)
def Mt:PT:=Cg [(211,lP),(212,lV)]
theorem Tj{W:World}(hW:Tabs W):Cb (Fw W) Tryz.prog Mt:=(Ab Tryz.call211 (D4 hW) (Ab Tryz.call212 (Fi hW) Aq))
def Mu:FuncId→Option Ctr:=Av Mt []
theorem gW{W:World}(hW:Tabs W):Ad (Fw W) Tryz.prog Mu:=(Ar (Tj hW))
theorem gY{W:World}(hW:Tabs W):GoodP (Fw W) Tryz.prog 140 Ak5:=by
 have hD:=Tj hW;have hC0:∀ r:Request,Ad (Fw W) Tryz.prog Mu:=fun r=>(gW hW);refine As (D:=Mt) (C:=fun r=>Mu) (wr:=(fun _=>false)) rfl Ao hD hC0 Tryz.func140 (fun _ _=>none) (fun _=>rfl) ?_;intro r hf hp;clear hf;obtain⟨hp1,hp2⟩:=hp
 (conv=>whnf)
 refine⟨r.coupons,hp1,?_,?_⟩
 ·exact Ac _
 (conv=>whnf)
 refine⟨r.taxes,hp2,?_,?_⟩
 ·exact Ac _
 (conv=>whnf)
 (repeat' (first|with_reducible exact⟨⟩|refine tuU ?_|with_reducible refine iA ?_ ?_)<;>conv=>whnf)
 all_goals (intro e he;rfl)
def A0w:PC:=PC.of (fun r:Request=>[.agg r.enc]) (fun r=>(r.kind≠1∧r.kind≠5)∧Eh r) (fun r=>.bool (sB (Af r)))
def Cs:PT:=Cg [(73,lI),(127,V8),(140,Ak5),(142,Pu),(195,Q4),(275,Uv)]
theorem Fj{W:World}(hW:Tabs W):Cb (Fw W) Tryz.prog Cs:=(Ab Tryz.call73 (Jy hW) (Ab Tryz.call127 (N2 hW) (Ab Tryz.call140 (gY hW) (Ab Tryz.call142 (Oo hW) (Ab Tryz.call195 (Q5 hW) (Ab Tryz.call275 (Re hW) Aq))))))
def Aq1:FuncId→Option Ctr:=Av Cs []
theorem Aq2{W:World}(hW:Tabs W):Ad (Fw W) Tryz.prog Aq1:=(Ar (Fj hW))
def Ak6:List (FuncId × Ctr):=(298,Wt TY Aq1 Cs (fun _=>false) (fun _ _ _=>none) Tryz.f298)::[]
def Ak7:FuncId→Option Ctr:=Av Cs Ak6
theorem Ak8{W:World}(hW:Tabs W):Ad (Fw W) Tryz.prog Ak7:=Ae Tryz.call298 (V6 rfl Ao (Fj hW) (Aq2 hW) Tryz.func298 (fun _ _ _=>none)) (Aq2 hW)
def Ak9:List (FuncId × Ctr):=(273,Wt TY Ak7 Cs (fun _=>false) (fun _ _ _=>none) Tryz.f273)::Ak6
def Ala:FuncId→Option Ctr:=Av Cs Ak9
theorem Alb{W:World}(hW:Tabs W):Ad (Fw W) Tryz.prog Ala:=Ae Tryz.call273 (V6 rfl Ao (Fj hW) (Ak8 hW) Tryz.func273 (fun _ _ _=>none)) (Ak8 hW)
def Alc:List (FuncId × Ctr):=(276,inl TY Ala Cs (fun _=>false) (fun _ _ _=>none) Tryz.f276)::Ak9
def Ald:FuncId→Option Ctr:=Av Cs Alc
theorem Ale{W:World}(hW:Tabs W):Ad (Fw W) Tryz.prog Ald:=Ae Tryz.call276 (Ah rfl Ao (Fj hW) (Alb hW) Tryz.func276 (fun _ _ _=>none)) (Alb hW)
def Alf:List (FuncId × Ctr):=(279,inl TY Ald Cs (fun _=>false) (fun _ _ _=>none) Tryz.f279)::Alc
def Alg:FuncId→Option Ctr:=Av Cs Alf
theorem Alh{W:World}(hW:Tabs W):Ad (Fw W) Tryz.prog Alg:=Ae Tryz.call279 (Ah rfl Ao (Fj hW) (Ale hW) Tryz.func279 (fun _ _ _=>none)) (Ale hW)
def Ali:List (FuncId × Ctr):=(259,inl TY Alg Cs (fun _=>false) (fun _ _ _=>none) Tryz.f259)::Alf
def Alj:FuncId→Option Ctr:=Av Cs Ali
theorem Alk{W:World}(hW:Tabs W):Ad (Fw W) Tryz.prog Alj:=Ae Tryz.call259 (Ah rfl Ao (Fj hW) (Alh hW) Tryz.func259 (fun _ _ _=>none)) (Alh hW)
def Alm:List (FuncId × Ctr):=(254,inl TY Alj Cs (fun _=>false) (fun _ _ _=>none) Tryz.f254)::Ali
def Aln:FuncId→Option Ctr:=Av Cs Alm
theorem Alo{W:World}(hW:Tabs W):Ad (Fw W) Tryz.prog Aln:=Ae Tryz.call254 (Ah rfl Ao (Fj hW) (Alk hW) Tryz.func254 (fun _ _ _=>none)) (Alk hW)
def Alp:List (FuncId × Ctr):=(255,inl TY Aln Cs (fun _=>false) (fun _ _ _=>none) Tryz.f255)::Alm
def Alq:FuncId→Option Ctr:=Av Cs Alp
theorem Alr{W:World}(hW:Tabs W):Ad (Fw W) Tryz.prog Alq:=Ae Tryz.call255 (Ah rfl Ao (Fj hW) (Alo hW) Tryz.func255 (fun _ _ _=>none)) (Alo hW)
def Als:List (FuncId × Ctr):=(274,inl TY Alq Cs (fun _=>false) (fun _ _ _=>none) Tryz.f274)::Alp
def Alt:FuncId→Option Ctr:=Av Cs Als
theorem Alu{W:World}(hW:Tabs W):Ad (Fw W) Tryz.prog Alt:=Ae Tryz.call274 (Ah rfl Ao (Fj hW) (Alr hW) Tryz.func274 (fun _ _ _=>none)) (Alr hW)
def Alv:List (FuncId × Ctr):=(225,inl TY Alt Cs (fun _=>false) (fun _ _ _=>none) Tryz.f225)::Als
def Alw:FuncId→Option Ctr:=Av Cs Alv
theorem Alx{W:World}(hW:Tabs W):Ad (Fw W) Tryz.prog Alw:=Ae Tryz.call225 (Ah rfl Ao (Fj hW) (Alu hW) Tryz.func225 (fun _ _ _=>none)) (Alu hW)
def Afd:List (FuncId × Ctr):=(226,inl TY Alw Cs (fun _=>false) (fun _ _ _=>none) Tryz.f226)::Alv
def Afe:FuncId→Option Ctr:=Av Cs Afd
theorem Aff{W:World}(hW:Tabs W):Ad (Fw W) Tryz.prog Afe:=Ae Tryz.call226 (Ah rfl Ao (Fj hW) (Alx hW) Tryz.func226 (fun _ _ _=>none)) (Alx hW)
def Afg:List (FuncId × Ctr):=(230,inl TY Afe Cs (fun _=>false) (fun _ _ _=>none) Tryz.f230)::Afd
def Afh:FuncId→Option Ctr:=Av Cs Afg
theorem Afi{W:World}(hW:Tabs W):Ad (Fw W) Tryz.prog Afh:=Ae Tryz.call230 (Ah rfl Ao (Fj hW) (Aff hW) Tryz.func230 (fun _ _ _=>none)) (Aff hW)
def Afj:List (FuncId × Ctr):=(231,inl TY Afh Cs (fun _=>false) (fun _ _ _=>none) Tryz.f231)::Afg
def Afk:FuncId→Option Ctr:=Av Cs Afj
theorem Afl{W:World}(hW:Tabs W):Ad (Fw W) Tryz.prog Afk:=Ae Tryz.call231 (Ah rfl Ao (Fj hW) (Afi hW) Tryz.func231 (fun _ _ _=>none)) (Afi hW)
def Afm:List (FuncId × Ctr):=(232,inl TY Afk Cs (fun _=>false) (fun _ _ _=>none) Tryz.f232)::Afj
def Afn:FuncId→Option Ctr:=Av Cs Afm
theorem Afo{W:World}(hW:Tabs W):Ad (Fw W) Tryz.prog Afn:=Ae Tryz.call232 (Ah rfl Ao (Fj hW) (Afl hW) Tryz.func232 (fun _ _ _=>none)) (Afl hW)
def Afp:List (FuncId × Ctr):=(233,inl TY Afn Cs (fun _=>false) (fun _ _ _=>none) Tryz.f233)::Afm
def Afq:FuncId→Option Ctr:=Av Cs Afp
theorem Afr{W:World}(hW:Tabs W):Ad (Fw W) Tryz.prog Afq:=Ae Tryz.call233 (Ah rfl Ao (Fj hW) (Afo hW) Tryz.func233 (fun _ _ _=>none)) (Afo hW)
def Afs:List (FuncId × Ctr):=(227,inl TY Afq Cs (fun _=>false) (fun _ _ _=>none) Tryz.f227)::Afp
def Aft:FuncId→Option Ctr:=Av Cs Afs
theorem Afu{W:World}(hW:Tabs W):Ad (Fw W) Tryz.prog Aft:=Ae Tryz.call227 (Ah rfl Ao (Fj hW) (Afr hW) Tryz.func227 (fun _ _ _=>none)) (Afr hW)
def Afv:List (FuncId × Ctr):=(235,inl TY Aft Cs (fun _=>false) (fun _ _ _=>none) Tryz.f235)::Afs
def Afw:FuncId→Option Ctr:=Av Cs Afv
theorem Afx{W:World}(hW:Tabs W):Ad (Fw W) Tryz.prog Afw:=Ae Tryz.call235 (Ah rfl Ao (Fj hW) (Afu hW) Tryz.func235 (fun _ _ _=>none)) (Afu hW)
def Afy:List (FuncId × Ctr):=(164,inl TY Afw Cs (fun _=>false) (fun _ _ _=>none) Tryz.f164)::Afv
def Afz:FuncId→Option Ctr:=Av Cs Afy
theorem Af0{W:World}(hW:Tabs W):Ad (Fw W) Tryz.prog Afz:=Ae Tryz.call164 (Ah rfl Ao (Fj hW) (Afx hW) Tryz.func164 (fun _ _ _=>none)) (Afx hW)
def uR:List AV→List Blk→Nat→Option LR:=fun _ _ i=>cond (Nat.beq i 2) (some (.unroll 7)) none
def Aq3:List (FuncId × Ctr):=(141,inl TY Afz Cs (fun _=>false) (uR) Tryz.f141)::Afy
def lW:FuncId→Option Ctr:=Av Cs Aq3
theorem Aq4{W:World}(hW:Tabs W):Ad (Fw W) Tryz.prog lW:=Ae Tryz.call141 (Ah rfl Ao (Fj hW) (Af0 hW) Tryz.func141 (uR)) (Af0 hW)
theorem A0x{W:World}(hW:Tabs W):GoodP (Fw W) Tryz.prog 71 A0w:=by
 have hD:=Fj hW;have hC0:∀ r:Request,Ad (Fw W) Tryz.prog lW:=fun r=>(Aq4 hW);refine As (D:=Cs) (C:=fun r=>lW) (wr:=(fun _=>false)) rfl Ao hD hC0 Tryz.func71 (fun _ _=>none) (fun _=>rfl) ?_;rintro⟨key,kind,day,ticket,coupon,status,locator,coupons,taxes,amount,frm,til⟩ hf hp;clear hf;by_cases h:1≤kind∧kind≤10
 ·rcases kinds h with rfl|rfl|rfl|rfl|rfl|rfl|rfl|rfl|rfl|rfl
  ·exact absurd rfl hp.1.1
  ·have hex: ¬Cd 2=[]:=by rw[B8 (by decide)];decide
   (conv=>whnf)
   (repeat' (first|(exact absurd (by with_reducible assumption) hex)|refine tuU ?_|split<;>rename_i hh<;>try simp only[wS] at hh)<;>conv=>whnf)
   refine⟨(⟨key,2,day,ticket,coupon,status,locator,coupons,taxes,amount,frm,til⟩:Request),hp.2,?_,?_⟩
   ·exact Ac _
   (conv=>whnf)
   (repeat' (first|(with_reducible refine Ap ?_)|((with_reducible apply Bv);(focus rfl);(focus rfl))|((with_reducible apply Bs);(focus rfl);(focus rfl);(focus rfl))|exact tM|refine tuU ?_|split<;>rename_i hh<;>try simp only[wS] at hh|with_reducible refine lnI fun hln=>?_)<;>conv=>whnf)
   all_goals try(show _=_;simp only[wQ])
   ·refine⟨((⟨[],2,0,0,0,0,locator,coupons,taxes,amount,frm,til⟩,⟨[],2,0,0,0,0,[],[],[],0,0,0⟩):Request × Request),True.intro,?_,?_⟩
    ·exact tL
    (conv=>whnf)
    all_goals try(show _=_;simp only[wQ])
    rw[cond_true,Bool.eq_iff_iff,Bc,uJ];have kl:=@Ii key;simp only[Br,Bool.and_eq_true,beq_iff_eq,Request.mk.injEq,true_and,and_true] at hh ⊢;exact⟨fun h=>by simp_all,fun h=>by simp_all⟩
   ·symm;refine Bool.eq_false_iff.2 fun hm=>?_;rw[uJ] at hm;have kl:=@Ii key;have hm2:=hm;try simp only[and_assoc] at hm2
    simp_all[C6,B7]
    all_goals omega
  ·have hex: ¬Cd 3=[]:=by rw[B8 (by decide)];decide
   (conv=>whnf)
   (repeat' (first|(exact absurd (by with_reducible assumption) hex)|refine tuU ?_|split<;>rename_i hh<;>try simp only[wS] at hh)<;>conv=>whnf)
   refine⟨(⟨key,3,day,ticket,coupon,status,locator,coupons,taxes,amount,frm,til⟩:Request),hp.2,?_,?_⟩
   ·exact Ac _
   (conv=>whnf)
   (repeat' (first|(with_reducible refine Ap ?_)|((with_reducible apply Bv);(focus rfl);(focus rfl))|((with_reducible apply Bs);(focus rfl);(focus rfl);(focus rfl))|exact tM|refine tuU ?_|split<;>rename_i hh<;>try simp only[wS] at hh|with_reducible refine lnI fun hln=>?_)<;>conv=>whnf)
   all_goals try(show _=_;simp only[wQ])
   ·refine⟨((⟨[],3,0,0,coupon,status,locator,coupons,taxes,amount,frm,til⟩,⟨[],3,0,0,0,0,[],[],[],0,0,0⟩):Request × Request),True.intro,?_,?_⟩
    ·exact tL
    (conv=>whnf)
    all_goals try(show _=_;simp only[wQ])
    rw[cond_true,Bool.eq_iff_iff,Bc,uK];have kl:=@Ii key;simp only[Br,Bool.and_eq_true,beq_iff_eq,Request.mk.injEq,true_and,and_true] at hh ⊢;exact⟨fun h=>by simp_all,fun h=>by simp_all⟩
   ·symm;refine Bool.eq_false_iff.2 fun hm=>?_;rw[uK] at hm;have kl:=@Ii key;have hm2:=hm;try simp only[and_assoc] at hm2
    simp_all[C6,B7]
    all_goals omega
  ·have hex: ¬Cd 4=[]:=by rw[B8 (by decide)];decide
   (conv=>whnf)
   (repeat' (first|(exact absurd (by with_reducible assumption) hex)|refine tuU ?_|split<;>rename_i hh<;>try simp only[wS] at hh)<;>conv=>whnf)
   refine⟨(⟨key,4,day,ticket,coupon,status,locator,coupons,taxes,amount,frm,til⟩:Request),hp.2,?_,?_⟩
   ·exact Ac _
   (conv=>whnf)
   (repeat' (first|(with_reducible refine Ap ?_)|((with_reducible apply Bv);(focus rfl);(focus rfl))|((with_reducible apply Bs);(focus rfl);(focus rfl);(focus rfl))|exact tM|refine tuU ?_|split<;>rename_i hh<;>try simp only[wS] at hh|with_reducible refine lnI fun hln=>?_)<;>conv=>whnf)
   all_goals try(show _=_;simp only[wQ])
   ·refine⟨((⟨[],4,0,0,coupon,status,locator,coupons,taxes,0,frm,til⟩,⟨[],4,0,0,0,0,[],[],[],0,0,0⟩):Request × Request),True.intro,?_,?_⟩
    ·exact tL
    (conv=>whnf)
    all_goals try(show _=_;simp only[wQ])
    rw[cond_true,Bool.eq_iff_iff,Bc,uL];have kl:=@Ii key;simp only[Br,Bool.and_eq_true,beq_iff_eq,Request.mk.injEq,true_and,and_true] at hh ⊢;exact⟨fun h=>by simp_all,fun h=>by simp_all⟩
   ·symm;refine Bool.eq_false_iff.2 fun hm=>?_;rw[uL] at hm;have kl:=@Ii key;have hm2:=hm;try simp only[and_assoc] at hm2
    simp_all[C6,B7]
    all_goals omega
  ·exact absurd rfl hp.1.2
  ·have hex: ¬Cd 6=[]:=by rw[B8 (by decide)];decide
   (conv=>whnf)
   (repeat' (first|(exact absurd (by with_reducible assumption) hex)|refine tuU ?_|split<;>rename_i hh<;>try simp only[wS] at hh)<;>conv=>whnf)
   refine⟨(⟨key,6,day,ticket,coupon,status,locator,coupons,taxes,amount,frm,til⟩:Request),hp.2,?_,?_⟩
   ·exact Ac _
   (conv=>whnf)
   (repeat' (first|(with_reducible refine Ap ?_)|((with_reducible apply Bv);(focus rfl);(focus rfl))|((with_reducible apply Bs);(focus rfl);(focus rfl);(focus rfl))|exact tM|refine tuU ?_|split<;>rename_i hh<;>try simp only[wS] at hh|with_reducible refine lnI fun hln=>?_)<;>conv=>whnf)
   all_goals try(show _=_;simp only[wQ])
   ·refine⟨((⟨[],6,0,0,0,status,locator,coupons,taxes,amount,frm,til⟩,⟨[],6,0,0,0,0,[],[],[],0,0,0⟩):Request × Request),True.intro,?_,?_⟩
    ·exact tL
    (conv=>whnf)
    all_goals try(show _=_;simp only[wQ])
    rw[cond_true,Bool.eq_iff_iff,Bc,uM];have kl:=@Ii key;simp only[Br,Bool.and_eq_true,beq_iff_eq,Request.mk.injEq,true_and,and_true] at hh ⊢;exact⟨fun h=>by simp_all,fun h=>by simp_all⟩
   ·symm;refine Bool.eq_false_iff.2 fun hm=>?_;rw[uM] at hm;have kl:=@Ii key;have hm2:=hm;try simp only[and_assoc] at hm2
    simp_all[C6,B7]
    all_goals omega
  ·have hex: ¬Cd 7=[]:=by rw[B8 (by decide)];decide
   (conv=>whnf)
   (repeat' (first|(exact absurd (by with_reducible assumption) hex)|refine tuU ?_|split<;>rename_i hh<;>try simp only[wS] at hh)<;>conv=>whnf)
   refine⟨(⟨key,7,day,ticket,coupon,status,locator,coupons,taxes,amount,frm,til⟩:Request),hp.2,?_,?_⟩
   ·exact Ac _
   (conv=>whnf)
   (repeat' (first|(with_reducible refine Ap ?_)|((with_reducible apply Bv);(focus rfl);(focus rfl))|((with_reducible apply Bs);(focus rfl);(focus rfl);(focus rfl))|exact tM|refine tuU ?_|split<;>rename_i hh<;>try simp only[wS] at hh|with_reducible refine lnI fun hln=>?_)<;>conv=>whnf)
   all_goals try(show _=_;simp only[wQ])
   ·refine⟨((⟨[],7,0,0,0,status,locator,coupons,taxes,amount,frm,til⟩,⟨[],7,0,0,0,0,[],[],[],0,0,0⟩):Request × Request),True.intro,?_,?_⟩
    ·exact tL
    (conv=>whnf)
    all_goals try(show _=_;simp only[wQ])
    rw[cond_true,Bool.eq_iff_iff,Bc,uN];have kl:=@Ii key;simp only[Br,Bool.and_eq_true,beq_iff_eq,Request.mk.injEq,true_and,and_true] at hh ⊢;exact⟨fun h=>by simp_all,fun h=>by simp_all⟩
   ·symm;refine Bool.eq_false_iff.2 fun hm=>?_;rw[uN] at hm;have kl:=@Ii key;have hm2:=hm;try simp only[and_assoc] at hm2
    simp_all[C6,B7]
    all_goals omega
  ·have hex: ¬Cd 8=[]:=by rw[B8 (by decide)];decide
   (conv=>whnf)
   (repeat' (first|(exact absurd (by with_reducible assumption) hex)|refine tuU ?_|split<;>rename_i hh<;>try simp only[wS] at hh)<;>conv=>whnf)
   refine⟨(⟨key,8,day,ticket,coupon,status,locator,coupons,taxes,amount,frm,til⟩:Request),hp.2,?_,?_⟩
   ·exact Ac _
   (conv=>whnf)
   (repeat' (first|(with_reducible refine Ap ?_)|((with_reducible apply Bv);(focus rfl);(focus rfl))|exact tM|refine tuU ?_|split<;>rename_i hh<;>try simp only[wS] at hh|with_reducible refine lnI fun hln=>?_)<;>conv=>whnf)
   all_goals try(show _=_;simp only[wQ])
   ·refine⟨((⟨key,8,day,0,coupon,status,locator,coupons,taxes,amount,frm,til⟩,⟨[],8,0,0,0,0,[],[],[],0,0,0⟩):Request × Request),True.intro,?_,?_⟩
    ·exact tL
    (conv=>whnf)
    all_goals try(show _=_;simp only[wQ])
    rw[cond_true,Bool.eq_iff_iff,Bc,uO];simp only[Br,Bool.and_eq_true,beq_iff_eq,Request.mk.injEq,true_and,and_true] at hh ⊢;exact⟨fun h=>by simp_all,fun h=>by simp_all⟩
   ·symm;refine Bool.eq_false_iff.2 fun hm=>?_;rw[uO] at hm;have hm2:=hm;try simp only[and_assoc] at hm2
    simp_all[C6,B7]
    all_goals omega
  ·have hex: ¬Cd 9=[]:=by rw[B8 (by decide)];decide
   (conv=>whnf)
   (repeat' (first|(exact absurd (by with_reducible assumption) hex)|refine tuU ?_|split<;>rename_i hh<;>try simp only[wS] at hh)<;>conv=>whnf)
   refine⟨(⟨key,9,day,ticket,coupon,status,locator,coupons,taxes,amount,frm,til⟩:Request),hp.2,?_,?_⟩
   ·exact Ac _
   (conv=>whnf)
   (repeat' (first|(with_reducible refine Ap ?_)|((with_reducible apply Bv);(focus rfl);(focus rfl))|exact tM|refine tuU ?_|split<;>rename_i hh<;>try simp only[wS] at hh|with_reducible refine lnI fun hln=>?_)<;>conv=>whnf)
   all_goals try(show _=_;simp only[wQ])
   ·refine⟨((⟨key,9,day,ticket,coupon,status,[],coupons,taxes,amount,frm,til⟩,⟨[],9,0,0,0,0,[],[],[],0,0,0⟩):Request × Request),True.intro,?_,?_⟩
    ·exact tL
    (conv=>whnf)
    all_goals try(show _=_;simp only[wQ])
    rw[cond_true,Bool.eq_iff_iff,Bc,uP];simp only[Br,Bool.and_eq_true,beq_iff_eq,Request.mk.injEq,true_and,and_true] at hh ⊢;exact⟨fun h=>by simp_all,fun h=>by simp_all⟩
   ·symm;refine Bool.eq_false_iff.2 fun hm=>?_;rw[uP] at hm;have hm2:=hm;try simp only[and_assoc] at hm2
    simp_all[C6,B7]
    all_goals omega
  ·have hex: ¬Cd 10=[]:=by rw[B8 (by decide)];decide
   (conv=>whnf)
   (repeat' (first|(exact absurd (by with_reducible assumption) hex)|refine tuU ?_|split<;>rename_i hh<;>try simp only[wS] at hh)<;>conv=>whnf)
   refine⟨(⟨key,10,day,ticket,coupon,status,locator,coupons,taxes,amount,frm,til⟩:Request),hp.2,?_,?_⟩
   ·exact Ac _
   (conv=>whnf)
   (repeat' (first|(with_reducible refine Ap ?_)|((with_reducible apply Bv);(focus rfl);(focus rfl))|((with_reducible apply Bs);(focus rfl);(focus rfl);(focus rfl))|exact tM|refine tuU ?_|split<;>rename_i hh<;>try simp only[wS] at hh|with_reducible refine lnI fun hln=>?_)<;>conv=>whnf)
   all_goals try(show _=_;simp only[wQ])
   ·refine⟨((⟨key,10,day,ticket,coupon,status,locator,coupons,taxes,amount,0,0⟩,⟨[],10,0,0,0,0,[],[],[],0,0,0⟩):Request × Request),True.intro,?_,?_⟩
    ·exact tL
    (conv=>whnf)
    all_goals try(show _=_;simp only[wQ])
    rw[cond_true,Bool.eq_iff_iff,Bc,lO];simp only[Br,Bool.and_eq_true,beq_iff_eq,Request.mk.injEq,true_and,and_true] at hh ⊢;exact⟨fun h=>by simp_all,fun h=>by simp_all⟩
   ·symm;refine Bool.eq_false_iff.2 fun hm=>?_;rw[lO] at hm;have hm2:=hm;try simp only[and_assoc] at hm2
    simp_all[C6,B7]
    all_goals omega
 ·have hn:Cd kind=[]:=Afa h;have hm:Af ⟨key,kind,day,ticket,coupon,status,locator,coupons,taxes,amount,frm,til⟩=false:=Rf h
  (conv=>whnf)
  (repeat' (first|refine tuU ?_|split<;>rename_i hh<;>try simp only[wS] at hh)<;>conv=>whnf)
  all_goals try(show _=_;simp only[wQ])
  ·exact hm.symm
  all_goals exact absurd hn (by assumption)
end
end Go.Vc.Z
