/- request.May, of the kind issue. -/
import Derived.Test.YtpmpclbdnakniaaGreatDoorV22
set_option linter.all false
set_option linter.unusedVariables false
set_option linter.unusedSimpArgs false
namespace Go.Vc.Z
open Go Go.Vc Go.Proofs Go.RowKit Go.Pl Go.Lib
@[irreducible] def lcB(g:Bool)(m:Int)(l:List Coupon)(i:Nat):Bool:=Dj g 1 l.length m&&(l.take i).all (Hg · 0)
@[irreducible] def ltB(g:Bool)(l:List Tax)(i:Nat):Bool:=Dj g 0 l.length 4&&Cs 1 (l.take i)
@[irreducible] def Ib(l:List Tax)(i:Nat):Int:=if i=0 then 1 else(if (l.getD (i - 1) default).code≤99 then(l.getD (i - 1) default).code else 99)+1
@[irreducible] def fz(i e:Nat)(v:Int):Int:=if e<i then 0 else v
theorem Ol(e:Nat)(v:Int):fz 0 e v=v:=by unfold fz;rw[if_neg (Nat.not_lt_zero _)]
theorem Ip{i e:Nat}(h:i≤e)(v:Int):fz i e v=v:=by unfold fz;rw[if_neg (by omega)]
theorem Av2{i e:Nat}(h:e<i)(v:Int):fz i e v=0:=by unfold fz;rw[if_pos h]
def oM(i e:Nat)(c:Coupon):List AV:=[.int .i64 (fz i e c.flight),.int .i64 (fz i e c.day),.int .i64 (fz i e c.value),.int .i64 c.status,.int .i64 c.holder,.int .u64 c.next]
def oN(i e:Nat)(c:Tax):List AV:=[.int .i64 (fz i e c.code),.int .i64 (fz i e c.amount)]
def A2j(H:List Blk)(k:Option Nat)(f:Nat→List AV):List Blk:=match k with
 |none=>H
 |some k=>(match H[k]? with|some (.row sz len _ T)=>H.set k (.row sz len f T)|_=>H)
def Aq1(g:Bool)(m:Int)(r:Request)(cs:List AV)(H:List Blk):LoopSpec:={
 α:=Nat
 keep:=[0,31,32]
 vals i:=[.ptr (Acl cs) 0,.int .i64 r.coupons.length,.int .i64 i]
 heap i:=A2j (setCell H (Acl cs) 2 (.bool (lcB g m r.coupons i))) (An5 H cs 7) (fun e=>oM i e (r.coupons.getD e default))++[.dead]
 ok i:=i≤r.coupons.length
 μ i:=r.coupons.length - i }
def Aq2(g:Bool)(r:Request)(cs:List AV)(H:List Blk):LoopSpec:={
 α:=Nat
 keep:=[0,2,30,31]
 vals i:=[.ptr (Acl cs) 0,.int .i64 (Ib r.taxes i),.int .i64 r.taxes.length,.int .i64 i]
 heap i:=A2j (setCell H (Acl cs) 2 (.bool (ltB g r.taxes i))) (An5 H cs 8) (fun e=>oN i e (r.taxes.getD e default))++[.dead]
 ok i:=i≤r.taxes.length
 μ i:=r.taxes.length - i }
@[irreducible] def gP5(r:Request):Bool:=Dj (Dj (Dj true 1 r.key.length 16&&Fp r.key) 0 r.day 1000000&&eqI (checkN r.ticket) 0) 0 r.amount 1000000000000
@[irreducible] def gP1(r:Request):Bool:=Dj (Dj true 1 r.key.length 16&&Fp r.key) 0 r.day 1000000&&Fx r.locator
theorem Av3{i e:Nat}(h:e≠i)(v:Int):fz i e v=fz (i+1) e v:=by unfold fz;split<;>split<;>first|rfl|omega
theorem dS{i e:Nat}(h:e≠i)(c:Coupon):oM i e c=oM (i+1) e c:=by simp only[oM,Av3 h]
theorem dT(i:Nat)(c:Coupon):oM (i+1) i c=[.int .i64 0,.int .i64 0,.int .i64 0,.int .i64 c.status,.int .i64 c.holder,.int .u64 c.next]:=by simp only[oM,Av2 (Nat.lt_succ_self i)]
theorem Om{i e:Nat}(h:e≠i)(c:Tax):oN i e c=oN (i+1) e c:=by simp only[oN,Av3 h]
theorem On(i:Nat)(c:Tax):oN (i+1) i c=[.int .i64 0,.int .i64 0]:=by simp only[oN,Av2 (Nat.lt_succ_self i)]
theorem Ya(g:Bool)(m:Int)(l:List Coupon):lcB g m l 0=Dj g 1 l.length m:=by unfold lcB;simp
theorem Yb(g:Bool)(l:List Tax):ltB g l 0=Dj g 0 l.length 4:=by unfold ltB;simp[Cs]
theorem Oo(l:List Tax):Ib l 0=1:=by unfold Ib;rfl
theorem Qa(g:Bool)(m:Int)(l:List Coupon):lcB g m l l.length=(g&&E8 m l):=by
 unfold lcB E8
 rw[List.take_length,Bool.eq_iff_iff]
 simp only[Bool.and_eq_true,By,decide_eq_true_eq]
 constructor
 ·rintro⟨⟨h1,h2,h3⟩,h4⟩;exact⟨h1,⟨h4,by omega⟩,h3⟩
 ·rintro⟨h1,⟨h4,h2⟩,h3⟩;exact⟨⟨h1,by omega,h3⟩,h4⟩
theorem Yc(g:Bool)(l:List Tax):ltB g l l.length=(g&&De l):=by
 unfold ltB De
 rw[List.take_length,Bool.eq_iff_iff]
 simp only[Bool.and_eq_true,By,decide_eq_true_eq]
 constructor
 ·rintro⟨⟨h1,h2,h3⟩,h4⟩;exact⟨h1,h4,by omega⟩
 ·rintro⟨h1,h4,h2⟩;exact⟨⟨h1,by omega,by omega⟩,h4⟩
theorem Q5{c:Coupon}:Hg c 0=true↔(1≤c.flight∧c.flight≤9999)∧(0≤c.day∧c.day≤1000000)∧(0≤c.value∧c.value≤1000000000000)∧c.status=0∧c.holder=0∧c.next=0:=by
 unfold Hg Fy Dh
 simp only[Bool.and_eq_true,decide_eq_true_eq,and_assoc]
theorem Yd{g:Bool}{m:Int}{l:List Coupon}{i:Nat}(h:i<l.length):lcB g m l (i+1)=(lcB g m l i&&Hg (l.getD i default) 0):=by
 unfold lcB
 rw[List.take_add_one,List.all_append,List.getElem?_eq_getElem h,List.getD_eq_getElem?_getD,List.getElem?_eq_getElem h,Bool.and_assoc]
 simp
def iJ:Int→List Tax→Int
 |n,[]=>n
 |_,y::l=>iJ (y.code+1) l
theorem iM:∀ (l:List Tax) (n:Int) (x:Tax),iJ n (l++[x])=x.code+1
 |[],_,_=>rfl
 |y::l,n,x=>by rw[List.cons_append,iJ,iM l]
theorem Nl:∀ (l:List Tax) (n:Int) (x:Tax),Cs n (l++[x])=(Cs n l&&(decide (iJ n l≤x.code)&&decide (x.code≤99)&&Dh x.amount))
 |[],n,x=>by simp only[List.nil_append,Cs,iJ,Bool.and_true,Bool.true_and]<;>rfl
 |y::l,n,x=>by rw[List.cons_append,Cs,Nl l,Cs];simp only[iJ,Bool.and_assoc]<;>rfl
theorem qY{l:List Tax}{i:Nat}(h:i<l.length):l.take (i+1)=l.take i++[l.getD i default]:=by
 rw[List.take_add_one,List.getElem?_eq_getElem h,List.getD_eq_getElem?_getD,List.getElem?_eq_getElem h];rfl
theorem Adc{l:List Tax}:∀ {i:Nat},i≤l.length→Cs 1 (l.take i)=true→iJ 1 (l.take i)=Ib l i
 |0,_,_=>by unfold Ib;rfl
 |i+1,h,ht=>by
  rw[qY (by omega)] at ht ⊢
  rw[Nl] at ht
  simp only[Bool.and_eq_true,decide_eq_true_eq] at ht
  rw[iM]
  unfold Ib
  rw[if_neg (by omega),Nat.add_sub_cancel,if_pos ht.2.1.2]
theorem Ld{g:Bool}{l:List Tax}{i:Nat}(h:i<l.length):ltB g l (i+1)=(ltB g l i&&(decide (Ib l i≤(l.getD i default).code)&&decide ((l.getD i default).code≤99)&&Dh (l.getD i default).amount)):=by
 unfold ltB
 rw[qY h,Nl,Bool.and_assoc]
 cases ht:Cs 1 (l.take i) with
 |false=>simp
 |true=>rw[Adc (by omega) ht];simp[Bool.and_assoc]
theorem dU{r:Request}:gP1 r=true↔Fp r.key=true∧(0≤r.day∧r.day≤1000000)∧Fx r.locator=true:=by
 unfold gP1
 simp only[Bool.and_eq_true,By,true_and]
 constructor
 ·rintro⟨⟨⟨_,h1⟩,h2⟩,h3⟩;exact⟨h1,h2,h3⟩
 ·rintro⟨h1,h2,h3⟩;have:=Hu h1;exact⟨⟨⟨⟨by omega,by omega⟩,h1⟩,h2⟩,h3⟩
theorem dV{r:Request}:gP5 r=true↔Fp r.key=true∧(0≤r.day∧r.day≤1000000)∧checkN r.ticket=0∧(0≤r.amount∧r.amount≤1000000000000):=by
 unfold gP5
 simp only[Bool.and_eq_true,By,true_and,Be,beq_iff_eq]
 constructor
 ·rintro⟨⟨⟨⟨_,h1⟩,h2⟩,h3⟩,h4⟩;exact⟨h1,h2,h3,h4⟩
 ·rintro⟨h1,h2,h3,h4⟩;have:=Hu h1;exact⟨⟨⟨⟨⟨by omega,by omega⟩,h1⟩,h2⟩,h3⟩,h4⟩
theorem Uh{m:Int}: ¬E8 m []=true:=fun h=>by have:=(Ev h).1;simp at this
theorem Q6:De []=true:=by unfold De;rfl
theorem Ye{l:List Tax}(h:Ax [slE 2 Tax.enc l]){k:Nat}(hk:k<l.length): -9223372036854775808≤(l.getD k default).code:=by
 simp only[Ax,Bh,and_true] at h
 have:=(h.2 k hk).2.1
 exact(Am.1 this).1
noncomputable section
set_option maxRecDepth 100000
attribute [local irreducible] inK Utf8.decode Utf8.encode Lib.itoa Pl.worth Pl.allDig
attribute [local irreducible] Lib.join
def Aq3:PC:=PC.of (fun r:Request=>[.agg r.enc]) (fun r=>(r.kind=1)∧¬r.coupons.length=0∧¬r.taxes.length=0∧D5 r) (fun r=>.bool (sB (Ah r)))
def Ak:PT:=C2 [(73,gY),(127,T9),(142,Oi),(195,Pw),(211,iG),(212,iH),(275,Sz)]
theorem Cc{W:World}(hW:Tabs W):Cl (Fw W) Tryz.prog Ak:=(Ab Tryz.call73 (Ja hW) (Ab Tryz.call127 (Mu hW) (Ab Tryz.call142 (Ni hW) (Ab Tryz.call195 (Px hW) (Ab Tryz.call211 (D8 hW) (Ab Tryz.call212 (Fb hW) (Ab Tryz.call275 (P5 hW) As)))))))
def Aiw:FuncId→Option Ctr:=Aw Ak []
theorem Aix{W:World}(hW:Tabs W):Ad (Fw W) Tryz.prog Aiw:=(Au (Cc hW))
def Add:List (FuncId × Ctr):=(298,Uu TY Aiw Ak (fun _=>false) (fun _ _ _=>none) Tryz.f298)::[]
def Ade:FuncId→Option Ctr:=Aw Ak Add
theorem Adf{W:World}(hW:Tabs W):Ad (Fw W) Tryz.prog Ade:=Ae Tryz.call298 (T7 rfl Ap (Cc hW) (Aix hW) Tryz.func298 (fun _ _ _=>none)) (Aix hW)
def Adg:List (FuncId × Ctr):=(273,Uu TY Ade Ak (fun _=>false) (fun _ _ _=>none) Tryz.f273)::Add
def Adh:FuncId→Option Ctr:=Aw Ak Adg
theorem Adi{W:World}(hW:Tabs W):Ad (Fw W) Tryz.prog Adh:=Ae Tryz.call273 (T7 rfl Ap (Cc hW) (Adf hW) Tryz.func273 (fun _ _ _=>none)) (Adf hW)
def Adj:List (FuncId × Ctr):=(260,inl TY Adh Ak (fun _=>false) (fun _ _ _=>none) Tryz.f260)::Adg
def Adk:FuncId→Option Ctr:=Aw Ak Adj
theorem Adl{W:World}(hW:Tabs W):Ad (Fw W) Tryz.prog Adk:=Ae Tryz.call260 (Ag rfl Ap (Cc hW) (Adi hW) Tryz.func260 (fun _ _ _=>none)) (Adi hW)
def Adm:List (FuncId × Ctr):=(276,inl TY Adk Ak (fun _=>false) (fun _ _ _=>none) Tryz.f276)::Adj
def Adn:FuncId→Option Ctr:=Aw Ak Adm
theorem Ado{W:World}(hW:Tabs W):Ad (Fw W) Tryz.prog Adn:=Ae Tryz.call276 (Ag rfl Ap (Cc hW) (Adl hW) Tryz.func276 (fun _ _ _=>none)) (Adl hW)
def Adp:List (FuncId × Ctr):=(279,inl TY Adn Ak (fun _=>false) (fun _ _ _=>none) Tryz.f279)::Adm
def Adq:FuncId→Option Ctr:=Aw Ak Adp
theorem Adr{W:World}(hW:Tabs W):Ad (Fw W) Tryz.prog Adq:=Ae Tryz.call279 (Ag rfl Ap (Cc hW) (Ado hW) Tryz.func279 (fun _ _ _=>none)) (Ado hW)
def Ads:List (FuncId × Ctr):=(254,inl TY Adq Ak (fun _=>false) (fun _ _ _=>none) Tryz.f254)::Adp
def Adt:FuncId→Option Ctr:=Aw Ak Ads
theorem Adu{W:World}(hW:Tabs W):Ad (Fw W) Tryz.prog Adt:=Ae Tryz.call254 (Ag rfl Ap (Cc hW) (Adr hW) Tryz.func254 (fun _ _ _=>none)) (Adr hW)
def Adv:List (FuncId × Ctr):=(274,inl TY Adt Ak (fun _=>false) (fun _ _ _=>none) Tryz.f274)::Ads
def Adw:FuncId→Option Ctr:=Aw Ak Adv
theorem Adx{W:World}(hW:Tabs W):Ad (Fw W) Tryz.prog Adw:=Ae Tryz.call274 (Ag rfl Ap (Cc hW) (Adu hW) Tryz.func274 (fun _ _ _=>none)) (Adu hW)
def Ady:List (FuncId × Ctr):=(258,inl TY Adw Ak (fun _=>false) (fun _ _ _=>none) Tryz.f258)::Adv
def Adz:FuncId→Option Ctr:=Aw Ak Ady
theorem Ad0{W:World}(hW:Tabs W):Ad (Fw W) Tryz.prog Adz:=Ae Tryz.call258 (Ag rfl Ap (Cc hW) (Adx hW) Tryz.func258 (fun _ _ _=>none)) (Adx hW)
def Ad1:List (FuncId × Ctr):=(278,inl TY Adz Ak (fun _=>false) (fun _ _ _=>none) Tryz.f278)::Ady
def Ad2:FuncId→Option Ctr:=Aw Ak Ad1
theorem Ad3{W:World}(hW:Tabs W):Ad (Fw W) Tryz.prog Ad2:=Ae Tryz.call278 (Ag rfl Ap (Cc hW) (Ad0 hW) Tryz.func278 (fun _ _ _=>none)) (Ad0 hW)
def qZ:List (FuncId × Ctr):=(305,inl TY Ad2 Ak (fun _=>false) (fun _ _ _=>none) Tryz.f305)::Ad1
def rA:FuncId→Option Ctr:=Aw Ak qZ
theorem rB{W:World}(hW:Tabs W):Ad (Fw W) Tryz.prog rA:=Ae Tryz.call305 (Ag rfl Ap (Cc hW) (Ad3 hW) Tryz.func305 (fun _ _ _=>none)) (Ad3 hW)
def rC:List (FuncId × Ctr):=(225,inl TY rA Ak (fun _=>false) (fun _ _ _=>none) Tryz.f225)::qZ
def rD:FuncId→Option Ctr:=Aw Ak rC
theorem rE{W:World}(hW:Tabs W):Ad (Fw W) Tryz.prog rD:=Ae Tryz.call225 (Ag rfl Ap (Cc hW) (rB hW) Tryz.func225 (fun _ _ _=>none)) (rB hW)
def rF:List (FuncId × Ctr):=(226,inl TY rD Ak (fun _=>false) (fun _ _ _=>none) Tryz.f226)::rC
def rG:FuncId→Option Ctr:=Aw Ak rF
theorem rH{W:World}(hW:Tabs W):Ad (Fw W) Tryz.prog rG:=Ae Tryz.call226 (Ag rfl Ap (Cc hW) (rE hW) Tryz.func226 (fun _ _ _=>none)) (rE hW)
def rI:List (FuncId × Ctr):=(230,inl TY rG Ak (fun _=>false) (fun _ _ _=>none) Tryz.f230)::rF
def rJ:FuncId→Option Ctr:=Aw Ak rI
theorem rK{W:World}(hW:Tabs W):Ad (Fw W) Tryz.prog rJ:=Ae Tryz.call230 (Ag rfl Ap (Cc hW) (rH hW) Tryz.func230 (fun _ _ _=>none)) (rH hW)
def rL:List (FuncId × Ctr):=(233,inl TY rJ Ak (fun _=>false) (fun _ _ _=>none) Tryz.f233)::rI
def rM:FuncId→Option Ctr:=Aw Ak rL
theorem rN{W:World}(hW:Tabs W):Ad (Fw W) Tryz.prog rM:=Ae Tryz.call233 (Ag rfl Ap (Cc hW) (rK hW) Tryz.func233 (fun _ _ _=>none)) (rK hW)
def Ui:List (FuncId × Ctr):=(227,inl TY rM Ak (fun _=>false) (fun _ _ _=>none) Tryz.f227)::rL
def Uj:FuncId→Option Ctr:=Aw Ak Ui
theorem Mk{W:World}(hW:Tabs W):Ad (Fw W) Tryz.prog Uj:=Ae Tryz.call227 (Ag rfl Ap (Cc hW) (rN hW) Tryz.func227 (fun _ _ _=>none)) (rN hW)
def Z9:List (FuncId × Ctr):=(211,inl TY Uj Ak (fun _=>false) (fun _ _ _=>none) Tryz.f211)::Ui
def aA:FuncId→Option Ctr:=Aw Ak Z9
theorem Uk{W:World}(hW:Tabs W):Ad (Fw W) Tryz.prog aA:=Ae Tryz.call211 (Ag rfl Ap (Cc hW) (Mk hW) Tryz.func211 (fun _ _ _=>none)) (Mk hW)
def rO:List (FuncId × Ctr):=(212,inl TY aA Ak (fun _=>false) (fun _ _ _=>none) Tryz.f212)::Z9
def rP:FuncId→Option Ctr:=Aw Ak rO
theorem rQ{W:World}(hW:Tabs W):Ad (Fw W) Tryz.prog rP:=Ae Tryz.call212 (Ag rfl Ap (Cc hW) (Uk hW) Tryz.func212 (fun _ _ _=>none)) (Uk hW)
def iO:List AV→List Blk→Nat→Option LR:=fun cs H i=>cond (Nat.beq i 1) (some (.order [0,1,3,4,2,6,5,7,8,9])) (none)
def aB:List (FuncId × Ctr):=(140,inl TY rP Ak (fun _=>false) (iO) Tryz.f140)::rO
def Qb:FuncId→Option Ctr:=Aw Ak aB
theorem rR{W:World}(hW:Tabs W):Ad (Fw W) Tryz.prog Qb:=Ae Tryz.call140 (Ag rfl Ap (Cc hW) (rQ hW) Tryz.func140 (iO)) (rQ hW)
def iP(r:Request):List AV→List Blk→Nat→Option LR:=fun cs H i=>cond (Nat.beq i 0) (some (.order [0,1,2,3,4,5,6,7,8,9,10,11,12,13,14,15,16,17,18])) (cond (Nat.beq i 6) (some (.order [0,1,2,3,4,5,6,7,8,9,10,11,12,13,14,15])) ((fun cs H i=>cond (Nat.beq i 2) (some (.inv (Aq1 (gP1 r) 12 r cs H))) none) cs H i))
def rS(r:Request):List (FuncId × Ctr):=(277,inl TY (Qb) Ak (fun _=>false) (iP r) Tryz.f277)::aB
def rT(r:Request):FuncId→Option Ctr:=Aw Ak (rS r)
def iR(r:Request):List AV→List Blk→Nat→Option LR:=fun cs H i=>cond (Nat.beq i 0) (some (.order [0,1,2,3,4,5,6,7,8,9,10,11,12,13,14,15,16,17])) ((fun cs H i=>cond (Nat.beq i 3) (some (.inv (Aq2 (lcB (gP1 r) 12 r.coupons r.coupons.length) r cs H))) none) cs H i)
def rU(r:Request):List (FuncId × Ctr):=(229,inl TY (rT r) Ak (fun _=>false) (iR r) Tryz.f229)::rS r
def rV(r:Request):FuncId→Option Ctr:=Aw Ak (rU r)
def rW(r:Request):List (FuncId × Ctr):=(228,inl TY (rV r) Ak (fun _=>false) (fun _ _ _=>none) Tryz.f228)::rU r
def rX(r:Request):FuncId→Option Ctr:=Aw Ak (rW r)
def rY(r:Request):List (FuncId × Ctr):=(234,inl TY (rX r) Ak (fun _=>false) (fun _ _ _=>none) Tryz.f234)::rW r
def rZ(r:Request):FuncId→Option Ctr:=Aw Ak (rY r)
def sA(r:Request):List (FuncId × Ctr):=(164,inl TY (rZ r) Ak (fun _=>false) (fun _ _ _=>none) Tryz.f164)::rY r
def sC(r:Request):FuncId→Option Ctr:=Aw Ak (sA r)
def iV(r:Request):List AV→List Blk→Nat→Option LR:=fun _ _ i=>cond (Nat.beq i 2) (some (.unroll 7)) none
def Akr(r:Request):List (FuncId × Ctr):=(141,inl TY (sC r) Ak (fun _=>false) (iV r) Tryz.f141)::sA r
def sD(r:Request):FuncId→Option Ctr:=Aw Ak (Akr r)
set_option maxHeartbeats 4000000 in
theorem Aq4{W:World}(hW:Tabs W):GoodP (Fw W) Tryz.prog 71 Aq3:=by
 have hD:=Cc hW
 have hC18:∀ r:Request,Ad (Fw W) Tryz.prog Qb:=fun r=>(rR hW)
 have hC19:∀ r:Request,Ad (Fw W) Tryz.prog (rT r):=fun r=>Ae Tryz.call277 (Ag rfl Ap hD (hC18 r) Tryz.func277 (iP r)) (hC18 r)
 have hC20:∀ r:Request,Ad (Fw W) Tryz.prog (rV r):=fun r=>Ae Tryz.call229 (Ag rfl Ap hD (hC19 r) Tryz.func229 (iR r)) (hC19 r)
 have hC21:∀ r:Request,Ad (Fw W) Tryz.prog (rX r):=fun r=>Ae Tryz.call228 (Ag rfl Ap hD (hC20 r) Tryz.func228 (fun _ _ _=>none)) (hC20 r)
 have hC22:∀ r:Request,Ad (Fw W) Tryz.prog (rZ r):=fun r=>Ae Tryz.call234 (Ag rfl Ap hD (hC21 r) Tryz.func234 (fun _ _ _=>none)) (hC21 r)
 have hC23:∀ r:Request,Ad (Fw W) Tryz.prog (sC r):=fun r=>Ae Tryz.call164 (Ag rfl Ap hD (hC22 r) Tryz.func164 (fun _ _ _=>none)) (hC22 r)
 have hC24:∀ r:Request,Ad (Fw W) Tryz.prog (sD r):=fun r=>Ae Tryz.call141 (Ag rfl Ap hD (hC23 r) Tryz.func141 (iV r)) (hC23 r)
 refine Ar (D:=Ak) (C:=fun r=>sD r) (wr:=(fun _=>false)) rfl Ap hD hC24 Tryz.func71 (fun _ _=>none) (fun _=>rfl) ?_
 rintro⟨key,kind,day,ticket,coupon,status,locator,coupons,taxes,amount,frm,til⟩ hf hp
 have hft:Ax [slE 2 Tax.enc taxes]:=⟨hf.1.2.2.2.2.2.2.2.2.1,True.intro⟩
 clear hf
 obtain⟨hk,hcn,htn,hp1,hp2⟩:=hp
 dsimp only at hk hcn htn hp1 hp2
 rcases hk with rfl
 have hex: ¬Ck 1=[]:=by rw[Ci (by decide)];decide
 have hca: ¬0+coupons.length≤0:=by omega
 have hta: ¬0+taxes.length≤0:=by omega
 (conv=>whnf)
 (repeat' ((first
  |(with_reducible refine Ao ?_)
  |(exact absurd (by with_reducible assumption) hex)
  |(exact absurd (by with_reducible assumption) hcn)
  |(exact absurd (by with_reducible assumption) htn)
  |(exact absurd (by with_reducible assumption) hca)
  |(exact absurd (by with_reducible assumption) hta)
  |((with_reducible apply B6);(focus rfl);(focus rfl))
  |((with_reducible apply Bz);(focus rfl);(focus rfl);(focus rfl))
  |((refine⟨rfl,_,?_,rfl⟩);(try simp only[Bd,Cg,Be,cond_true,cond_false,Bool.true_and,Bool.and_false,Bool.false_and,List.length_nil])<;>first|rfl|exact C4 (by omega)|exact C5 (by omega)|exact C6 (by omega)|(rename_i hh;(try simp only[List.length_nil] at hh);first|(rw[hh];first|rfl|(simp;done))|(rw[hh.1,hh.2];first|rfl|(simp;done))|(simp[hh];done)|(rcases hh with hh|hh<;>first|(rw[hh];first|rfl|(simp;done))|(simp[hh];done))))
  |with_reducible refine iQ ?_ ?_
  |((with_reducible refine aI ?_ ?_);focus (first|with_reducible exact⟨⟩|exact tO|((with_reducible show okQ _ _=true);rfl)|omega|exact tK|(simp only[Aq,ty2,ty3,ty4,ty5,ty9,Cw,Co,Cx,Cp,Cu,Cy,Cv,Cz,Bm,Bj,Bn,Bi,Bo,Bp,Bq];first|omega|(refine⟨?_,?_⟩<;>omega))))
  |(split<;>rename_i hh<;>(try simp only[wS] at hh))
  |with_reducible refine lnI fun hln=>?_
  |fail)<;>(conv=>whnf)))
 refine⟨?_,fun(i:Nat) (hi:i≤coupons.length)=>?_⟩
 ·(conv=>whnf)
  refine⟨(0:Nat),[],?_,⟨⟨rfl,(nB rfl),rfl⟩,?_,?_⟩⟩
  ·exact Nat.zero_le _
  ·exact tL
  ·(conv=>whnf)
   (repeat' ((first|with_reducible exact⟨⟩|((with_reducible refine Or.inr ?_);rfl)|((with_reducible refine aI ?_ ?_);focus (exact tA))|with_reducible refine iA ?_ ?_|with_reducible refine iL ?_ ?_|with_reducible refine iB ?_ ?_|fail)<;>(conv=>whnf)))
   all_goals (try simp only[wQ])
   all_goals (try first|omega|rfl|exact⟨fun h=>h,fun _ _=>True.intro⟩)
   all_goals (try first|exact fun _ _=>⟨True.intro,rfl⟩)
   ·intro e he
    refine⟨?_,rfl⟩
    show B0 0 _ _ e=_
    unfold B0
    rw[if_neg (by omega),Nat.sub_zero]
    simp only[oM,Ol]
   ·rw[Ya,Nat.zero_add];unfold gP1;rfl
   ·intro e he
    rcases(by omega:e=0∨e=1∨e=2∨e=3∨e=4) with rfl|rfl|rfl|rfl|rfl<;>exact⟨True.intro,rfl⟩
 ·(conv=>whnf)
  (repeat' ((first
   |(with_reducible refine Ao ?_)
   |((with_reducible apply B6);(focus rfl);(focus rfl))
   |((with_reducible apply Bz);(focus rfl);(focus rfl);(focus rfl))
   |((with_reducible apply Eb);(focus rfl);(focus rfl);(focus rfl))
   |(refine Oe ?_)
   |((refine⟨rfl,_,?_,rfl⟩);(try simp only[Bd,Cg,Be,cond_true,cond_false,Bool.true_and,Bool.and_false,Bool.false_and,List.length_nil])<;>first|rfl|exact C4 (by omega)|exact C5 (by omega)|exact C6 (by omega)|(rename_i hh;(try simp only[List.length_nil] at hh);first|(rw[hh];first|rfl|(simp;done))|(rw[hh.1,hh.2];first|rfl|(simp;done))|(simp[hh];done)|(rcases hh with hh|hh<;>first|(rw[hh];first|rfl|(simp;done))|(simp[hh];done))))
   |with_reducible refine iQ ?_ ?_
   |((with_reducible refine aI ?_ ?_);focus (first|((with_reducible show okQ _ _=true);rfl)|omega|exact tK))
   |(split<;>rename_i hh<;>(try simp only[wS] at hh))
   |with_reducible refine lnI fun hln=>?_
   |fail)<;>(conv=>whnf)))
  ·(conv=>whnf)
   refine⟨(i+1:Nat),[],?_,⟨⟨rfl,(nB rfl),rfl⟩,?_,?_⟩⟩
   ·exact⟨show i+1≤coupons.length by omega,show coupons.length - (i+1)<coupons.length - i by omega⟩
   ·exact tL
   ·(conv=>whnf)
    (repeat' ((first|with_reducible exact⟨⟩|((with_reducible refine Or.inr ?_);rfl)|((with_reducible refine aI ?_ ?_);focus (exact tA))|with_reducible refine iA ?_ ?_|with_reducible refine iL ?_ ?_|with_reducible refine iB ?_ ?_|fail)<;>(conv=>whnf)))
    all_goals (try simp only[wQ])
    all_goals (try first|omega|rfl|exact⟨fun h=>h,fun _ _=>True.intro⟩)
    all_goals (try first|exact fun _ _=>⟨True.intro,rfl⟩)
    ·intro e he
     refine⟨?_,rfl⟩
     simp only[Dv,decide_true,if_true,decide_eq_true_eq]
     by_cases h1:e=i
     ·subst h1
      simp only[if_pos (show e=0+Int.toNat (e:Int) by omega)]
      rw[dT];simp only[Nat.zero_add,Int.toNat_natCast];rfl
     ·simp only[if_neg (show¬e=0+Int.toNat (i:Int) by omega)]
      rw[dS h1]
    ·rw[Yd (by omega),Bool.eq_iff_iff]
     simp only[Bool.and_eq_true,By,Q5,beq_iff_eq,Wz,decide_true,if_true,Ip (Nat.le_refl i),Nat.zero_add,Int.toNat_natCast,true_and,and_assoc,cond_true,cond_false]
    ·intro e he
     rcases(by omega:e=0∨e=1∨e=2∨e=3∨e=4) with rfl|rfl|rfl|rfl|rfl<;>exact⟨True.intro,rfl⟩
  ·obtain rfl:i=coupons.length:=by omega
   refine⟨?_,fun(k:Nat) (hk:k≤taxes.length)=>?_⟩
   ·(conv=>whnf)
    refine⟨(0:Nat),[],?_,⟨⟨rfl,(nB rfl),rfl⟩,?_,?_⟩⟩
    ·exact Nat.zero_le _
    ·(conv=>whnf)
     (repeat' ((first|with_reducible exact⟨⟩|((with_reducible refine aI ?_ ?_);focus (exact tA))|with_reducible refine iA ?_ ?_|fail)<;>(conv=>whnf)))
     all_goals (try simp only[wQ])
     all_goals (try first|omega)
     all_goals exact(Oo _).symm
    ·(conv=>whnf)
     (repeat' ((first|with_reducible exact⟨⟩|((with_reducible refine Or.inr ?_);rfl)|((with_reducible refine aI ?_ ?_);focus (exact tA))|with_reducible refine iA ?_ ?_|with_reducible refine iL ?_ ?_|with_reducible refine iB ?_ ?_|fail)<;>(conv=>whnf)))
     all_goals (try simp only[wQ])
     all_goals (try first|omega|rfl|exact⟨fun h=>h,fun _ _=>True.intro⟩)
     all_goals (try first|exact fun _ _=>⟨True.intro,rfl⟩)
     ·intro e he
      refine⟨?_,rfl⟩
      show B0 0 _ _ e=_
      unfold B0
      rw[if_neg (by omega),Nat.sub_zero]
      simp only[oN,Ol]
     ·rw[Yb,Nat.zero_add]
     ·intro e he
      rcases(by omega:e=0∨e=1∨e=2∨e=3∨e=4) with rfl|rfl|rfl|rfl|rfl<;>exact⟨True.intro,rfl⟩
   ·have hfin:taxes.length≤k→ltB (lcB (gP1 ⟨key,1,day,ticket,coupon,status,locator,coupons,taxes,amount,frm,til⟩) 12 coupons coupons.length) taxes k=(gP1 ⟨key,1,day,ticket,coupon,status,locator,coupons,taxes,amount,frm,til⟩&&E8 12 coupons&&De taxes):=fun h=>by
     obtain rfl:k=taxes.length:=by omega
     rw[Yc,Qa]
    have hcode:k<taxes.length→ -9223372036854775808≤fz k (0+Int.toNat (k:Int)) (taxes.getD (0+Int.toNat (k:Int)) default).code:=fun h=>by
     rw[Ip (by omega),Nat.zero_add];exact Ye hft h
    have hfz:fz k (0+Int.toNat (k:Int)) (taxes.getD (0+Int.toNat (k:Int)) default).code=(taxes.getD k default).code:=by
     rw[Ip (by omega),Nat.zero_add];rfl
    (conv=>whnf)
    (repeat' ((first
     |(with_reducible refine Ao ?_)
     |(exact absurd (by with_reducible assumption) Bool.false_ne_true)
     |((with_reducible apply B6);(focus rfl);(focus rfl))
     |((with_reducible apply Bz);(focus rfl);(focus rfl);(focus rfl))
     |((with_reducible apply Eb);(focus rfl);(focus rfl);(focus rfl))
     |((refine⟨rfl,_,?_,rfl⟩);(try simp only[Bd,Cg,Be,cond_true,cond_false,Bool.true_and,Bool.and_false,Bool.false_and,List.length_nil])<;>first|rfl|exact C4 (by omega)|exact C5 (by omega)|exact C6 (by omega)|(rename_i hh;(try simp only[List.length_nil] at hh);first|(rw[hh];first|rfl|(simp;done))|(rw[hh.1,hh.2];first|rfl|(simp;done))|(simp[hh];done)|(rcases hh with hh|hh<;>first|(rw[hh];first|rfl|(simp;done))|(simp[hh];done))))
     |((with_reducible refine aI ?_ ?_);focus (first|exact tO|exact tK))
     |(split<;>rename_i hh<;>(try simp only[wS] at hh))
     |fail)<;>(conv=>whnf)))
    all_goals (try (show _=_;simp only[wQ]))
    ·(conv=>whnf)
     refine⟨(k+1:Nat),[],?_,⟨⟨rfl,(nB rfl),rfl⟩,?_,?_⟩⟩
     ·exact⟨show k+1≤taxes.length by omega,show taxes.length - (k+1)<taxes.length - k by omega⟩
     ·(conv=>whnf)
      (repeat' ((first|with_reducible exact⟨⟩|((with_reducible refine aI ?_ ?_);focus (exact tA))|with_reducible refine iA ?_ ?_|fail)<;>(conv=>whnf)))
      all_goals (try simp only[wQ])
      all_goals (try first|omega)
      all_goals (unfold Ib;rw[if_neg (by omega),Nat.add_sub_cancel];split<;>omega)
     ·(conv=>whnf)
      (repeat' ((first|with_reducible exact⟨⟩|((with_reducible refine Or.inr ?_);rfl)|((with_reducible refine aI ?_ ?_);focus (exact tA))|with_reducible refine iA ?_ ?_|with_reducible refine iL ?_ ?_|with_reducible refine iB ?_ ?_|fail)<;>(conv=>whnf)))
      all_goals (try simp only[wQ])
      all_goals (try first|omega|rfl|exact⟨fun h=>h,fun _ _=>True.intro⟩)
      all_goals (try first|exact fun _ _=>⟨True.intro,rfl⟩)
      ·intro e he
       refine⟨?_,rfl⟩
       simp only[Dv,decide_true,if_true,decide_eq_true_eq]
       by_cases h1:e=k
       ·subst h1
        simp only[if_pos (show e=0+Int.toNat (e:Int) by omega)]
        rw[On];simp only[Nat.zero_add,Int.toNat_natCast];rfl
       ·simp only[if_neg (show¬e=0+Int.toNat (k:Int) by omega)]
        rw[Om h1]
      ·rw[Ld (by omega),Bool.eq_iff_iff]
       unfold Dh
       simp only[Bool.and_eq_true,By,decide_eq_true_eq,Wz,decide_true,if_true,Ip (Nat.le_refl k),Nat.zero_add,Int.toNat_natCast,true_and,and_assoc,cond_true,cond_false]
      ·intro e he
       rcases(by omega:e=0∨e=1∨e=2∨e=3∨e=4) with rfl|rfl|rfl|rfl|rfl<;>exact⟨True.intro,rfl⟩
    ·(conv=>whnf)
     refine⟨(k+1:Nat),[],?_,⟨⟨rfl,(nB rfl),rfl⟩,?_,?_⟩⟩
     ·exact⟨show k+1≤taxes.length by omega,show taxes.length - (k+1)<taxes.length - k by omega⟩
     ·(conv=>whnf)
      (repeat' ((first|with_reducible exact⟨⟩|((with_reducible refine aI ?_ ?_);focus (exact tA))|with_reducible refine iA ?_ ?_|fail)<;>(conv=>whnf)))
      all_goals (try simp only[wQ])
      all_goals (try first|omega)
      all_goals (unfold Ib;rw[if_neg (by omega),Nat.add_sub_cancel];split<;>omega)
     ·(conv=>whnf)
      (repeat' ((first|with_reducible exact⟨⟩|((with_reducible refine Or.inr ?_);rfl)|((with_reducible refine aI ?_ ?_);focus (exact tA))|with_reducible refine iA ?_ ?_|with_reducible refine iL ?_ ?_|with_reducible refine iB ?_ ?_|fail)<;>(conv=>whnf)))
      all_goals (try simp only[wQ])
      all_goals (try first|omega|rfl|exact⟨fun h=>h,fun _ _=>True.intro⟩)
      all_goals (try first|exact fun _ _=>⟨True.intro,rfl⟩)
      ·intro e he
       refine⟨?_,rfl⟩
       simp only[Dv,decide_true,if_true,decide_eq_true_eq]
       by_cases h1:e=k
       ·subst h1
        simp only[if_pos (show e=0+Int.toNat (e:Int) by omega)]
        rw[On];simp only[Nat.zero_add,Int.toNat_natCast];rfl
       ·simp only[if_neg (show¬e=0+Int.toNat (k:Int) by omega)]
        rw[Om h1]
      ·rw[Ld (by omega),Bool.eq_iff_iff]
       unfold Dh
       simp only[Bool.and_eq_true,By,decide_eq_true_eq,Wz,decide_true,if_true,Ip (Nat.le_refl k),Nat.zero_add,Int.toNat_natCast,true_and,and_assoc,cond_true,cond_false]
      ·intro e he
       rcases(by omega:e=0∨e=1∨e=2∨e=3∨e=4) with rfl|rfl|rfl|rfl|rfl<;>exact⟨True.intro,rfl⟩
    ·refine⟨((⟨[],1,0,ticket,coupon,status,[],[],[],amount,frm,til⟩,⟨[],1,0,0,0,0,[],[],[],0,0,0⟩):Request × Request),True.intro,?_,?_⟩
     ·exact tL
     (conv=>whnf)
     all_goals (try (show _=_;simp only[wQ]))
     rw[cond_true,Bool.eq_iff_iff,Bb,Mi]
     rw[hfin (by omega)] at hh
     simp only[Bool.and_eq_true,dU,Request.mk.injEq,true_and,and_true] at hh ⊢
     exact⟨fun h=>by simp_all,fun h=>by simp_all⟩
    ·symm
     refine Bool.eq_false_iff.2 fun hm=>?_
     rw[Mi] at hm
     rw[hfin (by omega)] at hh
     refine absurd hh ?_
     rw[Bool.not_eq_false]
     simp only[Bool.and_eq_true,dU]
     simp_all
def Aq5:PC:=PC.of (fun r:Request=>[.agg r.enc]) (fun r=>(r.kind=1)∧¬r.coupons.length=0∧r.taxes=[]∧D5 r) (fun r=>.bool (sB (Ah r)))
def iW:List AV→List Blk→Nat→Option LR:=fun cs H i=>cond (Nat.beq i 0) (some (.order [0,1,2,3,4,5,6,7,8,9,10,11,12,13,14,15,16,17])) ((fun cs H i=>cond (Nat.beq i 3) (some (.unroll 1)) none) cs H i)
def sE:List (FuncId × Ctr):=(229,inl TY aA Ak (fun _=>false) (iW) Tryz.f229)::Z9
def sF:FuncId→Option Ctr:=Aw Ak sE
theorem sG{W:World}(hW:Tabs W):Ad (Fw W) Tryz.prog sF:=Ae Tryz.call229 (Ag rfl Ap (Cc hW) (Uk hW) Tryz.func229 (iW)) (Uk hW)
def iY:List AV→List Blk→Nat→Option LR:=fun cs H i=>cond (Nat.beq i 1) (some (.order [0,1,3,4,2,6,5,7,8,9])) (none)
def aC:List (FuncId × Ctr):=(140,inl TY sF Ak (fun _=>false) (iY) Tryz.f140)::sE
def Qc:FuncId→Option Ctr:=Aw Ak aC
theorem sH{W:World}(hW:Tabs W):Ad (Fw W) Tryz.prog Qc:=Ae Tryz.call140 (Ag rfl Ap (Cc hW) (sG hW) Tryz.func140 (iY)) (sG hW)
def iZ(r:Request):List AV→List Blk→Nat→Option LR:=fun cs H i=>cond (Nat.beq i 0) (some (.order [0,1,2,3,4,5,6,7,8,9,10,11,12,13,14,15,16,17,18])) (cond (Nat.beq i 6) (some (.order [0,1,2,3,4,5,6,7,8,9,10,11,12,13,14,15])) ((fun cs H i=>cond (Nat.beq i 2) (some (.inv (Aq1 (gP1 r) 12 r cs H))) none) cs H i))
def sJ(r:Request):List (FuncId × Ctr):=(277,inl TY (Qc) Ak (fun _=>false) (iZ r) Tryz.f277)::aC
def sK(r:Request):FuncId→Option Ctr:=Aw Ak (sJ r)
def sM(r:Request):List (FuncId × Ctr):=(228,inl TY (sK r) Ak (fun _=>false) (fun _ _ _=>none) Tryz.f228)::sJ r
def sO(r:Request):FuncId→Option Ctr:=Aw Ak (sM r)
def sP(r:Request):List (FuncId × Ctr):=(234,inl TY (sO r) Ak (fun _=>false) (fun _ _ _=>none) Tryz.f234)::sM r
def sQ(r:Request):FuncId→Option Ctr:=Aw Ak (sP r)
def sR(r:Request):List (FuncId × Ctr):=(164,inl TY (sQ r) Ak (fun _=>false) (fun _ _ _=>none) Tryz.f164)::sP r
def sT(r:Request):FuncId→Option Ctr:=Aw Ak (sR r)
def jA(r:Request):List AV→List Blk→Nat→Option LR:=fun _ _ i=>cond (Nat.beq i 2) (some (.unroll 7)) none
def Aks(r:Request):List (FuncId × Ctr):=(141,inl TY (sT r) Ak (fun _=>false) (jA r) Tryz.f141)::sR r
def sU(r:Request):FuncId→Option Ctr:=Aw Ak (Aks r)
set_option maxHeartbeats 4000000 in
theorem Aq6{W:World}(hW:Tabs W):GoodP (Fw W) Tryz.prog 71 Aq5:=by
 have hD:=Cc hW
 have hC18:∀ r:Request,Ad (Fw W) Tryz.prog Qc:=fun r=>(sH hW)
 have hC19:∀ r:Request,Ad (Fw W) Tryz.prog (sK r):=fun r=>Ae Tryz.call277 (Ag rfl Ap hD (hC18 r) Tryz.func277 (iZ r)) (hC18 r)
 have hC20:∀ r:Request,Ad (Fw W) Tryz.prog (sO r):=fun r=>Ae Tryz.call228 (Ag rfl Ap hD (hC19 r) Tryz.func228 (fun _ _ _=>none)) (hC19 r)
 have hC21:∀ r:Request,Ad (Fw W) Tryz.prog (sQ r):=fun r=>Ae Tryz.call234 (Ag rfl Ap hD (hC20 r) Tryz.func234 (fun _ _ _=>none)) (hC20 r)
 have hC22:∀ r:Request,Ad (Fw W) Tryz.prog (sT r):=fun r=>Ae Tryz.call164 (Ag rfl Ap hD (hC21 r) Tryz.func164 (fun _ _ _=>none)) (hC21 r)
 have hC23:∀ r:Request,Ad (Fw W) Tryz.prog (sU r):=fun r=>Ae Tryz.call141 (Ag rfl Ap hD (hC22 r) Tryz.func141 (jA r)) (hC22 r)
 refine Ar (D:=Ak) (C:=fun r=>sU r) (wr:=(fun _=>false)) rfl Ap hD hC23 Tryz.func71 (fun _ _=>none) (fun _=>rfl) ?_
 rintro⟨key,kind,day,ticket,coupon,status,locator,coupons,taxes,amount,frm,til⟩ hf hp
 have hft:Ax [slE 2 Tax.enc taxes]:=⟨hf.1.2.2.2.2.2.2.2.2.1,True.intro⟩
 clear hf
 obtain⟨hk,hcn,htn,hp1,hp2⟩:=hp
 dsimp only at hk hcn htn hp1 hp2
 subst htn
 rcases hk with rfl
 have hex: ¬Ck 1=[]:=by rw[Ci (by decide)];decide
 have hca: ¬0+coupons.length≤0:=by omega
 (conv=>whnf)
 (repeat' ((first
  |(with_reducible refine Ao ?_)
  |(exact absurd (by with_reducible assumption) hex)
  |(exact absurd (by with_reducible assumption) hcn)
  |(exact absurd (by with_reducible assumption) hca)
  |with_reducible refine iQ ?_ ?_
  |((with_reducible refine aI ?_ ?_);focus (first|with_reducible exact⟨⟩|((with_reducible show okQ _ _=true);rfl)|(simp only[Aq,ty2,ty3,ty4,ty5,ty9,Cw,Co,Cx,Cp,Cu,Cy,Cv,Cz,Bm,Bj,Bn,Bi,Bo,Bp,Bq];first|omega|(refine⟨?_,?_⟩<;>omega))))
  |(split<;>rename_i hh<;>(try simp only[wS] at hh))
  |fail)<;>(conv=>whnf)))
 refine⟨([]:List Tax),Nat.zero_le _,?_,?_⟩
 ·exact Ac _
 (conv=>whnf)
 (repeat' ((first
  |(with_reducible refine Ao ?_)
  |((with_reducible apply B6);(focus rfl);(focus rfl))
  |((with_reducible apply Bz);(focus rfl);(focus rfl);(focus rfl))
  |((refine⟨rfl,_,?_,rfl⟩);(try simp only[Bd,Cg,Be,cond_true,cond_false,Bool.true_and,Bool.and_false,Bool.false_and,List.length_nil])<;>first|rfl|exact C4 (by omega)|exact C5 (by omega)|exact C6 (by omega)|(rename_i hh;(try simp only[List.length_nil] at hh);first|(rw[hh];first|rfl|(simp;done))|(rw[hh.1,hh.2];first|rfl|(simp;done))|(simp[hh];done)|(rcases hh with hh|hh<;>first|(rw[hh];first|rfl|(simp;done))|(simp[hh];done))))
  |with_reducible refine iQ ?_ ?_
  |((with_reducible refine aI ?_ ?_);focus (first|with_reducible exact⟨⟩|exact tO|((with_reducible show okQ _ _=true);rfl)|omega|exact tK))
  |(split<;>rename_i hh<;>(try simp only[wS] at hh))
  |with_reducible refine lnI fun hln=>?_
  |fail)<;>(conv=>whnf)))
 refine⟨?_,fun(i:Nat) (hi:i≤coupons.length)=>?_⟩
 ·(conv=>whnf)
  refine⟨(0:Nat),[],?_,⟨⟨rfl,(nB rfl),rfl⟩,?_,?_⟩⟩
  ·exact Nat.zero_le _
  ·exact tL
  ·(conv=>whnf)
   (repeat' ((first|with_reducible exact⟨⟩|((with_reducible refine Or.inr ?_);rfl)|((with_reducible refine aI ?_ ?_);focus (exact tA))|with_reducible refine iA ?_ ?_|with_reducible refine iL ?_ ?_|with_reducible refine iB ?_ ?_|fail)<;>(conv=>whnf)))
   all_goals (try simp only[wQ])
   all_goals (try first|omega|rfl|exact⟨fun h=>h,fun _ _=>True.intro⟩)
   ·intro e he
    refine⟨?_,rfl⟩
    show B0 0 _ _ e=_
    unfold B0
    rw[if_neg (by omega),Nat.sub_zero]
    simp only[oM,Ol]
   ·rw[Ya,Nat.zero_add];unfold gP1;rfl
   ·intro e he
    rcases(by omega:e=0∨e=1∨e=2∨e=3∨e=4) with rfl|rfl|rfl|rfl|rfl<;>exact⟨True.intro,rfl⟩
 ·(conv=>whnf)
  (repeat' ((first
   |(with_reducible refine Ao ?_)
   |((with_reducible apply B6);(focus rfl);(focus rfl))
   |((with_reducible apply Bz);(focus rfl);(focus rfl);(focus rfl))
   |((with_reducible apply Eb);(focus rfl);(focus rfl);(focus rfl))
   |(refine Oe ?_)
   |((refine⟨rfl,_,?_,rfl⟩);(try simp only[Bd,Cg,Be,cond_true,cond_false,Bool.true_and,Bool.and_false,Bool.false_and,List.length_nil])<;>first|rfl|exact C4 (by omega)|exact C5 (by omega)|exact C6 (by omega)|(rename_i hh;(try simp only[List.length_nil] at hh);first|(rw[hh];first|rfl|(simp;done))|(rw[hh.1,hh.2];first|rfl|(simp;done))|(simp[hh];done)|(rcases hh with hh|hh<;>first|(rw[hh];first|rfl|(simp;done))|(simp[hh];done))))
   |with_reducible refine iQ ?_ ?_
   |((with_reducible refine aI ?_ ?_);focus (first|((with_reducible show okQ _ _=true);rfl)|omega|exact tK))
   |(split<;>rename_i hh<;>(try simp only[wS] at hh))
   |with_reducible refine lnI fun hln=>?_
   |fail)<;>(conv=>whnf)))
  all_goals (try (show _=_;simp only[wQ]))
  ·(conv=>whnf)
   refine⟨(i+1:Nat),[],?_,⟨⟨rfl,(nB rfl),rfl⟩,?_,?_⟩⟩
   ·exact⟨show i+1≤coupons.length by omega,show coupons.length - (i+1)<coupons.length - i by omega⟩
   ·exact tL
   ·(conv=>whnf)
    (repeat' ((first|with_reducible exact⟨⟩|((with_reducible refine Or.inr ?_);rfl)|((with_reducible refine aI ?_ ?_);focus (exact tA))|with_reducible refine iA ?_ ?_|with_reducible refine iL ?_ ?_|with_reducible refine iB ?_ ?_|fail)<;>(conv=>whnf)))
    all_goals (try simp only[wQ])
    all_goals (try first|omega|rfl|exact⟨fun h=>h,fun _ _=>True.intro⟩)
    ·intro e he
     refine⟨?_,rfl⟩
     simp only[Dv,decide_true,if_true,decide_eq_true_eq]
     by_cases h1:e=i
     ·subst h1
      simp only[if_pos (show e=0+Int.toNat (e:Int) by omega)]
      rw[dT];simp only[Nat.zero_add,Int.toNat_natCast];rfl
     ·simp only[if_neg (show¬e=0+Int.toNat (i:Int) by omega)]
      rw[dS h1]
    ·rw[Yd (by omega),Bool.eq_iff_iff]
     simp only[Bool.and_eq_true,By,Q5,beq_iff_eq,Wz,decide_true,if_true,Ip (Nat.le_refl i),Nat.zero_add,Int.toNat_natCast,true_and,and_assoc,cond_true,cond_false]
    ·intro e he
     rcases(by omega:e=0∨e=1∨e=2∨e=3∨e=4) with rfl|rfl|rfl|rfl|rfl<;>exact⟨True.intro,rfl⟩
  ·obtain rfl:i=coupons.length:=by omega
   have hfin:Dj (lcB (gP1 ⟨key,1,day,ticket,coupon,status,locator,coupons,[],amount,frm,til⟩) 12 coupons coupons.length) 0 ([]:List Tax).length 4=(gP1 ⟨key,1,day,ticket,coupon,status,locator,coupons,[],amount,frm,til⟩&&E8 12 coupons&&De []):=by
    rw[Qa,Q6,Bool.and_true,Bool.eq_iff_iff];simp[By]
   refine⟨((⟨[],1,0,ticket,coupon,status,[],[],[],amount,frm,til⟩,⟨[],1,0,0,0,0,[],[],[],0,0,0⟩):Request × Request),True.intro,?_,?_⟩
   ·exact tL
   (conv=>whnf)
   all_goals (try (show _=_;simp only[wQ]))
   rw[cond_true,Bool.eq_iff_iff,Bb,Mi]
   rw[hfin] at hh
   simp only[Bool.and_eq_true,dU,Request.mk.injEq,true_and,and_true] at hh ⊢
   exact⟨fun h=>by simp_all,fun h=>by simp_all⟩
  ·obtain rfl:i=coupons.length:=by omega
   have hfin:Dj (lcB (gP1 ⟨key,1,day,ticket,coupon,status,locator,coupons,[],amount,frm,til⟩) 12 coupons coupons.length) 0 ([]:List Tax).length 4=(gP1 ⟨key,1,day,ticket,coupon,status,locator,coupons,[],amount,frm,til⟩&&E8 12 coupons&&De []):=by
    rw[Qa,Q6,Bool.and_true,Bool.eq_iff_iff];simp[By]
   symm
   refine Bool.eq_false_iff.2 fun hm=>?_
   rw[Mi] at hm
   rw[hfin] at hh
   refine absurd hh ?_
   rw[Bool.not_eq_false]
   simp only[Bool.and_eq_true,dU]
   simp_all
def Aq7:PC:=PC.of (fun r:Request=>[.agg r.enc]) (fun r=>(r.kind=1)∧r.coupons=[]∧¬r.taxes.length=0∧D5 r) (fun r=>.bool (sB (Ah r)))
def sV:List (FuncId × Ctr):=(212,inl TY Uj Ak (fun _=>false) (fun _ _ _=>none) Tryz.f212)::Ui
def sW:FuncId→Option Ctr:=Aw Ak sV
theorem sX{W:World}(hW:Tabs W):Ad (Fw W) Tryz.prog sW:=Ae Tryz.call212 (Ag rfl Ap (Cc hW) (Mk hW) Tryz.func212 (fun _ _ _=>none)) (Mk hW)
def jB:List AV→List Blk→Nat→Option LR:=fun cs H i=>cond (Nat.beq i 0) (some (.order [0,1,2,3,4,5,6,7,8,9,10,11,12,13,14,15,16,17,18])) (cond (Nat.beq i 6) (some (.order [0,1,2,3,4,5,6,7,8,9,10,11,12,13,14,15])) ((fun cs H i=>cond (Nat.beq i 2) (some (.unroll 1)) none) cs H i))
def sY:List (FuncId × Ctr):=(277,inl TY sW Ak (fun _=>false) (jB) Tryz.f277)::sV
def sZ:FuncId→Option Ctr:=Aw Ak sY
theorem tB{W:World}(hW:Tabs W):Ad (Fw W) Tryz.prog sZ:=Ae Tryz.call277 (Ag rfl Ap (Cc hW) (sX hW) Tryz.func277 (jB)) (sX hW)
def tC:List (FuncId × Ctr):=(228,inl TY sZ Ak (fun _=>false) (fun _ _ _=>none) Tryz.f228)::sY
def tD:FuncId→Option Ctr:=Aw Ak tC
theorem tE{W:World}(hW:Tabs W):Ad (Fw W) Tryz.prog tD:=Ae Tryz.call228 (Ag rfl Ap (Cc hW) (tB hW) Tryz.func228 (fun _ _ _=>none)) (tB hW)
def tF:List (FuncId × Ctr):=(234,inl TY tD Ak (fun _=>false) (fun _ _ _=>none) Tryz.f234)::tC
def tG:FuncId→Option Ctr:=Aw Ak tF
theorem tH{W:World}(hW:Tabs W):Ad (Fw W) Tryz.prog tG:=Ae Tryz.call234 (Ag rfl Ap (Cc hW) (tE hW) Tryz.func234 (fun _ _ _=>none)) (tE hW)
def jC:List AV→List Blk→Nat→Option LR:=fun cs H i=>cond (Nat.beq i 1) (some (.order [0,1,3,4,2,6,5,7,8,9])) (none)
def aD:List (FuncId × Ctr):=(140,inl TY tG Ak (fun _=>false) (jC) Tryz.f140)::tF
def Qd:FuncId→Option Ctr:=Aw Ak aD
theorem tI{W:World}(hW:Tabs W):Ad (Fw W) Tryz.prog Qd:=Ae Tryz.call140 (Ag rfl Ap (Cc hW) (tH hW) Tryz.func140 (jC)) (tH hW)
def jD(r:Request):List AV→List Blk→Nat→Option LR:=fun cs H i=>cond (Nat.beq i 0) (some (.order [0,1,2,3,4,5,6,7,8,9,10,11,12,13,14,15,16,17])) ((fun cs H i=>cond (Nat.beq i 3) (some (.inv (Aq2 (Dj (gP1 r) 1 0 12) r cs H))) none) cs H i)
def tJ(r:Request):List (FuncId × Ctr):=(229,inl TY (Qd) Ak (fun _=>false) (jD r) Tryz.f229)::aD
def tM(r:Request):FuncId→Option Ctr:=Aw Ak (tJ r)
def tN(r:Request):List (FuncId × Ctr):=(164,inl TY (tM r) Ak (fun _=>false) (fun _ _ _=>none) Tryz.f164)::tJ r
def tP(r:Request):FuncId→Option Ctr:=Aw Ak (tN r)
def jE(r:Request):List AV→List Blk→Nat→Option LR:=fun _ _ i=>cond (Nat.beq i 2) (some (.unroll 7)) none
def Akt(r:Request):List (FuncId × Ctr):=(141,inl TY (tP r) Ak (fun _=>false) (jE r) Tryz.f141)::tN r
def tQ(r:Request):FuncId→Option Ctr:=Aw Ak (Akt r)
set_option maxHeartbeats 4000000 in
theorem Aq8{W:World}(hW:Tabs W):GoodP (Fw W) Tryz.prog 71 Aq7:=by
 have hD:=Cc hW
 have hC20:∀ r:Request,Ad (Fw W) Tryz.prog Qd:=fun r=>(tI hW)
 have hC21:∀ r:Request,Ad (Fw W) Tryz.prog (tM r):=fun r=>Ae Tryz.call229 (Ag rfl Ap hD (hC20 r) Tryz.func229 (jD r)) (hC20 r)
 have hC22:∀ r:Request,Ad (Fw W) Tryz.prog (tP r):=fun r=>Ae Tryz.call164 (Ag rfl Ap hD (hC21 r) Tryz.func164 (fun _ _ _=>none)) (hC21 r)
 have hC23:∀ r:Request,Ad (Fw W) Tryz.prog (tQ r):=fun r=>Ae Tryz.call141 (Ag rfl Ap hD (hC22 r) Tryz.func141 (jE r)) (hC22 r)
 refine Ar (D:=Ak) (C:=fun r=>tQ r) (wr:=(fun _=>false)) rfl Ap hD hC23 Tryz.func71 (fun _ _=>none) (fun _=>rfl) ?_
 rintro⟨key,kind,day,ticket,coupon,status,locator,coupons,taxes,amount,frm,til⟩ hf hp
 have hft:Ax [slE 2 Tax.enc taxes]:=⟨hf.1.2.2.2.2.2.2.2.2.1,True.intro⟩
 clear hf
 obtain⟨hk,hcn,htn,hp1,hp2⟩:=hp
 dsimp only at hk hcn htn hp1 hp2
 subst hcn
 rcases hk with rfl
 have hex: ¬Ck 1=[]:=by rw[Ci (by decide)];decide
 have hta: ¬0+taxes.length≤0:=by omega
 (conv=>whnf)
 (repeat' ((first
  |(with_reducible refine Ao ?_)
  |(exact absurd (by with_reducible assumption) hex)
  |((with_reducible refine aI ?_ ?_);focus (first|with_reducible exact⟨⟩|((with_reducible show okQ _ _=true);rfl)))
  |(split<;>rename_i hh<;>(try simp only[wS] at hh))
  |fail)<;>(conv=>whnf)))
 refine⟨([]:List Coupon),Nat.zero_le _,?_,?_⟩
 ·exact Ac _
 (conv=>whnf)
 (repeat' ((first
  |(with_reducible refine Ao ?_)
  |(exact absurd (by with_reducible assumption) htn)
  |(exact absurd (by with_reducible assumption) hta)
  |((with_reducible apply B6);(focus rfl);(focus rfl))
  |((with_reducible apply Bz);(focus rfl);(focus rfl);(focus rfl))
  |((refine⟨rfl,_,?_,rfl⟩);(try simp only[Bd,Cg,Be,cond_true,cond_false,Bool.true_and,Bool.and_false,Bool.false_and,List.length_nil])<;>first|rfl|exact C4 (by omega)|exact C5 (by omega)|exact C6 (by omega)|(rename_i hh;(try simp only[List.length_nil] at hh);first|(rw[hh];first|rfl|(simp;done))|(rw[hh.1,hh.2];first|rfl|(simp;done))|(simp[hh];done)|(rcases hh with hh|hh<;>first|(rw[hh];first|rfl|(simp;done))|(simp[hh];done))))
  |with_reducible refine iQ ?_ ?_
  |((with_reducible refine aI ?_ ?_);focus (first|with_reducible exact⟨⟩|exact tO|((with_reducible show okQ _ _=true);rfl)|omega|exact tK|(simp only[Aq,ty2,ty3,ty4,ty5,ty9,Cw,Co,Cx,Cp,Cu,Cy,Cv,Cz,Bm,Bj,Bn,Bi,Bo,Bp,Bq];first|omega|(refine⟨?_,?_⟩<;>omega))))
  |(split<;>rename_i hh<;>(try simp only[wS] at hh))
  |with_reducible refine lnI fun hln=>?_
  |fail)<;>(conv=>whnf)))
 refine⟨?_,fun(k:Nat) (hk:k≤taxes.length)=>?_⟩
 ·(conv=>whnf)
  refine⟨(0:Nat),[],?_,⟨⟨rfl,(nB rfl),rfl⟩,?_,?_⟩⟩
  ·exact Nat.zero_le _
  ·(conv=>whnf)
   (repeat' ((first|with_reducible exact⟨⟩|((with_reducible refine aI ?_ ?_);focus (exact tA))|with_reducible refine iA ?_ ?_|fail)<;>(conv=>whnf)))
   all_goals (try simp only[wQ])
   all_goals (try first|omega)
   all_goals exact(Oo _).symm
  ·(conv=>whnf)
   (repeat' ((first|with_reducible exact⟨⟩|((with_reducible refine Or.inr ?_);rfl)|((with_reducible refine aI ?_ ?_);focus (exact tA))|with_reducible refine iA ?_ ?_|with_reducible refine iL ?_ ?_|with_reducible refine iB ?_ ?_|fail)<;>(conv=>whnf)))
   all_goals (try simp only[wQ])
   all_goals (try first|omega|rfl|exact⟨fun h=>h,fun _ _=>True.intro⟩)
   ·intro e he
    refine⟨?_,rfl⟩
    show B0 0 _ _ e=_
    unfold B0
    rw[if_neg (by omega),Nat.sub_zero]
    simp only[oN,Ol]
   ·rw[Yb,Nat.zero_add];unfold gP1;rfl
   ·intro e he
    rcases(by omega:e=0∨e=1∨e=2∨e=3∨e=4) with rfl|rfl|rfl|rfl|rfl<;>exact⟨True.intro,rfl⟩
 ·have hfin:taxes.length≤k→ltB (Dj (gP1 ⟨key,1,day,ticket,coupon,status,locator,[],taxes,amount,frm,til⟩) 1 0 12) taxes k=((Dj (gP1 ⟨key,1,day,ticket,coupon,status,locator,[],taxes,amount,frm,til⟩) 1 0 12)&&De taxes):=fun h=>by
   obtain rfl:k=taxes.length:=by omega
   rw[Yc]
  have hcode:k<taxes.length→ -9223372036854775808≤fz k (0+Int.toNat (k:Int)) (taxes.getD (0+Int.toNat (k:Int)) default).code:=fun h=>by
   rw[Ip (by omega),Nat.zero_add];exact Ye hft h
  have hfz:fz k (0+Int.toNat (k:Int)) (taxes.getD (0+Int.toNat (k:Int)) default).code=(taxes.getD k default).code:=by
   rw[Ip (by omega),Nat.zero_add];rfl
  (conv=>whnf)
  (repeat' ((first
   |(with_reducible refine Ao ?_)
   |(exact absurd (by with_reducible assumption) Bool.false_ne_true)
   |((with_reducible apply B6);(focus rfl);(focus rfl))
   |((with_reducible apply Bz);(focus rfl);(focus rfl);(focus rfl))
   |((with_reducible apply Eb);(focus rfl);(focus rfl);(focus rfl))
   |((refine⟨rfl,_,?_,rfl⟩);(try simp only[Bd,Cg,Be,cond_true,cond_false,Bool.true_and,Bool.and_false,Bool.false_and,List.length_nil])<;>first|rfl|exact C4 (by omega)|exact C5 (by omega)|exact C6 (by omega)|(rename_i hh;(try simp only[List.length_nil] at hh);first|(rw[hh];first|rfl|(simp;done))|(rw[hh.1,hh.2];first|rfl|(simp;done))|(simp[hh];done)|(rcases hh with hh|hh<;>first|(rw[hh];first|rfl|(simp;done))|(simp[hh];done))))
   |((with_reducible refine aI ?_ ?_);focus (first|exact tO|exact tK))
   |(split<;>rename_i hh<;>(try simp only[wS] at hh))
   |fail)<;>(conv=>whnf)))
  all_goals (try (show _=_;simp only[wQ]))
  ·(conv=>whnf)
   refine⟨(k+1:Nat),[],?_,⟨⟨rfl,(nB rfl),rfl⟩,?_,?_⟩⟩
   ·exact⟨show k+1≤taxes.length by omega,show taxes.length - (k+1)<taxes.length - k by omega⟩
   ·(conv=>whnf)
    (repeat' ((first|with_reducible exact⟨⟩|((with_reducible refine aI ?_ ?_);focus (exact tA))|with_reducible refine iA ?_ ?_|fail)<;>(conv=>whnf)))
    all_goals (try simp only[wQ])
    all_goals (try first|omega)
    all_goals (unfold Ib;rw[if_neg (by omega),Nat.add_sub_cancel];split<;>omega)
   ·(conv=>whnf)
    (repeat' ((first|with_reducible exact⟨⟩|((with_reducible refine Or.inr ?_);rfl)|((with_reducible refine aI ?_ ?_);focus (exact tA))|with_reducible refine iA ?_ ?_|with_reducible refine iL ?_ ?_|with_reducible refine iB ?_ ?_|fail)<;>(conv=>whnf)))
    all_goals (try simp only[wQ])
    all_goals (try first|omega|rfl|exact⟨fun h=>h,fun _ _=>True.intro⟩)
    ·intro e he
     refine⟨?_,rfl⟩
     simp only[Dv,decide_true,if_true,decide_eq_true_eq]
     by_cases h1:e=k
     ·subst h1
      simp only[if_pos (show e=0+Int.toNat (e:Int) by omega)]
      rw[On];simp only[Nat.zero_add,Int.toNat_natCast];rfl
     ·simp only[if_neg (show¬e=0+Int.toNat (k:Int) by omega)]
      rw[Om h1]
    ·rw[Ld (by omega),Bool.eq_iff_iff]
     unfold Dh
     simp only[Bool.and_eq_true,By,decide_eq_true_eq,Wz,decide_true,if_true,Ip (Nat.le_refl k),Nat.zero_add,Int.toNat_natCast,true_and,and_assoc,cond_true,cond_false]
    ·intro e he
     rcases(by omega:e=0∨e=1∨e=2∨e=3∨e=4) with rfl|rfl|rfl|rfl|rfl<;>exact⟨True.intro,rfl⟩
  ·(conv=>whnf)
   refine⟨(k+1:Nat),[],?_,⟨⟨rfl,(nB rfl),rfl⟩,?_,?_⟩⟩
   ·exact⟨show k+1≤taxes.length by omega,show taxes.length - (k+1)<taxes.length - k by omega⟩
   ·(conv=>whnf)
    (repeat' ((first|with_reducible exact⟨⟩|((with_reducible refine aI ?_ ?_);focus (exact tA))|with_reducible refine iA ?_ ?_|fail)<;>(conv=>whnf)))
    all_goals (try simp only[wQ])
    all_goals (try first|omega)
    all_goals (unfold Ib;rw[if_neg (by omega),Nat.add_sub_cancel];split<;>omega)
   ·(conv=>whnf)
    (repeat' ((first|with_reducible exact⟨⟩|((with_reducible refine Or.inr ?_);rfl)|((with_reducible refine aI ?_ ?_);focus (exact tA))|with_reducible refine iA ?_ ?_|with_reducible refine iL ?_ ?_|with_reducible refine iB ?_ ?_|fail)<;>(conv=>whnf)))
    all_goals (try simp only[wQ])
    all_goals (try first|omega|rfl|exact⟨fun h=>h,fun _ _=>True.intro⟩)
    ·intro e he
     refine⟨?_,rfl⟩
     simp only[Dv,decide_true,if_true,decide_eq_true_eq]
     by_cases h1:e=k
     ·subst h1
      simp only[if_pos (show e=0+Int.toNat (e:Int) by omega)]
      rw[On];simp only[Nat.zero_add,Int.toNat_natCast];rfl
     ·simp only[if_neg (show¬e=0+Int.toNat (k:Int) by omega)]
      rw[Om h1]
    ·rw[Ld (by omega),Bool.eq_iff_iff]
     unfold Dh
     simp only[Bool.and_eq_true,By,decide_eq_true_eq,Wz,decide_true,if_true,Ip (Nat.le_refl k),Nat.zero_add,Int.toNat_natCast,true_and,and_assoc,cond_true,cond_false]
    ·intro e he
     rcases(by omega:e=0∨e=1∨e=2∨e=3∨e=4) with rfl|rfl|rfl|rfl|rfl<;>exact⟨True.intro,rfl⟩
  ·exfalso
   rw[hfin (by omega)] at hh
   simp only[Bool.and_eq_true,By,List.length_nil] at hh
   omega
  ·symm
   refine Bool.eq_false_iff.2 fun hm=>?_
   rw[Mi] at hm
   exact Uh (m:=12) (by simp only[hm])
def Aq9:PC:=PC.of (fun r:Request=>[.agg r.enc]) (fun r=>(r.kind=1)∧r.coupons=[]∧r.taxes=[]∧D5 r) (fun r=>.bool (sB (Ah r)))
def tR:List (FuncId × Ctr):=(140,inl TY Uj Ak (fun _=>false) (fun _ _ _=>none) Tryz.f140)::Ui
def tS:FuncId→Option Ctr:=Aw Ak tR
theorem tT{W:World}(hW:Tabs W):Ad (Fw W) Tryz.prog tS:=Ae Tryz.call140 (Ag rfl Ap (Cc hW) (Mk hW) Tryz.func140 (fun _ _ _=>none)) (Mk hW)
def jF:List AV→List Blk→Nat→Option LR:=fun cs H i=>cond (Nat.beq i 0) (some (.order [0,1,2,3,4,5,6,7,8,9,10,11,12,13,14,15,16,17,18])) (cond (Nat.beq i 6) (some (.order [0,1,2,3,4,5,6,7,8,9,10,11,12,13,14,15])) ((fun cs H i=>cond (Nat.beq i 2) (some (.unroll 1)) none) cs H i))
def tU:List (FuncId × Ctr):=(277,inl TY tS Ak (fun _=>false) (jF) Tryz.f277)::tR
def tV:FuncId→Option Ctr:=Aw Ak tU
theorem tW{W:World}(hW:Tabs W):Ad (Fw W) Tryz.prog tV:=Ae Tryz.call277 (Ag rfl Ap (Cc hW) (tT hW) Tryz.func277 (jF)) (tT hW)
def jG:List AV→List Blk→Nat→Option LR:=fun cs H i=>cond (Nat.beq i 0) (some (.order [0,1,2,3,4,5,6,7,8,9,10,11,12,13,14,15,16,17])) ((fun cs H i=>cond (Nat.beq i 3) (some (.unroll 1)) none) cs H i)
def tX:List (FuncId × Ctr):=(229,inl TY tV Ak (fun _=>false) (jG) Tryz.f229)::tU
def tY:FuncId→Option Ctr:=Aw Ak tX
theorem tZ{W:World}(hW:Tabs W):Ad (Fw W) Tryz.prog tY:=Ae Tryz.call229 (Ag rfl Ap (Cc hW) (tW hW) Tryz.func229 (jG)) (tW hW)
def uA:List (FuncId × Ctr):=(228,inl TY tY Ak (fun _=>false) (fun _ _ _=>none) Tryz.f228)::tX
def uB:FuncId→Option Ctr:=Aw Ak uA
theorem uC{W:World}(hW:Tabs W):Ad (Fw W) Tryz.prog uB:=Ae Tryz.call228 (Ag rfl Ap (Cc hW) (tZ hW) Tryz.func228 (fun _ _ _=>none)) (tZ hW)
def uD:List (FuncId × Ctr):=(234,inl TY uB Ak (fun _=>false) (fun _ _ _=>none) Tryz.f234)::uA
def uE:FuncId→Option Ctr:=Aw Ak uD
theorem uF{W:World}(hW:Tabs W):Ad (Fw W) Tryz.prog uE:=Ae Tryz.call234 (Ag rfl Ap (Cc hW) (uC hW) Tryz.func234 (fun _ _ _=>none)) (uC hW)
def uG:List (FuncId × Ctr):=(164,inl TY uE Ak (fun _=>false) (fun _ _ _=>none) Tryz.f164)::uD
def uH:FuncId→Option Ctr:=Aw Ak uG
theorem uI{W:World}(hW:Tabs W):Ad (Fw W) Tryz.prog uH:=Ae Tryz.call164 (Ag rfl Ap (Cc hW) (uF hW) Tryz.func164 (fun _ _ _=>none)) (uF hW)
def jH:List AV→List Blk→Nat→Option LR:=fun _ _ i=>cond (Nat.beq i 2) (some (.unroll 7)) none
def Aku:List (FuncId × Ctr):=(141,inl TY uH Ak (fun _=>false) (jH) Tryz.f141)::uG
def Qe:FuncId→Option Ctr:=Aw Ak Aku
theorem uJ{W:World}(hW:Tabs W):Ad (Fw W) Tryz.prog Qe:=Ae Tryz.call141 (Ag rfl Ap (Cc hW) (uI hW) Tryz.func141 (jH)) (uI hW)
set_option maxHeartbeats 4000000 in
theorem Ara{W:World}(hW:Tabs W):GoodP (Fw W) Tryz.prog 71 Aq9:=by
 have hD:=Cc hW
 have hC0:∀ r:Request,Ad (Fw W) Tryz.prog Qe:=fun r=>(uJ hW)
 refine Ar (D:=Ak) (C:=fun r=>Qe) (wr:=(fun _=>false)) rfl Ap hD hC0 Tryz.func71 (fun _ _=>none) (fun _=>rfl) ?_
 rintro⟨key,kind,day,ticket,coupon,status,locator,coupons,taxes,amount,frm,til⟩ hf hp
 have hft:Ax [slE 2 Tax.enc taxes]:=⟨hf.1.2.2.2.2.2.2.2.2.1,True.intro⟩
 clear hf
 obtain⟨hk,hcn,htn,hp1,hp2⟩:=hp
 dsimp only at hk hcn htn hp1 hp2
 subst hcn
 subst htn
 rcases hk with rfl
 have hex: ¬Ck 1=[]:=by rw[Ci (by decide)];decide
 (conv=>whnf)
 (repeat' ((first
  |(with_reducible refine Ao ?_)
  |(exact absurd (by with_reducible assumption) hex)
  |((with_reducible refine aI ?_ ?_);focus (with_reducible exact⟨⟩))
  |(split<;>rename_i hh<;>(try simp only[wS] at hh))
  |fail)<;>(conv=>whnf)))
 refine⟨([]:List Coupon),Nat.zero_le _,?_,?_⟩
 ·exact Ac _
 (conv=>whnf)
 refine⟨([]:List Tax),Nat.zero_le _,?_,?_⟩
 ·exact Ac _
 (conv=>whnf)
 (repeat' ((first
  |(with_reducible refine Ao ?_)
  |((with_reducible apply B6);(focus rfl);(focus rfl))
  |((with_reducible apply Bz);(focus rfl);(focus rfl);(focus rfl))
  |((refine⟨rfl,_,?_,rfl⟩);(try simp only[Bd,Cg,Be,cond_true,cond_false,Bool.true_and,Bool.and_false,Bool.false_and,List.length_nil])<;>first|rfl|exact C4 (by omega)|exact C5 (by omega)|exact C6 (by omega)|(rename_i hh;(try simp only[List.length_nil] at hh);first|(rw[hh];first|rfl|(simp;done))|(rw[hh.1,hh.2];first|rfl|(simp;done))|(simp[hh];done)|(rcases hh with hh|hh<;>first|(rw[hh];first|rfl|(simp;done))|(simp[hh];done))))
  |with_reducible refine iQ ?_ ?_
  |((with_reducible refine aI ?_ ?_);focus (first|with_reducible exact⟨⟩|exact tO|((with_reducible show okQ _ _=true);rfl)|omega|exact tK))
  |(split<;>rename_i hh<;>(try simp only[wS] at hh))
  |with_reducible refine lnI fun hln=>?_
  |fail)<;>(conv=>whnf)))
 all_goals (try (show _=_;simp only[wQ]))
 ·exfalso
  simp only[Bool.and_eq_true,By,List.length_nil] at hh
  omega
 ·symm
  refine Bool.eq_false_iff.2 fun hm=>?_
  rw[Mi] at hm
  exact Uh (m:=12) (by simp only[hm])
end
end Go.Vc.Z
