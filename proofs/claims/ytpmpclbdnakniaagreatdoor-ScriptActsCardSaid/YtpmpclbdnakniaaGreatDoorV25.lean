/- request.May, of the kind issue. -/
import Derived.Test.YtpmpclbdnakniaaGreatDoorV24
set_option linter.all false
set_option linter.unusedVariables false
set_option linter.unusedSimpArgs false
namespace Go.Vc.Z
open Go Go.Vc Go.Proofs Go.RowKit Go.Pl Go.Lib
@[irreducible] def lcB(g:Bool)(m:Int)(l:List Coupon)(i:Nat):Bool:=Dp g 1 l.length m&&(l.take i).all (Gk · 0)
@[irreducible] def ltB(g:Bool)(l:List Tax)(i:Nat):Bool:=Dp g 0 l.length 4&&Cz 1 (l.take i)
@[irreducible] def Iy(l:List Tax)(i:Nat):Int:=if i=0 then 1 else(if (l.getD (i - 1) default).code≤99 then(l.getD (i - 1) default).code else 99)+1
@[irreducible] def fz(i e:Nat)(v:Int):Int:=if e<i then 0 else v
theorem O2(e:Nat)(v:Int):fz 0 e v=v:=by unfold fz;rw[if_neg (Nat.not_lt_zero _)]
theorem Jc{i e:Nat}(h:i≤e)(v:Int):fz i e v=v:=by unfold fz;rw[if_neg (by omega)]
theorem Ats{i e:Nat}(h:e<i)(v:Int):fz i e v=0:=by unfold fz;rw[if_pos h]
def nI(i e:Nat)(c:Coupon):List AV:=[.int .i64 (fz i e c.flight),.int .i64 (fz i e c.day),.int .i64 (fz i e c.value),.int .i64 c.status,.int .i64 c.holder,.int .u64 c.next]
def nJ(i e:Nat)(c:Tax):List AV:=[.int .i64 (fz i e c.code),.int .i64 (fz i e c.amount)]
def A0i(H:List Blk)(k:Option Nat)(f:Nat→List AV):List Blk:=match k with
 |none=>H
 |some k=>(match H[k]? with|some (.row sz len _ T)=>H.set k (.row sz len f T)|_=>H)
def Aoq(g:Bool)(m:Int)(r:Request)(cs:List AV)(H:List Blk):LoopSpec:={
 α:=Nat
 keep:=[0,31,32]
 vals i:=[.ptr (Abl cs) 0,.int .i64 r.coupons.length,.int .i64 i]
 heap i:=A0i (setCell H (Abl cs) 2 (.bool (lcB g m r.coupons i))) (Amm H cs 7) (fun e=>nI i e (r.coupons.getD e default))++[.dead]
 ok i:=i≤r.coupons.length
 μ i:=r.coupons.length - i }
def Aor(g:Bool)(r:Request)(cs:List AV)(H:List Blk):LoopSpec:={
 α:=Nat
 keep:=[0,2,30,31]
 vals i:=[.ptr (Abl cs) 0,.int .i64 (Iy r.taxes i),.int .i64 r.taxes.length,.int .i64 i]
 heap i:=A0i (setCell H (Abl cs) 2 (.bool (ltB g r.taxes i))) (Amm H cs 8) (fun e=>nJ i e (r.taxes.getD e default))++[.dead]
 ok i:=i≤r.taxes.length
 μ i:=r.taxes.length - i }
@[irreducible] def gP5(r:Request):Bool:=Dp (Dp (Dp true 1 r.key.length 16&&Gp r.key) 0 r.day 1000000&&eqI (checkN r.ticket) 0) 0 r.amount 1000000000000
@[irreducible] def gP1(r:Request):Bool:=Dp (Dp true 1 r.key.length 16&&Gp r.key) 0 r.day 1000000&&G3 r.locator
theorem Att{i e:Nat}(h:e≠i)(v:Int):fz i e v=fz (i+1) e v:=by unfold fz;split<;>split<;>first|rfl|omega
theorem cV{i e:Nat}(h:e≠i)(c:Coupon):nI i e c=nI (i+1) e c:=by simp only[nI,Att h]
theorem cW(i:Nat)(c:Coupon):nI (i+1) i c=[.int .i64 0,.int .i64 0,.int .i64 0,.int .i64 c.status,.int .i64 c.holder,.int .u64 c.next]:=by simp only[nI,Ats (Nat.lt_succ_self i)]
theorem O3{i e:Nat}(h:e≠i)(c:Tax):nJ i e c=nJ (i+1) e c:=by simp only[nJ,Att h]
theorem O4(i:Nat)(c:Tax):nJ (i+1) i c=[.int .i64 0,.int .i64 0]:=by simp only[nJ,Ats (Nat.lt_succ_self i)]
theorem X8(g:Bool)(m:Int)(l:List Coupon):lcB g m l 0=Dp g 1 l.length m:=by unfold lcB;simp
theorem X9(g:Bool)(l:List Tax):ltB g l 0=Dp g 0 l.length 4:=by unfold ltB;simp[Cz]
theorem O5(l:List Tax):Iy l 0=1:=by unfold Iy;rfl
theorem Qm(g:Bool)(m:Int)(l:List Coupon):lcB g m l l.length=(g&&Fh m l):=by
 unfold lcB Fh
 rw[List.take_length,Bool.eq_iff_iff]
 simp only[Bool.and_eq_true,B0,decide_eq_true_eq]
 constructor
 ·rintro⟨⟨h1,h2,h3⟩,h4⟩;exact⟨h1,⟨h4,by omega⟩,h3⟩
 ·rintro⟨h1,⟨h4,h2⟩,h3⟩;exact⟨⟨h1,by omega,h3⟩,h4⟩
theorem Ya(g:Bool)(l:List Tax):ltB g l l.length=(g&&Dg l):=by
 unfold ltB Dg
 rw[List.take_length,Bool.eq_iff_iff]
 simp only[Bool.and_eq_true,B0,decide_eq_true_eq]
 constructor
 ·rintro⟨⟨h1,h2,h3⟩,h4⟩;exact⟨h1,h4,by omega⟩
 ·rintro⟨h1,h4,h2⟩;exact⟨⟨h1,by omega,by omega⟩,h4⟩
theorem Rj{c:Coupon}:Gk c 0=true↔(1≤c.flight∧c.flight≤9999)∧(0≤c.day∧c.day≤1000000)∧(0≤c.value∧c.value≤1000000000000)∧c.status=0∧c.holder=0∧c.next=0:=by
 unfold Gk F7 Di
 simp only[Bool.and_eq_true,decide_eq_true_eq,and_assoc]
theorem Yb{g:Bool}{m:Int}{l:List Coupon}{i:Nat}(h:i<l.length):lcB g m l (i+1)=(lcB g m l i&&Gk (l.getD i default) 0):=by
 unfold lcB
 rw[List.take_add_one,List.all_append,List.getElem?_eq_getElem h,List.getD_eq_getElem?_getD,List.getElem?_eq_getElem h,Bool.and_assoc]
 simp
def gM:Int→List Tax→Int
 |n,[]=>n
 |_,y::l=>gM (y.code+1) l
theorem gO:∀ (l:List Tax) (n:Int) (x:Tax),gM n (l++[x])=x.code+1
 |[],_,_=>rfl
 |y::l,n,x=>by rw[List.cons_append,gM,gO l]
theorem N0:∀ (l:List Tax) (n:Int) (x:Tax),Cz n (l++[x])=(Cz n l&&(decide (gM n l≤x.code)&&decide (x.code≤99)&&Di x.amount))
 |[],n,x=>by simp only[List.nil_append,Cz,gM,Bool.and_true,Bool.true_and]<;>rfl
 |y::l,n,x=>by rw[List.cons_append,Cz,N0 l,Cz];simp only[gM,Bool.and_assoc]<;>rfl
theorem pV{l:List Tax}{i:Nat}(h:i<l.length):l.take (i+1)=l.take i++[l.getD i default]:=by
 rw[List.take_add_one,List.getElem?_eq_getElem h,List.getD_eq_getElem?_getD,List.getElem?_eq_getElem h];rfl
theorem Aca{l:List Tax}:∀ {i:Nat},i≤l.length→Cz 1 (l.take i)=true→gM 1 (l.take i)=Iy l i
 |0,_,_=>by unfold Iy;rfl
 |i+1,h,ht=>by
  rw[pV (by omega)] at ht ⊢
  rw[N0] at ht
  simp only[Bool.and_eq_true,decide_eq_true_eq] at ht
  rw[gO]
  unfold Iy
  rw[if_neg (by omega),Nat.add_sub_cancel,if_pos ht.2.1.2]
theorem Lj{g:Bool}{l:List Tax}{i:Nat}(h:i<l.length):ltB g l (i+1)=(ltB g l i&&(decide (Iy l i≤(l.getD i default).code)&&decide ((l.getD i default).code≤99)&&Di (l.getD i default).amount)):=by
 unfold ltB
 rw[pV h,N0,Bool.and_assoc]
 cases ht:Cz 1 (l.take i) with
 |false=>simp
 |true=>rw[Aca (by omega) ht];simp[Bool.and_assoc]
theorem cX{r:Request}:gP1 r=true↔Gp r.key=true∧(0≤r.day∧r.day≤1000000)∧G3 r.locator=true:=by
 unfold gP1
 simp only[Bool.and_eq_true,B0,true_and]
 constructor
 ·rintro⟨⟨⟨_,h1⟩,h2⟩,h3⟩;exact⟨h1,h2,h3⟩
 ·rintro⟨h1,h2,h3⟩;have:=Im h1;exact⟨⟨⟨⟨by omega,by omega⟩,h1⟩,h2⟩,h3⟩
theorem cY{r:Request}:gP5 r=true↔Gp r.key=true∧(0≤r.day∧r.day≤1000000)∧checkN r.ticket=0∧(0≤r.amount∧r.amount≤1000000000000):=by
 unfold gP5
 simp only[Bool.and_eq_true,B0,true_and,Bt,beq_iff_eq]
 constructor
 ·rintro⟨⟨⟨⟨_,h1⟩,h2⟩,h3⟩,h4⟩;exact⟨h1,h2,h3,h4⟩
 ·rintro⟨h1,h2,h3,h4⟩;have:=Im h1;exact⟨⟨⟨⟨⟨by omega,by omega⟩,h1⟩,h2⟩,h3⟩,h4⟩
theorem Un{m:Int}: ¬Fh m []=true:=fun h=>by have:=(Em h).1;simp at this
theorem Rk:Dg []=true:=by unfold Dg;rfl
theorem Yc{l:List Tax}(h:A0 [slE 2 Tax.enc l]){k:Nat}(hk:k<l.length): -9223372036854775808≤(l.getD k default).code:=by
 simp only[A0,Bg,and_true] at h
 have:=(h.2 k hk).2.1
 exact(Ak.1 this).1
noncomputable section
set_option maxRecDepth 100000
attribute [local irreducible] inK Utf8.decode Utf8.encode Lib.itoa Pl.worth Pl.allDig
attribute [local irreducible] Lib.join
def Aos:PC:=PC.of (fun r:Request=>[.agg r.enc]) (fun r=>(r.kind=1)∧¬r.coupons.length=0∧¬r.taxes.length=0∧Fy r) (fun r=>.bool (sB (Af r)))
def Aj:PT:=C8 [(73,fO),(127,Ue),(142,Mj),(195,P0),(211,gJ),(212,gK),(275,S5)]
theorem Cd{W:World}(hW:Tabs W):Ct (Fw W) Tryz.prog Aj:=(Ab Tryz.call73 (J0 hW) (Ab Tryz.call127 (Mz hW) (Ab Tryz.call142 (Nw hW) (Ab Tryz.call195 (P1 hW) (Ab Tryz.call211 (Ek hW) (Ab Tryz.call212 (Fz hW) (Ab Tryz.call275 (Qa hW) Av)))))))
def Ahg:FuncId→Option Ctr:=Az Aj []
theorem Ahh{W:World}(hW:Tabs W):Ad (Fw W) Tryz.prog Ahg:=(Aw (Cd hW))
def Acb:List (FuncId × Ctr):=(298,Uw TY Ahg Aj (fun _=>false) (fun _ _ _=>none) Tryz.f298)::[]
def Acc:FuncId→Option Ctr:=Az Aj Acb
theorem Acd{W:World}(hW:Tabs W):Ad (Fw W) Tryz.prog Acc:=Ae Tryz.call298 (Uc rfl Ao (Cd hW) (Ahh hW) Tryz.func298 (fun _ _ _=>none)) (Ahh hW)
def Ace:List (FuncId × Ctr):=(273,Uw TY Acc Aj (fun _=>false) (fun _ _ _=>none) Tryz.f273)::Acb
def Acf:FuncId→Option Ctr:=Az Aj Ace
theorem Acg{W:World}(hW:Tabs W):Ad (Fw W) Tryz.prog Acf:=Ae Tryz.call273 (Uc rfl Ao (Cd hW) (Acd hW) Tryz.func273 (fun _ _ _=>none)) (Acd hW)
def Ach:List (FuncId × Ctr):=(260,inl TY Acf Aj (fun _=>false) (fun _ _ _=>none) Tryz.f260)::Ace
def Aci:FuncId→Option Ctr:=Az Aj Ach
theorem Acj{W:World}(hW:Tabs W):Ad (Fw W) Tryz.prog Aci:=Ae Tryz.call260 (Ag rfl Ao (Cd hW) (Acg hW) Tryz.func260 (fun _ _ _=>none)) (Acg hW)
def Ack:List (FuncId × Ctr):=(276,inl TY Aci Aj (fun _=>false) (fun _ _ _=>none) Tryz.f276)::Ach
def Acl:FuncId→Option Ctr:=Az Aj Ack
theorem Acm{W:World}(hW:Tabs W):Ad (Fw W) Tryz.prog Acl:=Ae Tryz.call276 (Ag rfl Ao (Cd hW) (Acj hW) Tryz.func276 (fun _ _ _=>none)) (Acj hW)
def Acn:List (FuncId × Ctr):=(279,inl TY Acl Aj (fun _=>false) (fun _ _ _=>none) Tryz.f279)::Ack
def Aco:FuncId→Option Ctr:=Az Aj Acn
theorem Acp{W:World}(hW:Tabs W):Ad (Fw W) Tryz.prog Aco:=Ae Tryz.call279 (Ag rfl Ao (Cd hW) (Acm hW) Tryz.func279 (fun _ _ _=>none)) (Acm hW)
def Acr:List (FuncId × Ctr):=(254,inl TY Aco Aj (fun _=>false) (fun _ _ _=>none) Tryz.f254)::Acn
def Acs:FuncId→Option Ctr:=Az Aj Acr
theorem Acu{W:World}(hW:Tabs W):Ad (Fw W) Tryz.prog Acs:=Ae Tryz.call254 (Ag rfl Ao (Cd hW) (Acp hW) Tryz.func254 (fun _ _ _=>none)) (Acp hW)
def Acv:List (FuncId × Ctr):=(274,inl TY Acs Aj (fun _=>false) (fun _ _ _=>none) Tryz.f274)::Acr
def Acw:FuncId→Option Ctr:=Az Aj Acv
theorem Acx{W:World}(hW:Tabs W):Ad (Fw W) Tryz.prog Acw:=Ae Tryz.call274 (Ag rfl Ao (Cd hW) (Acu hW) Tryz.func274 (fun _ _ _=>none)) (Acu hW)
def Acy:List (FuncId × Ctr):=(258,inl TY Acw Aj (fun _=>false) (fun _ _ _=>none) Tryz.f258)::Acv
def Acz:FuncId→Option Ctr:=Az Aj Acy
theorem Ac0{W:World}(hW:Tabs W):Ad (Fw W) Tryz.prog Acz:=Ae Tryz.call258 (Ag rfl Ao (Cd hW) (Acx hW) Tryz.func258 (fun _ _ _=>none)) (Acx hW)
def Ac1:List (FuncId × Ctr):=(278,inl TY Acz Aj (fun _=>false) (fun _ _ _=>none) Tryz.f278)::Acy
def Ac2:FuncId→Option Ctr:=Az Aj Ac1
theorem Ac3{W:World}(hW:Tabs W):Ad (Fw W) Tryz.prog Ac2:=Ae Tryz.call278 (Ag rfl Ao (Cd hW) (Ac0 hW) Tryz.func278 (fun _ _ _=>none)) (Ac0 hW)
def pW:List (FuncId × Ctr):=(305,inl TY Ac2 Aj (fun _=>false) (fun _ _ _=>none) Tryz.f305)::Ac1
def pX:FuncId→Option Ctr:=Az Aj pW
theorem pY{W:World}(hW:Tabs W):Ad (Fw W) Tryz.prog pX:=Ae Tryz.call305 (Ag rfl Ao (Cd hW) (Ac3 hW) Tryz.func305 (fun _ _ _=>none)) (Ac3 hW)
def pZ:List (FuncId × Ctr):=(225,inl TY pX Aj (fun _=>false) (fun _ _ _=>none) Tryz.f225)::pW
def qA:FuncId→Option Ctr:=Az Aj pZ
theorem qB{W:World}(hW:Tabs W):Ad (Fw W) Tryz.prog qA:=Ae Tryz.call225 (Ag rfl Ao (Cd hW) (pY hW) Tryz.func225 (fun _ _ _=>none)) (pY hW)
def qC:List (FuncId × Ctr):=(226,inl TY qA Aj (fun _=>false) (fun _ _ _=>none) Tryz.f226)::pZ
def qD:FuncId→Option Ctr:=Az Aj qC
theorem qE{W:World}(hW:Tabs W):Ad (Fw W) Tryz.prog qD:=Ae Tryz.call226 (Ag rfl Ao (Cd hW) (qB hW) Tryz.func226 (fun _ _ _=>none)) (qB hW)
def qF:List (FuncId × Ctr):=(230,inl TY qD Aj (fun _=>false) (fun _ _ _=>none) Tryz.f230)::qC
def qG:FuncId→Option Ctr:=Az Aj qF
theorem qH{W:World}(hW:Tabs W):Ad (Fw W) Tryz.prog qG:=Ae Tryz.call230 (Ag rfl Ao (Cd hW) (qE hW) Tryz.func230 (fun _ _ _=>none)) (qE hW)
def qI:List (FuncId × Ctr):=(233,inl TY qG Aj (fun _=>false) (fun _ _ _=>none) Tryz.f233)::qF
def qJ:FuncId→Option Ctr:=Az Aj qI
theorem qK{W:World}(hW:Tabs W):Ad (Fw W) Tryz.prog qJ:=Ae Tryz.call233 (Ag rfl Ao (Cd hW) (qH hW) Tryz.func233 (fun _ _ _=>none)) (qH hW)
def Uo:List (FuncId × Ctr):=(227,inl TY qJ Aj (fun _=>false) (fun _ _ _=>none) Tryz.f227)::qI
def Up:FuncId→Option Ctr:=Az Aj Uo
theorem Mp{W:World}(hW:Tabs W):Ad (Fw W) Tryz.prog Up:=Ae Tryz.call227 (Ag rfl Ao (Cd hW) (qK hW) Tryz.func227 (fun _ _ _=>none)) (qK hW)
def Zu:List (FuncId × Ctr):=(211,inl TY Up Aj (fun _=>false) (fun _ _ _=>none) Tryz.f211)::Uo
def Zv:FuncId→Option Ctr:=Az Aj Zu
theorem Uq{W:World}(hW:Tabs W):Ad (Fw W) Tryz.prog Zv:=Ae Tryz.call211 (Ag rfl Ao (Cd hW) (Mp hW) Tryz.func211 (fun _ _ _=>none)) (Mp hW)
def qL:List (FuncId × Ctr):=(212,inl TY Zv Aj (fun _=>false) (fun _ _ _=>none) Tryz.f212)::Zu
def qM:FuncId→Option Ctr:=Az Aj qL
theorem qN{W:World}(hW:Tabs W):Ad (Fw W) Tryz.prog qM:=Ae Tryz.call212 (Ag rfl Ao (Cd hW) (Uq hW) Tryz.func212 (fun _ _ _=>none)) (Uq hW)
def gP:List AV→List Blk→Nat→Option LR:=fun cs H i=>cond (Nat.beq i 1) (some (.order [0,1,3,4,2,6,5,7,8,9])) (none)
def Zw:List (FuncId × Ctr):=(140,inl TY qM Aj (fun _=>false) (gP) Tryz.f140)::qL
def Qn:FuncId→Option Ctr:=Az Aj Zw
theorem qO{W:World}(hW:Tabs W):Ad (Fw W) Tryz.prog Qn:=Ae Tryz.call140 (Ag rfl Ao (Cd hW) (qN hW) Tryz.func140 (gP)) (qN hW)
def gQ(r:Request):List AV→List Blk→Nat→Option LR:=fun cs H i=>cond (Nat.beq i 0) (some (.order [0,1,2,3,4,5,6,7,8,9,10,11,12,13,14,15,16,17,18])) (cond (Nat.beq i 6) (some (.order [0,1,2,3,4,5,6,7,8,9,10,11,12,13,14,15])) ((fun cs H i=>cond (Nat.beq i 2) (some (.inv (Aoq (gP1 r) 12 r cs H))) none) cs H i))
def qP(r:Request):List (FuncId × Ctr):=(277,inl TY (Qn) Aj (fun _=>false) (gQ r) Tryz.f277)::Zw
def qQ(r:Request):FuncId→Option Ctr:=Az Aj (qP r)
def gR(r:Request):List AV→List Blk→Nat→Option LR:=fun cs H i=>cond (Nat.beq i 0) (some (.order [0,1,2,3,4,5,6,7,8,9,10,11,12,13,14,15,16,17])) ((fun cs H i=>cond (Nat.beq i 3) (some (.inv (Aor (lcB (gP1 r) 12 r.coupons r.coupons.length) r cs H))) none) cs H i)
def qR(r:Request):List (FuncId × Ctr):=(229,inl TY (qQ r) Aj (fun _=>false) (gR r) Tryz.f229)::qP r
def qS(r:Request):FuncId→Option Ctr:=Az Aj (qR r)
def qT(r:Request):List (FuncId × Ctr):=(228,inl TY (qS r) Aj (fun _=>false) (fun _ _ _=>none) Tryz.f228)::qR r
def qU(r:Request):FuncId→Option Ctr:=Az Aj (qT r)
def qV(r:Request):List (FuncId × Ctr):=(234,inl TY (qU r) Aj (fun _=>false) (fun _ _ _=>none) Tryz.f234)::qT r
def qW(r:Request):FuncId→Option Ctr:=Az Aj (qV r)
def qX(r:Request):List (FuncId × Ctr):=(164,inl TY (qW r) Aj (fun _=>false) (fun _ _ _=>none) Tryz.f164)::qV r
def qY(r:Request):FuncId→Option Ctr:=Az Aj (qX r)
def gV(r:Request):List AV→List Blk→Nat→Option LR:=fun _ _ i=>cond (Nat.beq i 2) (some (.unroll 7)) none
def Aja(r:Request):List (FuncId × Ctr):=(141,inl TY (qY r) Aj (fun _=>false) (gV r) Tryz.f141)::qX r
def qZ(r:Request):FuncId→Option Ctr:=Az Aj (Aja r)
set_option maxHeartbeats 4000000 in
theorem Aot{W:World}(hW:Tabs W):GoodP (Fw W) Tryz.prog 71 Aos:=by
 have hD:=Cd hW
 have hC18:∀ r:Request,Ad (Fw W) Tryz.prog Qn:=fun r=>(qO hW)
 have hC19:∀ r:Request,Ad (Fw W) Tryz.prog (qQ r):=fun r=>Ae Tryz.call277 (Ag rfl Ao hD (hC18 r) Tryz.func277 (gQ r)) (hC18 r)
 have hC20:∀ r:Request,Ad (Fw W) Tryz.prog (qS r):=fun r=>Ae Tryz.call229 (Ag rfl Ao hD (hC19 r) Tryz.func229 (gR r)) (hC19 r)
 have hC21:∀ r:Request,Ad (Fw W) Tryz.prog (qU r):=fun r=>Ae Tryz.call228 (Ag rfl Ao hD (hC20 r) Tryz.func228 (fun _ _ _=>none)) (hC20 r)
 have hC22:∀ r:Request,Ad (Fw W) Tryz.prog (qW r):=fun r=>Ae Tryz.call234 (Ag rfl Ao hD (hC21 r) Tryz.func234 (fun _ _ _=>none)) (hC21 r)
 have hC23:∀ r:Request,Ad (Fw W) Tryz.prog (qY r):=fun r=>Ae Tryz.call164 (Ag rfl Ao hD (hC22 r) Tryz.func164 (fun _ _ _=>none)) (hC22 r)
 have hC24:∀ r:Request,Ad (Fw W) Tryz.prog (qZ r):=fun r=>Ae Tryz.call141 (Ag rfl Ao hD (hC23 r) Tryz.func141 (gV r)) (hC23 r)
 refine As (D:=Aj) (C:=fun r=>qZ r) (wr:=(fun _=>false)) rfl Ao hD hC24 Tryz.func71 (fun _ _=>none) (fun _=>rfl) ?_
 rintro⟨key,kind,day,ticket,coupon,status,locator,coupons,taxes,amount,frm,til⟩ hf hp
 have hft:A0 [slE 2 Tax.enc taxes]:=⟨hf.1.2.2.2.2.2.2.2.2.1,True.intro⟩
 clear hf
 obtain⟨hk,hcn,htn,hp1,hp2⟩:=hp
 dsimp only at hk hcn htn hp1 hp2
 rcases hk with rfl
 have hex: ¬Ci 1=[]:=by rw[Ce (by decide)];decide
 have hca: ¬0+coupons.length≤0:=by omega
 have hta: ¬0+taxes.length≤0:=by omega
 (conv=>whnf)
 (repeat' ((first
  |(with_reducible refine Ar ?_)
  |(exact absurd (by with_reducible assumption) hex)
  |(exact absurd (by with_reducible assumption) hcn)
  |(exact absurd (by with_reducible assumption) htn)
  |(exact absurd (by with_reducible assumption) hca)
  |(exact absurd (by with_reducible assumption) hta)
  |((with_reducible apply B8);(focus rfl);(focus rfl))
  |((with_reducible apply B6);(focus rfl);(focus rfl);(focus rfl))
  |((refine⟨rfl,_,?_,rfl⟩);(try simp only[Bh,Cm,Bt,cond_true,cond_false,Bool.true_and,Bool.and_false,Bool.false_and,List.length_nil])<;>first|rfl|exact C9 (by omega)|exact Da (by omega)|exact Db (by omega)|(rename_i hh;(try simp only[List.length_nil] at hh);first|(rw[hh];first|rfl|(simp;done))|(rw[hh.1,hh.2];first|rfl|(simp;done))|(simp[hh];done)|(rcases hh with hh|hh<;>first|(rw[hh];first|rfl|(simp;done))|(simp[hh];done))))
  |with_reducible refine iQ ?_ ?_
  |((with_reducible refine aI ?_ ?_);focus (first|with_reducible exact⟨⟩|exact tO|((with_reducible show okQ _ _=true);rfl)|omega|exact tK|(simp only[Ap,ty2,ty3,ty4,ty5,ty9,Cu,Ck,Cv,Cl,Cq,Cw,Cx,Cy,Bm,Bl,Bn,Bo,Bp,Bq,Br];first|omega|(refine⟨?_,?_⟩<;>omega))))
  |(split<;>rename_i hh<;>(try simp only[wS] at hh))
  |with_reducible refine lnI fun hln=>?_
  |fail)<;>(conv=>whnf)))
 refine⟨?_,fun(i:Nat) (hi:i≤coupons.length)=>?_⟩
 ·(conv=>whnf)
  refine⟨(0:Nat),[],?_,⟨⟨rfl,(nB rfl),rfl⟩,?_,?_⟩⟩
  ·exact Nat.zero_le _
  ·exact tL
  ·(conv=>whnf)
   (repeat' ((first|with_reducible exact⟨⟩|((with_reducible refine Or.inr ?_);rfl)|((with_reducible refine aI ?_ ?_);focus (exact tA))|with_reducible refine iA ?_ ?_|with_reducible refine iL ?_ ?_|with_reducible refine iB ?_ ?_|fail)<;>(conv=>whnf)))
   all_goals (try simp only[wQ])
   all_goals (try first|omega|rfl|exact⟨fun h=>h,fun _ _=>True.intro⟩)
   all_goals (try first|exact fun _ _=>⟨True.intro,rfl⟩)
   ·intro e he
    refine⟨?_,rfl⟩
    show B9 0 _ _ e=_
    unfold B9
    rw[if_neg (by omega),Nat.sub_zero]
    simp only[nI,O2]
   ·rw[X8,Nat.zero_add];unfold gP1;rfl
   ·intro e he
    rcases(by omega:e=0∨e=1∨e=2∨e=3∨e=4) with rfl|rfl|rfl|rfl|rfl<;>exact⟨True.intro,rfl⟩
 ·(conv=>whnf)
  (repeat' ((first
   |(with_reducible refine Ar ?_)
   |((with_reducible apply B8);(focus rfl);(focus rfl))
   |((with_reducible apply B6);(focus rfl);(focus rfl);(focus rfl))
   |((with_reducible apply En);(focus rfl);(focus rfl);(focus rfl))
   |(refine Oq ?_)
   |((refine⟨rfl,_,?_,rfl⟩);(try simp only[Bh,Cm,Bt,cond_true,cond_false,Bool.true_and,Bool.and_false,Bool.false_and,List.length_nil])<;>first|rfl|exact C9 (by omega)|exact Da (by omega)|exact Db (by omega)|(rename_i hh;(try simp only[List.length_nil] at hh);first|(rw[hh];first|rfl|(simp;done))|(rw[hh.1,hh.2];first|rfl|(simp;done))|(simp[hh];done)|(rcases hh with hh|hh<;>first|(rw[hh];first|rfl|(simp;done))|(simp[hh];done))))
   |with_reducible refine iQ ?_ ?_
   |((with_reducible refine aI ?_ ?_);focus (first|((with_reducible show okQ _ _=true);rfl)|omega|exact tK))
   |(split<;>rename_i hh<;>(try simp only[wS] at hh))
   |with_reducible refine lnI fun hln=>?_
   |fail)<;>(conv=>whnf)))
  ·(conv=>whnf)
   refine⟨(i+1:Nat),[],?_,⟨⟨rfl,(nB rfl),rfl⟩,?_,?_⟩⟩
   ·exact⟨show i+1≤coupons.length by omega,show coupons.length - (i+1)<coupons.length - i by omega⟩
   ·exact tL
   ·(conv=>whnf)
    (repeat' ((first|with_reducible exact⟨⟩|((with_reducible refine Or.inr ?_);rfl)|((with_reducible refine aI ?_ ?_);focus (exact tA))|with_reducible refine iA ?_ ?_|with_reducible refine iL ?_ ?_|with_reducible refine iB ?_ ?_|fail)<;>(conv=>whnf)))
    all_goals (try simp only[wQ])
    all_goals (try first|omega|rfl|exact⟨fun h=>h,fun _ _=>True.intro⟩)
    all_goals (try first|exact fun _ _=>⟨True.intro,rfl⟩)
    ·intro e he
     refine⟨?_,rfl⟩
     simp only[D2,decide_true,if_true,decide_eq_true_eq]
     by_cases h1:e=i
     ·subst h1
      simp only[if_pos (show e=0+Int.toNat (e:Int) by omega)]
      rw[cW];simp only[Nat.zero_add,Int.toNat_natCast];rfl
     ·simp only[if_neg (show¬e=0+Int.toNat (i:Int) by omega)]
      rw[cV h1]
    ·rw[Yb (by omega),Bool.eq_iff_iff]
     simp only[Bool.and_eq_true,B0,Rj,beq_iff_eq,Wv,decide_true,if_true,Jc (Nat.le_refl i),Nat.zero_add,Int.toNat_natCast,true_and,and_assoc,cond_true,cond_false]
    ·intro e he
     rcases(by omega:e=0∨e=1∨e=2∨e=3∨e=4) with rfl|rfl|rfl|rfl|rfl<;>exact⟨True.intro,rfl⟩
  ·obtain rfl:i=coupons.length:=by omega
   refine⟨?_,fun(k:Nat) (hk:k≤taxes.length)=>?_⟩
   ·(conv=>whnf)
    refine⟨(0:Nat),[],?_,⟨⟨rfl,(nB rfl),rfl⟩,?_,?_⟩⟩
    ·exact Nat.zero_le _
    ·(conv=>whnf)
     (repeat' ((first|with_reducible exact⟨⟩|((with_reducible refine aI ?_ ?_);focus (exact tA))|with_reducible refine iA ?_ ?_|fail)<;>(conv=>whnf)))
     all_goals (try simp only[wQ])
     all_goals (try first|omega)
     all_goals exact(O5 _).symm
    ·(conv=>whnf)
     (repeat' ((first|with_reducible exact⟨⟩|((with_reducible refine Or.inr ?_);rfl)|((with_reducible refine aI ?_ ?_);focus (exact tA))|with_reducible refine iA ?_ ?_|with_reducible refine iL ?_ ?_|with_reducible refine iB ?_ ?_|fail)<;>(conv=>whnf)))
     all_goals (try simp only[wQ])
     all_goals (try first|omega|rfl|exact⟨fun h=>h,fun _ _=>True.intro⟩)
     all_goals (try first|exact fun _ _=>⟨True.intro,rfl⟩)
     ·intro e he
      refine⟨?_,rfl⟩
      show B9 0 _ _ e=_
      unfold B9
      rw[if_neg (by omega),Nat.sub_zero]
      simp only[nJ,O2]
     ·rw[X9,Nat.zero_add]
     ·intro e he
      rcases(by omega:e=0∨e=1∨e=2∨e=3∨e=4) with rfl|rfl|rfl|rfl|rfl<;>exact⟨True.intro,rfl⟩
   ·have hfin:taxes.length≤k→ltB (lcB (gP1 ⟨key,1,day,ticket,coupon,status,locator,coupons,taxes,amount,frm,til⟩) 12 coupons coupons.length) taxes k=(gP1 ⟨key,1,day,ticket,coupon,status,locator,coupons,taxes,amount,frm,til⟩&&Fh 12 coupons&&Dg taxes):=fun h=>by
     obtain rfl:k=taxes.length:=by omega
     rw[Ya,Qm]
    have hcode:k<taxes.length→ -9223372036854775808≤fz k (0+Int.toNat (k:Int)) (taxes.getD (0+Int.toNat (k:Int)) default).code:=fun h=>by
     rw[Jc (by omega),Nat.zero_add];exact Yc hft h
    have hfz:fz k (0+Int.toNat (k:Int)) (taxes.getD (0+Int.toNat (k:Int)) default).code=(taxes.getD k default).code:=by
     rw[Jc (by omega),Nat.zero_add];rfl
    (conv=>whnf)
    (repeat' ((first
     |(with_reducible refine Ar ?_)
     |(exact absurd (by with_reducible assumption) Bool.false_ne_true)
     |((with_reducible apply B8);(focus rfl);(focus rfl))
     |((with_reducible apply B6);(focus rfl);(focus rfl);(focus rfl))
     |((with_reducible apply En);(focus rfl);(focus rfl);(focus rfl))
     |((refine⟨rfl,_,?_,rfl⟩);(try simp only[Bh,Cm,Bt,cond_true,cond_false,Bool.true_and,Bool.and_false,Bool.false_and,List.length_nil])<;>first|rfl|exact C9 (by omega)|exact Da (by omega)|exact Db (by omega)|(rename_i hh;(try simp only[List.length_nil] at hh);first|(rw[hh];first|rfl|(simp;done))|(rw[hh.1,hh.2];first|rfl|(simp;done))|(simp[hh];done)|(rcases hh with hh|hh<;>first|(rw[hh];first|rfl|(simp;done))|(simp[hh];done))))
     |((with_reducible refine aI ?_ ?_);focus (first|exact tO|exact tK))
     |(split<;>rename_i hh<;>(try simp only[wS] at hh))
     |fail)<;>(conv=>whnf)))
    all_goals (try (show _=_;simp only[wQ]))
    ·(conv=>whnf)
     refine⟨(k+1:Nat),[],?_,⟨⟨rfl,(nB rfl),rfl⟩,?_,?_⟩⟩
     ·exact⟨show k+1≤taxes.length by omega,show taxes.length - (k+1)<taxes.length - k by omega⟩
     ·(conv=>whnf)
      (repeat' ((first|with_reducible exact⟨⟩|((with_reducible refine aI ?_ ?_);focus (exact tA))|with_reducible refine iA ?_ ?_|fail)<;>(conv=>whnf)))
      all_goals (try simp only[wQ])
      all_goals (try first|omega)
      all_goals (unfold Iy;rw[if_neg (by omega),Nat.add_sub_cancel];split<;>omega)
     ·(conv=>whnf)
      (repeat' ((first|with_reducible exact⟨⟩|((with_reducible refine Or.inr ?_);rfl)|((with_reducible refine aI ?_ ?_);focus (exact tA))|with_reducible refine iA ?_ ?_|with_reducible refine iL ?_ ?_|with_reducible refine iB ?_ ?_|fail)<;>(conv=>whnf)))
      all_goals (try simp only[wQ])
      all_goals (try first|omega|rfl|exact⟨fun h=>h,fun _ _=>True.intro⟩)
      all_goals (try first|exact fun _ _=>⟨True.intro,rfl⟩)
      ·intro e he
       refine⟨?_,rfl⟩
       simp only[D2,decide_true,if_true,decide_eq_true_eq]
       by_cases h1:e=k
       ·subst h1
        simp only[if_pos (show e=0+Int.toNat (e:Int) by omega)]
        rw[O4];simp only[Nat.zero_add,Int.toNat_natCast];rfl
       ·simp only[if_neg (show¬e=0+Int.toNat (k:Int) by omega)]
        rw[O3 h1]
      ·rw[Lj (by omega),Bool.eq_iff_iff]
       unfold Di
       simp only[Bool.and_eq_true,B0,decide_eq_true_eq,Wv,decide_true,if_true,Jc (Nat.le_refl k),Nat.zero_add,Int.toNat_natCast,true_and,and_assoc,cond_true,cond_false]
      ·intro e he
       rcases(by omega:e=0∨e=1∨e=2∨e=3∨e=4) with rfl|rfl|rfl|rfl|rfl<;>exact⟨True.intro,rfl⟩
    ·(conv=>whnf)
     refine⟨(k+1:Nat),[],?_,⟨⟨rfl,(nB rfl),rfl⟩,?_,?_⟩⟩
     ·exact⟨show k+1≤taxes.length by omega,show taxes.length - (k+1)<taxes.length - k by omega⟩
     ·(conv=>whnf)
      (repeat' ((first|with_reducible exact⟨⟩|((with_reducible refine aI ?_ ?_);focus (exact tA))|with_reducible refine iA ?_ ?_|fail)<;>(conv=>whnf)))
      all_goals (try simp only[wQ])
      all_goals (try first|omega)
      all_goals (unfold Iy;rw[if_neg (by omega),Nat.add_sub_cancel];split<;>omega)
     ·(conv=>whnf)
      (repeat' ((first|with_reducible exact⟨⟩|((with_reducible refine Or.inr ?_);rfl)|((with_reducible refine aI ?_ ?_);focus (exact tA))|with_reducible refine iA ?_ ?_|with_reducible refine iL ?_ ?_|with_reducible refine iB ?_ ?_|fail)<;>(conv=>whnf)))
      all_goals (try simp only[wQ])
      all_goals (try first|omega|rfl|exact⟨fun h=>h,fun _ _=>True.intro⟩)
      all_goals (try first|exact fun _ _=>⟨True.intro,rfl⟩)
      ·intro e he
       refine⟨?_,rfl⟩
       simp only[D2,decide_true,if_true,decide_eq_true_eq]
       by_cases h1:e=k
       ·subst h1
        simp only[if_pos (show e=0+Int.toNat (e:Int) by omega)]
        rw[O4];simp only[Nat.zero_add,Int.toNat_natCast];rfl
       ·simp only[if_neg (show¬e=0+Int.toNat (k:Int) by omega)]
        rw[O3 h1]
      ·rw[Lj (by omega),Bool.eq_iff_iff]
       unfold Di
       simp only[Bool.and_eq_true,B0,decide_eq_true_eq,Wv,decide_true,if_true,Jc (Nat.le_refl k),Nat.zero_add,Int.toNat_natCast,true_and,and_assoc,cond_true,cond_false]
      ·intro e he
       rcases(by omega:e=0∨e=1∨e=2∨e=3∨e=4) with rfl|rfl|rfl|rfl|rfl<;>exact⟨True.intro,rfl⟩
    ·refine⟨((⟨[],1,0,ticket,coupon,status,[],[],[],amount,frm,til⟩,⟨[],1,0,0,0,0,[],[],[],0,0,0⟩):Request × Request),True.intro,?_,?_⟩
     ·exact tL
     (conv=>whnf)
     all_goals (try (show _=_;simp only[wQ]))
     rw[cond_true,Bool.eq_iff_iff,Ba,Mn]
     rw[hfin (by omega)] at hh
     simp only[Bool.and_eq_true,cX,Request.mk.injEq,true_and,and_true] at hh ⊢
     exact⟨fun h=>by simp_all,fun h=>by simp_all⟩
    ·symm
     refine Bool.eq_false_iff.2 fun hm=>?_
     rw[Mn] at hm
     rw[hfin (by omega)] at hh
     refine absurd hh ?_
     rw[Bool.not_eq_false]
     simp only[Bool.and_eq_true,cX]
     simp_all
def Aou:PC:=PC.of (fun r:Request=>[.agg r.enc]) (fun r=>(r.kind=1)∧¬r.coupons.length=0∧r.taxes=[]∧Fy r) (fun r=>.bool (sB (Af r)))
def gW:List AV→List Blk→Nat→Option LR:=fun cs H i=>cond (Nat.beq i 0) (some (.order [0,1,2,3,4,5,6,7,8,9,10,11,12,13,14,15,16,17])) ((fun cs H i=>cond (Nat.beq i 3) (some (.unroll 1)) none) cs H i)
def rA:List (FuncId × Ctr):=(229,inl TY Zv Aj (fun _=>false) (gW) Tryz.f229)::Zu
def rB:FuncId→Option Ctr:=Az Aj rA
theorem rC{W:World}(hW:Tabs W):Ad (Fw W) Tryz.prog rB:=Ae Tryz.call229 (Ag rfl Ao (Cd hW) (Uq hW) Tryz.func229 (gW)) (Uq hW)
def gY:List AV→List Blk→Nat→Option LR:=fun cs H i=>cond (Nat.beq i 1) (some (.order [0,1,3,4,2,6,5,7,8,9])) (none)
def Zx:List (FuncId × Ctr):=(140,inl TY rB Aj (fun _=>false) (gY) Tryz.f140)::rA
def Qo:FuncId→Option Ctr:=Az Aj Zx
theorem rD{W:World}(hW:Tabs W):Ad (Fw W) Tryz.prog Qo:=Ae Tryz.call140 (Ag rfl Ao (Cd hW) (rC hW) Tryz.func140 (gY)) (rC hW)
def gZ(r:Request):List AV→List Blk→Nat→Option LR:=fun cs H i=>cond (Nat.beq i 0) (some (.order [0,1,2,3,4,5,6,7,8,9,10,11,12,13,14,15,16,17,18])) (cond (Nat.beq i 6) (some (.order [0,1,2,3,4,5,6,7,8,9,10,11,12,13,14,15])) ((fun cs H i=>cond (Nat.beq i 2) (some (.inv (Aoq (gP1 r) 12 r cs H))) none) cs H i))
def rE(r:Request):List (FuncId × Ctr):=(277,inl TY (Qo) Aj (fun _=>false) (gZ r) Tryz.f277)::Zx
def rF(r:Request):FuncId→Option Ctr:=Az Aj (rE r)
def rG(r:Request):List (FuncId × Ctr):=(228,inl TY (rF r) Aj (fun _=>false) (fun _ _ _=>none) Tryz.f228)::rE r
def rH(r:Request):FuncId→Option Ctr:=Az Aj (rG r)
def rI(r:Request):List (FuncId × Ctr):=(234,inl TY (rH r) Aj (fun _=>false) (fun _ _ _=>none) Tryz.f234)::rG r
def rJ(r:Request):FuncId→Option Ctr:=Az Aj (rI r)
def rK(r:Request):List (FuncId × Ctr):=(164,inl TY (rJ r) Aj (fun _=>false) (fun _ _ _=>none) Tryz.f164)::rI r
def rL(r:Request):FuncId→Option Ctr:=Az Aj (rK r)
def hJ(r:Request):List AV→List Blk→Nat→Option LR:=fun _ _ i=>cond (Nat.beq i 2) (some (.unroll 7)) none
def Ajb(r:Request):List (FuncId × Ctr):=(141,inl TY (rL r) Aj (fun _=>false) (hJ r) Tryz.f141)::rK r
def rM(r:Request):FuncId→Option Ctr:=Az Aj (Ajb r)
set_option maxHeartbeats 4000000 in
theorem Aov{W:World}(hW:Tabs W):GoodP (Fw W) Tryz.prog 71 Aou:=by
 have hD:=Cd hW
 have hC18:∀ r:Request,Ad (Fw W) Tryz.prog Qo:=fun r=>(rD hW)
 have hC19:∀ r:Request,Ad (Fw W) Tryz.prog (rF r):=fun r=>Ae Tryz.call277 (Ag rfl Ao hD (hC18 r) Tryz.func277 (gZ r)) (hC18 r)
 have hC20:∀ r:Request,Ad (Fw W) Tryz.prog (rH r):=fun r=>Ae Tryz.call228 (Ag rfl Ao hD (hC19 r) Tryz.func228 (fun _ _ _=>none)) (hC19 r)
 have hC21:∀ r:Request,Ad (Fw W) Tryz.prog (rJ r):=fun r=>Ae Tryz.call234 (Ag rfl Ao hD (hC20 r) Tryz.func234 (fun _ _ _=>none)) (hC20 r)
 have hC22:∀ r:Request,Ad (Fw W) Tryz.prog (rL r):=fun r=>Ae Tryz.call164 (Ag rfl Ao hD (hC21 r) Tryz.func164 (fun _ _ _=>none)) (hC21 r)
 have hC23:∀ r:Request,Ad (Fw W) Tryz.prog (rM r):=fun r=>Ae Tryz.call141 (Ag rfl Ao hD (hC22 r) Tryz.func141 (hJ r)) (hC22 r)
 refine As (D:=Aj) (C:=fun r=>rM r) (wr:=(fun _=>false)) rfl Ao hD hC23 Tryz.func71 (fun _ _=>none) (fun _=>rfl) ?_
 rintro⟨key,kind,day,ticket,coupon,status,locator,coupons,taxes,amount,frm,til⟩ hf hp
 have hft:A0 [slE 2 Tax.enc taxes]:=⟨hf.1.2.2.2.2.2.2.2.2.1,True.intro⟩
 clear hf
 obtain⟨hk,hcn,htn,hp1,hp2⟩:=hp
 dsimp only at hk hcn htn hp1 hp2
 subst htn
 rcases hk with rfl
 have hex: ¬Ci 1=[]:=by rw[Ce (by decide)];decide
 have hca: ¬0+coupons.length≤0:=by omega
 (conv=>whnf)
 (repeat' ((first
  |(with_reducible refine Ar ?_)
  |(exact absurd (by with_reducible assumption) hex)
  |(exact absurd (by with_reducible assumption) hcn)
  |(exact absurd (by with_reducible assumption) hca)
  |with_reducible refine iQ ?_ ?_
  |((with_reducible refine aI ?_ ?_);focus (first|with_reducible exact⟨⟩|((with_reducible show okQ _ _=true);rfl)|(simp only[Ap,ty2,ty3,ty4,ty5,ty9,Cu,Ck,Cv,Cl,Cq,Cw,Cx,Cy,Bm,Bl,Bn,Bo,Bp,Bq,Br];first|omega|(refine⟨?_,?_⟩<;>omega))))
  |(split<;>rename_i hh<;>(try simp only[wS] at hh))
  |fail)<;>(conv=>whnf)))
 refine⟨([]:List Tax),Nat.zero_le _,?_,?_⟩
 ·exact Ac _
 (conv=>whnf)
 (repeat' ((first
  |(with_reducible refine Ar ?_)
  |((with_reducible apply B8);(focus rfl);(focus rfl))
  |((with_reducible apply B6);(focus rfl);(focus rfl);(focus rfl))
  |((refine⟨rfl,_,?_,rfl⟩);(try simp only[Bh,Cm,Bt,cond_true,cond_false,Bool.true_and,Bool.and_false,Bool.false_and,List.length_nil])<;>first|rfl|exact C9 (by omega)|exact Da (by omega)|exact Db (by omega)|(rename_i hh;(try simp only[List.length_nil] at hh);first|(rw[hh];first|rfl|(simp;done))|(rw[hh.1,hh.2];first|rfl|(simp;done))|(simp[hh];done)|(rcases hh with hh|hh<;>first|(rw[hh];first|rfl|(simp;done))|(simp[hh];done))))
  |with_reducible refine iQ ?_ ?_
  |((with_reducible refine aI ?_ ?_);focus (first|with_reducible exact⟨⟩|exact tO|((with_reducible show okQ _ _=true);rfl)|omega|exact tK))
  |(split<;>rename_i hh<;>(try simp only[wS] at hh))
  |with_reducible refine lnI fun hln=>?_
  |fail)<;>(conv=>whnf)))
 refine⟨?_,fun(i:Nat) (hi:i≤coupons.length)=>?_⟩
 ·(conv=>whnf)
  refine⟨(0:Nat),[],?_,⟨⟨rfl,(nB rfl),rfl⟩,?_,?_⟩⟩
  ·exact Nat.zero_le _
  ·exact tL
  ·(conv=>whnf)
   (repeat' ((first|with_reducible exact⟨⟩|((with_reducible refine Or.inr ?_);rfl)|((with_reducible refine aI ?_ ?_);focus (exact tA))|with_reducible refine iA ?_ ?_|with_reducible refine iL ?_ ?_|with_reducible refine iB ?_ ?_|fail)<;>(conv=>whnf)))
   all_goals (try simp only[wQ])
   all_goals (try first|omega|rfl|exact⟨fun h=>h,fun _ _=>True.intro⟩)
   ·intro e he
    refine⟨?_,rfl⟩
    show B9 0 _ _ e=_
    unfold B9
    rw[if_neg (by omega),Nat.sub_zero]
    simp only[nI,O2]
   ·rw[X8,Nat.zero_add];unfold gP1;rfl
   ·intro e he
    rcases(by omega:e=0∨e=1∨e=2∨e=3∨e=4) with rfl|rfl|rfl|rfl|rfl<;>exact⟨True.intro,rfl⟩
 ·(conv=>whnf)
  (repeat' ((first
   |(with_reducible refine Ar ?_)
   |((with_reducible apply B8);(focus rfl);(focus rfl))
   |((with_reducible apply B6);(focus rfl);(focus rfl);(focus rfl))
   |((with_reducible apply En);(focus rfl);(focus rfl);(focus rfl))
   |(refine Oq ?_)
   |((refine⟨rfl,_,?_,rfl⟩);(try simp only[Bh,Cm,Bt,cond_true,cond_false,Bool.true_and,Bool.and_false,Bool.false_and,List.length_nil])<;>first|rfl|exact C9 (by omega)|exact Da (by omega)|exact Db (by omega)|(rename_i hh;(try simp only[List.length_nil] at hh);first|(rw[hh];first|rfl|(simp;done))|(rw[hh.1,hh.2];first|rfl|(simp;done))|(simp[hh];done)|(rcases hh with hh|hh<;>first|(rw[hh];first|rfl|(simp;done))|(simp[hh];done))))
   |with_reducible refine iQ ?_ ?_
   |((with_reducible refine aI ?_ ?_);focus (first|((with_reducible show okQ _ _=true);rfl)|omega|exact tK))
   |(split<;>rename_i hh<;>(try simp only[wS] at hh))
   |with_reducible refine lnI fun hln=>?_
   |fail)<;>(conv=>whnf)))
  all_goals (try (show _=_;simp only[wQ]))
  ·(conv=>whnf)
   refine⟨(i+1:Nat),[],?_,⟨⟨rfl,(nB rfl),rfl⟩,?_,?_⟩⟩
   ·exact⟨show i+1≤coupons.length by omega,show coupons.length - (i+1)<coupons.length - i by omega⟩
   ·exact tL
   ·(conv=>whnf)
    (repeat' ((first|with_reducible exact⟨⟩|((with_reducible refine Or.inr ?_);rfl)|((with_reducible refine aI ?_ ?_);focus (exact tA))|with_reducible refine iA ?_ ?_|with_reducible refine iL ?_ ?_|with_reducible refine iB ?_ ?_|fail)<;>(conv=>whnf)))
    all_goals (try simp only[wQ])
    all_goals (try first|omega|rfl|exact⟨fun h=>h,fun _ _=>True.intro⟩)
    ·intro e he
     refine⟨?_,rfl⟩
     simp only[D2,decide_true,if_true,decide_eq_true_eq]
     by_cases h1:e=i
     ·subst h1
      simp only[if_pos (show e=0+Int.toNat (e:Int) by omega)]
      rw[cW];simp only[Nat.zero_add,Int.toNat_natCast];rfl
     ·simp only[if_neg (show¬e=0+Int.toNat (i:Int) by omega)]
      rw[cV h1]
    ·rw[Yb (by omega),Bool.eq_iff_iff]
     simp only[Bool.and_eq_true,B0,Rj,beq_iff_eq,Wv,decide_true,if_true,Jc (Nat.le_refl i),Nat.zero_add,Int.toNat_natCast,true_and,and_assoc,cond_true,cond_false]
    ·intro e he
     rcases(by omega:e=0∨e=1∨e=2∨e=3∨e=4) with rfl|rfl|rfl|rfl|rfl<;>exact⟨True.intro,rfl⟩
  ·obtain rfl:i=coupons.length:=by omega
   have hfin:Dp (lcB (gP1 ⟨key,1,day,ticket,coupon,status,locator,coupons,[],amount,frm,til⟩) 12 coupons coupons.length) 0 ([]:List Tax).length 4=(gP1 ⟨key,1,day,ticket,coupon,status,locator,coupons,[],amount,frm,til⟩&&Fh 12 coupons&&Dg []):=by
    rw[Qm,Rk,Bool.and_true,Bool.eq_iff_iff];simp[B0]
   refine⟨((⟨[],1,0,ticket,coupon,status,[],[],[],amount,frm,til⟩,⟨[],1,0,0,0,0,[],[],[],0,0,0⟩):Request × Request),True.intro,?_,?_⟩
   ·exact tL
   (conv=>whnf)
   all_goals (try (show _=_;simp only[wQ]))
   rw[cond_true,Bool.eq_iff_iff,Ba,Mn]
   rw[hfin] at hh
   simp only[Bool.and_eq_true,cX,Request.mk.injEq,true_and,and_true] at hh ⊢
   exact⟨fun h=>by simp_all,fun h=>by simp_all⟩
  ·obtain rfl:i=coupons.length:=by omega
   have hfin:Dp (lcB (gP1 ⟨key,1,day,ticket,coupon,status,locator,coupons,[],amount,frm,til⟩) 12 coupons coupons.length) 0 ([]:List Tax).length 4=(gP1 ⟨key,1,day,ticket,coupon,status,locator,coupons,[],amount,frm,til⟩&&Fh 12 coupons&&Dg []):=by
    rw[Qm,Rk,Bool.and_true,Bool.eq_iff_iff];simp[B0]
   symm
   refine Bool.eq_false_iff.2 fun hm=>?_
   rw[Mn] at hm
   rw[hfin] at hh
   refine absurd hh ?_
   rw[Bool.not_eq_false]
   simp only[Bool.and_eq_true,cX]
   simp_all
def Aow:PC:=PC.of (fun r:Request=>[.agg r.enc]) (fun r=>(r.kind=1)∧r.coupons=[]∧¬r.taxes.length=0∧Fy r) (fun r=>.bool (sB (Af r)))
def rN:List (FuncId × Ctr):=(212,inl TY Up Aj (fun _=>false) (fun _ _ _=>none) Tryz.f212)::Uo
def rO:FuncId→Option Ctr:=Az Aj rN
theorem rP{W:World}(hW:Tabs W):Ad (Fw W) Tryz.prog rO:=Ae Tryz.call212 (Ag rfl Ao (Cd hW) (Mp hW) Tryz.func212 (fun _ _ _=>none)) (Mp hW)
def hO:List AV→List Blk→Nat→Option LR:=fun cs H i=>cond (Nat.beq i 0) (some (.order [0,1,2,3,4,5,6,7,8,9,10,11,12,13,14,15,16,17,18])) (cond (Nat.beq i 6) (some (.order [0,1,2,3,4,5,6,7,8,9,10,11,12,13,14,15])) ((fun cs H i=>cond (Nat.beq i 2) (some (.unroll 1)) none) cs H i))
def rQ:List (FuncId × Ctr):=(277,inl TY rO Aj (fun _=>false) (hO) Tryz.f277)::rN
def rR:FuncId→Option Ctr:=Az Aj rQ
theorem rS{W:World}(hW:Tabs W):Ad (Fw W) Tryz.prog rR:=Ae Tryz.call277 (Ag rfl Ao (Cd hW) (rP hW) Tryz.func277 (hO)) (rP hW)
def rT:List (FuncId × Ctr):=(228,inl TY rR Aj (fun _=>false) (fun _ _ _=>none) Tryz.f228)::rQ
def rU:FuncId→Option Ctr:=Az Aj rT
theorem rV{W:World}(hW:Tabs W):Ad (Fw W) Tryz.prog rU:=Ae Tryz.call228 (Ag rfl Ao (Cd hW) (rS hW) Tryz.func228 (fun _ _ _=>none)) (rS hW)
def rW:List (FuncId × Ctr):=(234,inl TY rU Aj (fun _=>false) (fun _ _ _=>none) Tryz.f234)::rT
def rX:FuncId→Option Ctr:=Az Aj rW
theorem rY{W:World}(hW:Tabs W):Ad (Fw W) Tryz.prog rX:=Ae Tryz.call234 (Ag rfl Ao (Cd hW) (rV hW) Tryz.func234 (fun _ _ _=>none)) (rV hW)
def hP:List AV→List Blk→Nat→Option LR:=fun cs H i=>cond (Nat.beq i 1) (some (.order [0,1,3,4,2,6,5,7,8,9])) (none)
def Zy:List (FuncId × Ctr):=(140,inl TY rX Aj (fun _=>false) (hP) Tryz.f140)::rW
def Qp:FuncId→Option Ctr:=Az Aj Zy
theorem rZ{W:World}(hW:Tabs W):Ad (Fw W) Tryz.prog Qp:=Ae Tryz.call140 (Ag rfl Ao (Cd hW) (rY hW) Tryz.func140 (hP)) (rY hW)
def hY(r:Request):List AV→List Blk→Nat→Option LR:=fun cs H i=>cond (Nat.beq i 0) (some (.order [0,1,2,3,4,5,6,7,8,9,10,11,12,13,14,15,16,17])) ((fun cs H i=>cond (Nat.beq i 3) (some (.inv (Aor (Dp (gP1 r) 1 0 12) r cs H))) none) cs H i)
def sA(r:Request):List (FuncId × Ctr):=(229,inl TY (Qp) Aj (fun _=>false) (hY r) Tryz.f229)::Zy
def sC(r:Request):FuncId→Option Ctr:=Az Aj (sA r)
def sD(r:Request):List (FuncId × Ctr):=(164,inl TY (sC r) Aj (fun _=>false) (fun _ _ _=>none) Tryz.f164)::sA r
def sE(r:Request):FuncId→Option Ctr:=Az Aj (sD r)
def hZ(r:Request):List AV→List Blk→Nat→Option LR:=fun _ _ i=>cond (Nat.beq i 2) (some (.unroll 7)) none
def Ajc(r:Request):List (FuncId × Ctr):=(141,inl TY (sE r) Aj (fun _=>false) (hZ r) Tryz.f141)::sD r
def sF(r:Request):FuncId→Option Ctr:=Az Aj (Ajc r)
set_option maxHeartbeats 4000000 in
theorem Aox{W:World}(hW:Tabs W):GoodP (Fw W) Tryz.prog 71 Aow:=by
 have hD:=Cd hW
 have hC20:∀ r:Request,Ad (Fw W) Tryz.prog Qp:=fun r=>(rZ hW)
 have hC21:∀ r:Request,Ad (Fw W) Tryz.prog (sC r):=fun r=>Ae Tryz.call229 (Ag rfl Ao hD (hC20 r) Tryz.func229 (hY r)) (hC20 r)
 have hC22:∀ r:Request,Ad (Fw W) Tryz.prog (sE r):=fun r=>Ae Tryz.call164 (Ag rfl Ao hD (hC21 r) Tryz.func164 (fun _ _ _=>none)) (hC21 r)
 have hC23:∀ r:Request,Ad (Fw W) Tryz.prog (sF r):=fun r=>Ae Tryz.call141 (Ag rfl Ao hD (hC22 r) Tryz.func141 (hZ r)) (hC22 r)
 refine As (D:=Aj) (C:=fun r=>sF r) (wr:=(fun _=>false)) rfl Ao hD hC23 Tryz.func71 (fun _ _=>none) (fun _=>rfl) ?_
 rintro⟨key,kind,day,ticket,coupon,status,locator,coupons,taxes,amount,frm,til⟩ hf hp
 have hft:A0 [slE 2 Tax.enc taxes]:=⟨hf.1.2.2.2.2.2.2.2.2.1,True.intro⟩
 clear hf
 obtain⟨hk,hcn,htn,hp1,hp2⟩:=hp
 dsimp only at hk hcn htn hp1 hp2
 subst hcn
 rcases hk with rfl
 have hex: ¬Ci 1=[]:=by rw[Ce (by decide)];decide
 have hta: ¬0+taxes.length≤0:=by omega
 (conv=>whnf)
 (repeat' ((first
  |(with_reducible refine Ar ?_)
  |(exact absurd (by with_reducible assumption) hex)
  |((with_reducible refine aI ?_ ?_);focus (first|with_reducible exact⟨⟩|((with_reducible show okQ _ _=true);rfl)))
  |(split<;>rename_i hh<;>(try simp only[wS] at hh))
  |fail)<;>(conv=>whnf)))
 refine⟨([]:List Coupon),Nat.zero_le _,?_,?_⟩
 ·exact Ac _
 (conv=>whnf)
 (repeat' ((first
  |(with_reducible refine Ar ?_)
  |(exact absurd (by with_reducible assumption) htn)
  |(exact absurd (by with_reducible assumption) hta)
  |((with_reducible apply B8);(focus rfl);(focus rfl))
  |((with_reducible apply B6);(focus rfl);(focus rfl);(focus rfl))
  |((refine⟨rfl,_,?_,rfl⟩);(try simp only[Bh,Cm,Bt,cond_true,cond_false,Bool.true_and,Bool.and_false,Bool.false_and,List.length_nil])<;>first|rfl|exact C9 (by omega)|exact Da (by omega)|exact Db (by omega)|(rename_i hh;(try simp only[List.length_nil] at hh);first|(rw[hh];first|rfl|(simp;done))|(rw[hh.1,hh.2];first|rfl|(simp;done))|(simp[hh];done)|(rcases hh with hh|hh<;>first|(rw[hh];first|rfl|(simp;done))|(simp[hh];done))))
  |with_reducible refine iQ ?_ ?_
  |((with_reducible refine aI ?_ ?_);focus (first|with_reducible exact⟨⟩|exact tO|((with_reducible show okQ _ _=true);rfl)|omega|exact tK|(simp only[Ap,ty2,ty3,ty4,ty5,ty9,Cu,Ck,Cv,Cl,Cq,Cw,Cx,Cy,Bm,Bl,Bn,Bo,Bp,Bq,Br];first|omega|(refine⟨?_,?_⟩<;>omega))))
  |(split<;>rename_i hh<;>(try simp only[wS] at hh))
  |with_reducible refine lnI fun hln=>?_
  |fail)<;>(conv=>whnf)))
 refine⟨?_,fun(k:Nat) (hk:k≤taxes.length)=>?_⟩
 ·(conv=>whnf)
  refine⟨(0:Nat),[],?_,⟨⟨rfl,(nB rfl),rfl⟩,?_,?_⟩⟩
  ·exact Nat.zero_le _
  ·(conv=>whnf)
   (repeat' ((first|with_reducible exact⟨⟩|((with_reducible refine aI ?_ ?_);focus (exact tA))|with_reducible refine iA ?_ ?_|fail)<;>(conv=>whnf)))
   all_goals (try simp only[wQ])
   all_goals (try first|omega)
   all_goals exact(O5 _).symm
  ·(conv=>whnf)
   (repeat' ((first|with_reducible exact⟨⟩|((with_reducible refine Or.inr ?_);rfl)|((with_reducible refine aI ?_ ?_);focus (exact tA))|with_reducible refine iA ?_ ?_|with_reducible refine iL ?_ ?_|with_reducible refine iB ?_ ?_|fail)<;>(conv=>whnf)))
   all_goals (try simp only[wQ])
   all_goals (try first|omega|rfl|exact⟨fun h=>h,fun _ _=>True.intro⟩)
   ·intro e he
    refine⟨?_,rfl⟩
    show B9 0 _ _ e=_
    unfold B9
    rw[if_neg (by omega),Nat.sub_zero]
    simp only[nJ,O2]
   ·rw[X9,Nat.zero_add];unfold gP1;rfl
   ·intro e he
    rcases(by omega:e=0∨e=1∨e=2∨e=3∨e=4) with rfl|rfl|rfl|rfl|rfl<;>exact⟨True.intro,rfl⟩
 ·have hfin:taxes.length≤k→ltB (Dp (gP1 ⟨key,1,day,ticket,coupon,status,locator,[],taxes,amount,frm,til⟩) 1 0 12) taxes k=((Dp (gP1 ⟨key,1,day,ticket,coupon,status,locator,[],taxes,amount,frm,til⟩) 1 0 12)&&Dg taxes):=fun h=>by
   obtain rfl:k=taxes.length:=by omega
   rw[Ya]
  have hcode:k<taxes.length→ -9223372036854775808≤fz k (0+Int.toNat (k:Int)) (taxes.getD (0+Int.toNat (k:Int)) default).code:=fun h=>by
   rw[Jc (by omega),Nat.zero_add];exact Yc hft h
  have hfz:fz k (0+Int.toNat (k:Int)) (taxes.getD (0+Int.toNat (k:Int)) default).code=(taxes.getD k default).code:=by
   rw[Jc (by omega),Nat.zero_add];rfl
  (conv=>whnf)
  (repeat' ((first
   |(with_reducible refine Ar ?_)
   |(exact absurd (by with_reducible assumption) Bool.false_ne_true)
   |((with_reducible apply B8);(focus rfl);(focus rfl))
   |((with_reducible apply B6);(focus rfl);(focus rfl);(focus rfl))
   |((with_reducible apply En);(focus rfl);(focus rfl);(focus rfl))
   |((refine⟨rfl,_,?_,rfl⟩);(try simp only[Bh,Cm,Bt,cond_true,cond_false,Bool.true_and,Bool.and_false,Bool.false_and,List.length_nil])<;>first|rfl|exact C9 (by omega)|exact Da (by omega)|exact Db (by omega)|(rename_i hh;(try simp only[List.length_nil] at hh);first|(rw[hh];first|rfl|(simp;done))|(rw[hh.1,hh.2];first|rfl|(simp;done))|(simp[hh];done)|(rcases hh with hh|hh<;>first|(rw[hh];first|rfl|(simp;done))|(simp[hh];done))))
   |((with_reducible refine aI ?_ ?_);focus (first|exact tO|exact tK))
   |(split<;>rename_i hh<;>(try simp only[wS] at hh))
   |fail)<;>(conv=>whnf)))
  all_goals (try (show _=_;simp only[wQ]))
  ·(conv=>whnf)
   refine⟨(k+1:Nat),[],?_,⟨⟨rfl,(nB rfl),rfl⟩,?_,?_⟩⟩
   ·exact⟨show k+1≤taxes.length by omega,show taxes.length - (k+1)<taxes.length - k by omega⟩
   ·(conv=>whnf)
    (repeat' ((first|with_reducible exact⟨⟩|((with_reducible refine aI ?_ ?_);focus (exact tA))|with_reducible refine iA ?_ ?_|fail)<;>(conv=>whnf)))
    all_goals (try simp only[wQ])
    all_goals (try first|omega)
    all_goals (unfold Iy;rw[if_neg (by omega),Nat.add_sub_cancel];split<;>omega)
   ·(conv=>whnf)
    (repeat' ((first|with_reducible exact⟨⟩|((with_reducible refine Or.inr ?_);rfl)|((with_reducible refine aI ?_ ?_);focus (exact tA))|with_reducible refine iA ?_ ?_|with_reducible refine iL ?_ ?_|with_reducible refine iB ?_ ?_|fail)<;>(conv=>whnf)))
    all_goals (try simp only[wQ])
    all_goals (try first|omega|rfl|exact⟨fun h=>h,fun _ _=>True.intro⟩)
    ·intro e he
     refine⟨?_,rfl⟩
     simp only[D2,decide_true,if_true,decide_eq_true_eq]
     by_cases h1:e=k
     ·subst h1
      simp only[if_pos (show e=0+Int.toNat (e:Int) by omega)]
      rw[O4];simp only[Nat.zero_add,Int.toNat_natCast];rfl
     ·simp only[if_neg (show¬e=0+Int.toNat (k:Int) by omega)]
      rw[O3 h1]
    ·rw[Lj (by omega),Bool.eq_iff_iff]
     unfold Di
     simp only[Bool.and_eq_true,B0,decide_eq_true_eq,Wv,decide_true,if_true,Jc (Nat.le_refl k),Nat.zero_add,Int.toNat_natCast,true_and,and_assoc,cond_true,cond_false]
    ·intro e he
     rcases(by omega:e=0∨e=1∨e=2∨e=3∨e=4) with rfl|rfl|rfl|rfl|rfl<;>exact⟨True.intro,rfl⟩
  ·(conv=>whnf)
   refine⟨(k+1:Nat),[],?_,⟨⟨rfl,(nB rfl),rfl⟩,?_,?_⟩⟩
   ·exact⟨show k+1≤taxes.length by omega,show taxes.length - (k+1)<taxes.length - k by omega⟩
   ·(conv=>whnf)
    (repeat' ((first|with_reducible exact⟨⟩|((with_reducible refine aI ?_ ?_);focus (exact tA))|with_reducible refine iA ?_ ?_|fail)<;>(conv=>whnf)))
    all_goals (try simp only[wQ])
    all_goals (try first|omega)
    all_goals (unfold Iy;rw[if_neg (by omega),Nat.add_sub_cancel];split<;>omega)
   ·(conv=>whnf)
    (repeat' ((first|with_reducible exact⟨⟩|((with_reducible refine Or.inr ?_);rfl)|((with_reducible refine aI ?_ ?_);focus (exact tA))|with_reducible refine iA ?_ ?_|with_reducible refine iL ?_ ?_|with_reducible refine iB ?_ ?_|fail)<;>(conv=>whnf)))
    all_goals (try simp only[wQ])
    all_goals (try first|omega|rfl|exact⟨fun h=>h,fun _ _=>True.intro⟩)
    ·intro e he
     refine⟨?_,rfl⟩
     simp only[D2,decide_true,if_true,decide_eq_true_eq]
     by_cases h1:e=k
     ·subst h1
      simp only[if_pos (show e=0+Int.toNat (e:Int) by omega)]
      rw[O4];simp only[Nat.zero_add,Int.toNat_natCast];rfl
     ·simp only[if_neg (show¬e=0+Int.toNat (k:Int) by omega)]
      rw[O3 h1]
    ·rw[Lj (by omega),Bool.eq_iff_iff]
     unfold Di
     simp only[Bool.and_eq_true,B0,decide_eq_true_eq,Wv,decide_true,if_true,Jc (Nat.le_refl k),Nat.zero_add,Int.toNat_natCast,true_and,and_assoc,cond_true,cond_false]
    ·intro e he
     rcases(by omega:e=0∨e=1∨e=2∨e=3∨e=4) with rfl|rfl|rfl|rfl|rfl<;>exact⟨True.intro,rfl⟩
  ·exfalso
   rw[hfin (by omega)] at hh
   simp only[Bool.and_eq_true,B0,List.length_nil] at hh
   omega
  ·symm
   refine Bool.eq_false_iff.2 fun hm=>?_
   rw[Mn] at hm
   exact Un (m:=12) (by simp only[hm])
def Aoy:PC:=PC.of (fun r:Request=>[.agg r.enc]) (fun r=>(r.kind=1)∧r.coupons=[]∧r.taxes=[]∧Fy r) (fun r=>.bool (sB (Af r)))
def sG:List (FuncId × Ctr):=(140,inl TY Up Aj (fun _=>false) (fun _ _ _=>none) Tryz.f140)::Uo
def sH:FuncId→Option Ctr:=Az Aj sG
theorem sJ{W:World}(hW:Tabs W):Ad (Fw W) Tryz.prog sH:=Ae Tryz.call140 (Ag rfl Ao (Cd hW) (Mp hW) Tryz.func140 (fun _ _ _=>none)) (Mp hW)
def iE:List AV→List Blk→Nat→Option LR:=fun cs H i=>cond (Nat.beq i 0) (some (.order [0,1,2,3,4,5,6,7,8,9,10,11,12,13,14,15,16,17,18])) (cond (Nat.beq i 6) (some (.order [0,1,2,3,4,5,6,7,8,9,10,11,12,13,14,15])) ((fun cs H i=>cond (Nat.beq i 2) (some (.unroll 1)) none) cs H i))
def sK:List (FuncId × Ctr):=(277,inl TY sH Aj (fun _=>false) (iE) Tryz.f277)::sG
def sM:FuncId→Option Ctr:=Az Aj sK
theorem sO{W:World}(hW:Tabs W):Ad (Fw W) Tryz.prog sM:=Ae Tryz.call277 (Ag rfl Ao (Cd hW) (sJ hW) Tryz.func277 (iE)) (sJ hW)
def iG:List AV→List Blk→Nat→Option LR:=fun cs H i=>cond (Nat.beq i 0) (some (.order [0,1,2,3,4,5,6,7,8,9,10,11,12,13,14,15,16,17])) ((fun cs H i=>cond (Nat.beq i 3) (some (.unroll 1)) none) cs H i)
def sP:List (FuncId × Ctr):=(229,inl TY sM Aj (fun _=>false) (iG) Tryz.f229)::sK
def sQ:FuncId→Option Ctr:=Az Aj sP
theorem sR{W:World}(hW:Tabs W):Ad (Fw W) Tryz.prog sQ:=Ae Tryz.call229 (Ag rfl Ao (Cd hW) (sO hW) Tryz.func229 (iG)) (sO hW)
def sT:List (FuncId × Ctr):=(228,inl TY sQ Aj (fun _=>false) (fun _ _ _=>none) Tryz.f228)::sP
def sU:FuncId→Option Ctr:=Az Aj sT
theorem sV{W:World}(hW:Tabs W):Ad (Fw W) Tryz.prog sU:=Ae Tryz.call228 (Ag rfl Ao (Cd hW) (sR hW) Tryz.func228 (fun _ _ _=>none)) (sR hW)
def sW:List (FuncId × Ctr):=(234,inl TY sU Aj (fun _=>false) (fun _ _ _=>none) Tryz.f234)::sT
def sX:FuncId→Option Ctr:=Az Aj sW
theorem sY{W:World}(hW:Tabs W):Ad (Fw W) Tryz.prog sX:=Ae Tryz.call234 (Ag rfl Ao (Cd hW) (sV hW) Tryz.func234 (fun _ _ _=>none)) (sV hW)
def sZ:List (FuncId × Ctr):=(164,inl TY sX Aj (fun _=>false) (fun _ _ _=>none) Tryz.f164)::sW
def tB:FuncId→Option Ctr:=Az Aj sZ
theorem tC{W:World}(hW:Tabs W):Ad (Fw W) Tryz.prog tB:=Ae Tryz.call164 (Ag rfl Ao (Cd hW) (sY hW) Tryz.func164 (fun _ _ _=>none)) (sY hW)
def iH:List AV→List Blk→Nat→Option LR:=fun _ _ i=>cond (Nat.beq i 2) (some (.unroll 7)) none
def Ajd:List (FuncId × Ctr):=(141,inl TY tB Aj (fun _=>false) (iH) Tryz.f141)::sZ
def Qq:FuncId→Option Ctr:=Az Aj Ajd
theorem tD{W:World}(hW:Tabs W):Ad (Fw W) Tryz.prog Qq:=Ae Tryz.call141 (Ag rfl Ao (Cd hW) (tC hW) Tryz.func141 (iH)) (tC hW)
set_option maxHeartbeats 4000000 in
theorem Aoz{W:World}(hW:Tabs W):GoodP (Fw W) Tryz.prog 71 Aoy:=by
 have hD:=Cd hW
 have hC0:∀ r:Request,Ad (Fw W) Tryz.prog Qq:=fun r=>(tD hW)
 refine As (D:=Aj) (C:=fun r=>Qq) (wr:=(fun _=>false)) rfl Ao hD hC0 Tryz.func71 (fun _ _=>none) (fun _=>rfl) ?_
 rintro⟨key,kind,day,ticket,coupon,status,locator,coupons,taxes,amount,frm,til⟩ hf hp
 have hft:A0 [slE 2 Tax.enc taxes]:=⟨hf.1.2.2.2.2.2.2.2.2.1,True.intro⟩
 clear hf
 obtain⟨hk,hcn,htn,hp1,hp2⟩:=hp
 dsimp only at hk hcn htn hp1 hp2
 subst hcn
 subst htn
 rcases hk with rfl
 have hex: ¬Ci 1=[]:=by rw[Ce (by decide)];decide
 (conv=>whnf)
 (repeat' ((first
  |(with_reducible refine Ar ?_)
  |(exact absurd (by with_reducible assumption) hex)
  |((with_reducible refine aI ?_ ?_);focus (with_reducible exact⟨⟩))
  |(split<;>rename_i hh<;>(try simp only[wS] at hh))
  |fail)<;>(conv=>whnf)))
 refine⟨([]:List Coupon),Nat.zero_le _,?_,?_⟩
 ·exact Ac _
 (conv=>whnf)
 refine⟨([]:List Tax),Nat.zero_le _,?_,?_⟩
 ·exact Ac _
 (conv=>whnf)
 (repeat' ((first
  |(with_reducible refine Ar ?_)
  |((with_reducible apply B8);(focus rfl);(focus rfl))
  |((with_reducible apply B6);(focus rfl);(focus rfl);(focus rfl))
  |((refine⟨rfl,_,?_,rfl⟩);(try simp only[Bh,Cm,Bt,cond_true,cond_false,Bool.true_and,Bool.and_false,Bool.false_and,List.length_nil])<;>first|rfl|exact C9 (by omega)|exact Da (by omega)|exact Db (by omega)|(rename_i hh;(try simp only[List.length_nil] at hh);first|(rw[hh];first|rfl|(simp;done))|(rw[hh.1,hh.2];first|rfl|(simp;done))|(simp[hh];done)|(rcases hh with hh|hh<;>first|(rw[hh];first|rfl|(simp;done))|(simp[hh];done))))
  |with_reducible refine iQ ?_ ?_
  |((with_reducible refine aI ?_ ?_);focus (first|with_reducible exact⟨⟩|exact tO|((with_reducible show okQ _ _=true);rfl)|omega|exact tK))
  |(split<;>rename_i hh<;>(try simp only[wS] at hh))
  |with_reducible refine lnI fun hln=>?_
  |fail)<;>(conv=>whnf)))
 all_goals (try (show _=_;simp only[wQ]))
 ·exfalso
  simp only[Bool.and_eq_true,B0,List.length_nil] at hh
  omega
 ·symm
  refine Bool.eq_false_iff.2 fun hm=>?_
  rw[Mn] at hm
  exact Un (m:=12) (by simp only[hm])
end
end Go.Vc.Z
