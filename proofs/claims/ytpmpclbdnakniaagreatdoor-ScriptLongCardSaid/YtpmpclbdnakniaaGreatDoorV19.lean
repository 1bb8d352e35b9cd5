/- request.May, of the kind issue. -/
import Derived.Test.YtpmpclbdnakniaaGreatDoorV18
set_option linter.all false
set_option linter.unusedVariables false
set_option linter.unusedSimpArgs false
namespace Go.Vc.Z
open Go Go.Vc Go.Proofs Go.RowKit Go.Pl Go.Lib
@[irreducible] def lcB(g:Bool)(m:Int)(l:List Coupon)(i:Nat):Bool:=Dc g 1 l.length m&&(l.take i).all (Nc · 0)
@[irreducible] def ltB(g:Bool)(l:List Tax)(i:Nat):Bool:=Dc g 0 l.length 4&&Du 1 (l.take i)
@[irreducible] def Gz(l:List Tax)(i:Nat):Int:=if i=0 then 1 else(if (l.getD (i - 1) default).code≤99 then(l.getD (i - 1) default).code else 99)+1
@[irreducible] def fz(i e:Nat)(v:Int):Int:=if e<i then 0 else v
theorem Lk(e:Nat)(v:Int):fz 0 e v=v:=by unfold fz;rw[if_neg (Nat.not_lt_zero _)]
theorem G7{i e:Nat}(h:i≤e)(v:Int):fz i e v=v:=by unfold fz;rw[if_neg (by omega)]
theorem Am7{i e:Nat}(h:e<i)(v:Int):fz i e v=0:=by unfold fz;rw[if_pos h]
def dE(i e:Nat)(c:Coupon):List AV:=[.int .i64 (fz i e c.flight),.int .i64 (fz i e c.day),.int .i64 (fz i e c.value),.int .i64 c.status,.int .i64 c.holder,.int .u64 c.next]
def dF(i e:Nat)(c:Tax):List AV:=[.int .i64 (fz i e c.code),.int .i64 (fz i e c.amount)]
def As6(H:List Blk)(k:Option Nat)(f:Nat→List AV):List Blk:=match k with
 |none=>H
 |some k=>(match H[k]? with|some (.row sz len _ T)=>H.set k (.row sz len f T)|_=>H)
def Aif(g:Bool)(m:Int)(r:Request)(cs:List AV)(H:List Blk):LoopSpec:={
 α:=Nat
 keep:=[0,31,32]
 vals i:=[.ptr (sU cs) 0,.int .i64 r.coupons.length,.int .i64 i]
 heap i:=As6 (setCell H (sU cs) 2 (.bool (lcB g m r.coupons i))) (Afs H cs 7) (fun e=>dE i e (r.coupons.getD e default))++[.dead]
 ok i:=i≤r.coupons.length
 μ i:=r.coupons.length - i }
def Aig(g:Bool)(r:Request)(cs:List AV)(H:List Blk):LoopSpec:={
 α:=Nat
 keep:=[0,2,30,31]
 vals i:=[.ptr (sU cs) 0,.int .i64 (Gz r.taxes i),.int .i64 r.taxes.length,.int .i64 i]
 heap i:=As6 (setCell H (sU cs) 2 (.bool (ltB g r.taxes i))) (Afs H cs 8) (fun e=>dF i e (r.taxes.getD e default))++[.dead]
 ok i:=i≤r.taxes.length
 μ i:=r.taxes.length - i }
@[irreducible] def gP5(r:Request):Bool:=Dc (Dc (Dc true 1 r.key.length 16&&Gb r.key) 0 r.day 1000000&&eqI (checkN r.ticket) 0) 0 r.amount 1000000000000
@[irreducible] def gP1(r:Request):Bool:=Dc (Dc true 1 r.key.length 16&&Gb r.key) 0 r.day 1000000&&G4 r.locator
theorem Am8{i e:Nat}(h:e≠i)(v:Int):fz i e v=fz (i+1) e v:=by unfold fz;split<;>split<;>first|rfl|omega
theorem W3{i e:Nat}(h:e≠i)(c:Coupon):dE i e c=dE (i+1) e c:=by simp only[dE,Am8 h]
theorem W4(i:Nat)(c:Coupon):dE (i+1) i c=[.int .i64 0,.int .i64 0,.int .i64 0,.int .i64 c.status,.int .i64 c.holder,.int .u64 c.next]:=by simp only[dE,Am7 (Nat.lt_succ_self i)]
theorem Ll{i e:Nat}(h:e≠i)(c:Tax):dF i e c=dF (i+1) e c:=by simp only[dF,Am8 h]
theorem Lm(i:Nat)(c:Tax):dF (i+1) i c=[.int .i64 0,.int .i64 0]:=by simp only[dF,Am7 (Nat.lt_succ_self i)]
theorem Sb(g:Bool)(m:Int)(l:List Coupon):lcB g m l 0=Dc g 1 l.length m:=by unfold lcB;simp
theorem Sc(g:Bool)(l:List Tax):ltB g l 0=Dc g 0 l.length 4:=by unfold ltB;simp[Du]
theorem Ln(l:List Tax):Gz l 0=1:=by unfold Gz;rfl
theorem Mu(g:Bool)(m:Int)(l:List Coupon):lcB g m l l.length=(g&&Gf m l):=by
 unfold lcB Gf
 rw[List.take_length,Bool.eq_iff_iff]
 simp only[Bool.and_eq_true,Bs,decide_eq_true_eq]
 constructor
 ·rintro⟨⟨h1,h2,h3⟩,h4⟩;exact⟨h1,⟨h4,by omega⟩,h3⟩
 ·rintro⟨h1,⟨h4,h2⟩,h3⟩;exact⟨⟨h1,by omega,h3⟩,h4⟩
theorem Sd(g:Bool)(l:List Tax):ltB g l l.length=(g&&Dv l):=by
 unfold ltB Dv
 rw[List.take_length,Bool.eq_iff_iff]
 simp only[Bool.and_eq_true,Bs,decide_eq_true_eq]
 constructor
 ·rintro⟨⟨h1,h2,h3⟩,h4⟩;exact⟨h1,h4,by omega⟩
 ·rintro⟨h1,h4,h2⟩;exact⟨⟨h1,by omega,by omega⟩,h4⟩
theorem Nn{c:Coupon}:Nc c 0=true↔(1≤c.flight∧c.flight≤9999)∧(0≤c.day∧c.day≤1000000)∧(0≤c.value∧c.value≤1000000000000)∧c.status=0∧c.holder=0∧c.next=0:=by
 unfold Nc Gl D2
 simp only[Bool.and_eq_true,decide_eq_true_eq,and_assoc]
theorem Sf{g:Bool}{m:Int}{l:List Coupon}{i:Nat}(h:i<l.length):lcB g m l (i+1)=(lcB g m l i&&Nc (l.getD i default) 0):=by
 unfold lcB
 rw[List.take_add_one,List.all_append,List.getElem?_eq_getElem h,List.getD_eq_getElem?_getD,List.getElem?_eq_getElem h,Bool.and_assoc]
 simp
def Y1:Int→List Tax→Int
 |n,[]=>n
 |_,y::l=>Y1 (y.code+1) l
theorem Y2:∀ (l:List Tax) (n:Int) (x:Tax),Y1 n (l++[x])=x.code+1
 |[],_,_=>rfl
 |y::l,n,x=>by rw[List.cons_append,Y1,Y2 l]
theorem Ky:∀ (l:List Tax) (n:Int) (x:Tax),Du n (l++[x])=(Du n l&&(decide (Y1 n l≤x.code)&&decide (x.code≤99)&&D2 x.amount))
 |[],n,x=>by simp only[List.nil_append,Du,Y1,Bool.and_true,Bool.true_and]<;>rfl
 |y::l,n,x=>by rw[List.cons_append,Du,Ky l,Du];simp only[Y1,Bool.and_assoc]<;>rfl
theorem fL{l:List Tax}{i:Nat}(h:i<l.length):l.take (i+1)=l.take i++[l.getD i default]:=by
 rw[List.take_add_one,List.getElem?_eq_getElem h,List.getD_eq_getElem?_getD,List.getElem?_eq_getElem h];rfl
theorem tX{l:List Tax}:∀ {i:Nat},i≤l.length→Du 1 (l.take i)=true→Y1 1 (l.take i)=Gz l i
 |0,_,_=>by unfold Gz;rfl
 |i+1,h,ht=>by
  rw[fL (by omega)] at ht ⊢
  rw[Ky] at ht
  simp only[Bool.and_eq_true,decide_eq_true_eq] at ht
  rw[Y2]
  unfold Gz
  rw[if_neg (by omega),Nat.add_sub_cancel,if_pos ht.2.1.2]
theorem I2{g:Bool}{l:List Tax}{i:Nat}(h:i<l.length):ltB g l (i+1)=(ltB g l i&&(decide (Gz l i≤(l.getD i default).code)&&decide ((l.getD i default).code≤99)&&D2 (l.getD i default).amount)):=by
 unfold ltB
 rw[fL h,Ky,Bool.and_assoc]
 cases ht:Du 1 (l.take i) with
 |false=>simp
 |true=>rw[tX (by omega) ht];simp[Bool.and_assoc]
theorem W5{r:Request}:gP1 r=true↔Gb r.key=true∧(0≤r.day∧r.day≤1000000)∧G4 r.locator=true:=by
 unfold gP1
 simp only[Bool.and_eq_true,Bs,true_and]
 constructor
 ·rintro⟨⟨⟨_,h1⟩,h2⟩,h3⟩;exact⟨h1,h2,h3⟩
 ·rintro⟨h1,h2,h3⟩;have:=Gs h1;exact⟨⟨⟨⟨by omega,by omega⟩,h1⟩,h2⟩,h3⟩
theorem W6{r:Request}:gP5 r=true↔Gb r.key=true∧(0≤r.day∧r.day≤1000000)∧checkN r.ticket=0∧(0≤r.amount∧r.amount≤1000000000000):=by
 unfold gP5
 simp only[Bool.and_eq_true,Bs,true_and,Bw,beq_iff_eq]
 constructor
 ·rintro⟨⟨⟨⟨_,h1⟩,h2⟩,h3⟩,h4⟩;exact⟨h1,h2,h3,h4⟩
 ·rintro⟨h1,h2,h3,h4⟩;have:=Gs h1;exact⟨⟨⟨⟨⟨by omega,by omega⟩,h1⟩,h2⟩,h3⟩,h4⟩
theorem P0{m:Int}: ¬Gf m []=true:=fun h=>by have:=(F4 h).1;simp at this
theorem No:Dv []=true:=by unfold Dv;rfl
theorem Sg{l:List Tax}(h:Bl [slE 2 Tax.enc l]){k:Nat}(hk:k<l.length): -9223372036854775808≤(l.getD k default).code:=by
 simp only[Bl,Cm,and_true] at h
 have:=(h.2 k hk).2.1
 exact(Ar.1 this).1
noncomputable section
set_option maxRecDepth 100000
attribute [local irreducible] inK Utf8.decode Utf8.encode Lib.itoa Pl.worth Pl.allDig
attribute [local irreducible] Lib.join
def Aih:PC:=PC.of (fun r:Request=>[.agg r.enc]) (fun r=>(r.kind=1)∧¬r.coupons.length=0∧¬r.taxes.length=0∧E1 r) (fun r=>.bool (sB (Ah r)))
def Ak:PT:=D1 [(73,Yv),(127,Wx),(142,Wz),(195,T4),(211,Yy),(212,Yz),(275,Yg)]
theorem B7{W:World}(hW:Tabs W):Dj (Fw W) Tryz.prog Ak:=(Ae Tryz.call73 (Hj hW) (Ae Tryz.call127 (Ka hW) (Ae Tryz.call142 (Kx hW) (Ae Tryz.call195 (Mj hW) (Ae Tryz.call211 (D9 hW) (Ae Tryz.call212 (E2 hW) (Ae Tryz.call275 (Mq hW) A6)))))))
def Aa5:FuncId→Option Ctr:=Av Ak []
theorem Aa6{W:World}(hW:Tabs W):Ad (Fw W) Tryz.prog Aa5:=(A7 (B7 hW))
def tY:List (FuncId × Ctr):=(298,P9 TY Aa5 Ak (fun _=>false) (fun _ _ _=>none) Tryz.f298)::[]
def tZ:FuncId→Option Ctr:=Av Ak tY
theorem uA{W:World}(hW:Tabs W):Ad (Fw W) Tryz.prog tZ:=Ab Tryz.call298 (Pv rfl Aq (B7 hW) (Aa6 hW) Tryz.func298 (fun _ _ _=>none)) (Aa6 hW)
def uB:List (FuncId × Ctr):=(273,P9 TY tZ Ak (fun _=>false) (fun _ _ _=>none) Tryz.f273)::tY
def uC:FuncId→Option Ctr:=Av Ak uB
theorem uD{W:World}(hW:Tabs W):Ad (Fw W) Tryz.prog uC:=Ab Tryz.call273 (Pv rfl Aq (B7 hW) (uA hW) Tryz.func273 (fun _ _ _=>none)) (uA hW)
def uE:List (FuncId × Ctr):=(260,inl TY uC Ak (fun _=>false) (fun _ _ _=>none) Tryz.f260)::uB
def uF:FuncId→Option Ctr:=Av Ak uE
theorem uG{W:World}(hW:Tabs W):Ad (Fw W) Tryz.prog uF:=Ab Tryz.call260 (Af rfl Aq (B7 hW) (uD hW) Tryz.func260 (fun _ _ _=>none)) (uD hW)
def uH:List (FuncId × Ctr):=(276,inl TY uF Ak (fun _=>false) (fun _ _ _=>none) Tryz.f276)::uE
def uI:FuncId→Option Ctr:=Av Ak uH
theorem uJ{W:World}(hW:Tabs W):Ad (Fw W) Tryz.prog uI:=Ab Tryz.call276 (Af rfl Aq (B7 hW) (uG hW) Tryz.func276 (fun _ _ _=>none)) (uG hW)
def uK:List (FuncId × Ctr):=(279,inl TY uI Ak (fun _=>false) (fun _ _ _=>none) Tryz.f279)::uH
def uL:FuncId→Option Ctr:=Av Ak uK
theorem uM{W:World}(hW:Tabs W):Ad (Fw W) Tryz.prog uL:=Ab Tryz.call279 (Af rfl Aq (B7 hW) (uJ hW) Tryz.func279 (fun _ _ _=>none)) (uJ hW)
def uN:List (FuncId × Ctr):=(254,inl TY uL Ak (fun _=>false) (fun _ _ _=>none) Tryz.f254)::uK
def uO:FuncId→Option Ctr:=Av Ak uN
theorem uP{W:World}(hW:Tabs W):Ad (Fw W) Tryz.prog uO:=Ab Tryz.call254 (Af rfl Aq (B7 hW) (uM hW) Tryz.func254 (fun _ _ _=>none)) (uM hW)
def uQ:List (FuncId × Ctr):=(274,inl TY uO Ak (fun _=>false) (fun _ _ _=>none) Tryz.f274)::uN
def uR:FuncId→Option Ctr:=Av Ak uQ
theorem uS{W:World}(hW:Tabs W):Ad (Fw W) Tryz.prog uR:=Ab Tryz.call274 (Af rfl Aq (B7 hW) (uP hW) Tryz.func274 (fun _ _ _=>none)) (uP hW)
def uT:List (FuncId × Ctr):=(258,inl TY uR Ak (fun _=>false) (fun _ _ _=>none) Tryz.f258)::uQ
def uU:FuncId→Option Ctr:=Av Ak uT
theorem uV{W:World}(hW:Tabs W):Ad (Fw W) Tryz.prog uU:=Ab Tryz.call258 (Af rfl Aq (B7 hW) (uS hW) Tryz.func258 (fun _ _ _=>none)) (uS hW)
def uW:List (FuncId × Ctr):=(278,inl TY uU Ak (fun _=>false) (fun _ _ _=>none) Tryz.f278)::uT
def uX:FuncId→Option Ctr:=Av Ak uW
theorem uY{W:World}(hW:Tabs W):Ad (Fw W) Tryz.prog uX:=Ab Tryz.call278 (Af rfl Aq (B7 hW) (uV hW) Tryz.func278 (fun _ _ _=>none)) (uV hW)
def fM:List (FuncId × Ctr):=(305,inl TY uX Ak (fun _=>false) (fun _ _ _=>none) Tryz.f305)::uW
def fO:FuncId→Option Ctr:=Av Ak fM
theorem fP{W:World}(hW:Tabs W):Ad (Fw W) Tryz.prog fO:=Ab Tryz.call305 (Af rfl Aq (B7 hW) (uY hW) Tryz.func305 (fun _ _ _=>none)) (uY hW)
def fQ:List (FuncId × Ctr):=(225,inl TY fO Ak (fun _=>false) (fun _ _ _=>none) Tryz.f225)::fM
def fR:FuncId→Option Ctr:=Av Ak fQ
theorem fV{W:World}(hW:Tabs W):Ad (Fw W) Tryz.prog fR:=Ab Tryz.call225 (Af rfl Aq (B7 hW) (fP hW) Tryz.func225 (fun _ _ _=>none)) (fP hW)
def fW:List (FuncId × Ctr):=(226,inl TY fR Ak (fun _=>false) (fun _ _ _=>none) Tryz.f226)::fQ
def fY:FuncId→Option Ctr:=Av Ak fW
theorem fZ{W:World}(hW:Tabs W):Ad (Fw W) Tryz.prog fY:=Ab Tryz.call226 (Af rfl Aq (B7 hW) (fV hW) Tryz.func226 (fun _ _ _=>none)) (fV hW)
def gB:List (FuncId × Ctr):=(230,inl TY fY Ak (fun _=>false) (fun _ _ _=>none) Tryz.f230)::fW
def gE:FuncId→Option Ctr:=Av Ak gB
theorem gG{W:World}(hW:Tabs W):Ad (Fw W) Tryz.prog gE:=Ab Tryz.call230 (Af rfl Aq (B7 hW) (fZ hW) Tryz.func230 (fun _ _ _=>none)) (fZ hW)
def gH:List (FuncId × Ctr):=(233,inl TY gE Ak (fun _=>false) (fun _ _ _=>none) Tryz.f233)::gB
def gI:FuncId→Option Ctr:=Av Ak gH
theorem gJ{W:World}(hW:Tabs W):Ad (Fw W) Tryz.prog gI:=Ab Tryz.call233 (Af rfl Aq (B7 hW) (gG hW) Tryz.func233 (fun _ _ _=>none)) (gG hW)
def P1:List (FuncId × Ctr):=(227,inl TY gI Ak (fun _=>false) (fun _ _ _=>none) Tryz.f227)::gH
def P2:FuncId→Option Ctr:=Av Ak P1
theorem J0{W:World}(hW:Tabs W):Ad (Fw W) Tryz.prog P2:=Ab Tryz.call227 (Af rfl Aq (B7 hW) (gJ hW) Tryz.func227 (fun _ _ _=>none)) (gJ hW)
def Uf:List (FuncId × Ctr):=(211,inl TY P2 Ak (fun _=>false) (fun _ _ _=>none) Tryz.f211)::P1
def Ug:FuncId→Option Ctr:=Av Ak Uf
theorem P3{W:World}(hW:Tabs W):Ad (Fw W) Tryz.prog Ug:=Ab Tryz.call211 (Af rfl Aq (B7 hW) (J0 hW) Tryz.func211 (fun _ _ _=>none)) (J0 hW)
def gK:List (FuncId × Ctr):=(212,inl TY Ug Ak (fun _=>false) (fun _ _ _=>none) Tryz.f212)::Uf
def gL:FuncId→Option Ctr:=Av Ak gK
theorem gM{W:World}(hW:Tabs W):Ad (Fw W) Tryz.prog gL:=Ab Tryz.call212 (Af rfl Aq (B7 hW) (P3 hW) Tryz.func212 (fun _ _ _=>none)) (P3 hW)
def Y3:List AV→List Blk→Nat→Option LR:=fun cs H i=>cond (Nat.beq i 1) (some (.order [0,1,3,4,2,6,5,7,8,9])) (none)
def Uh:List (FuncId × Ctr):=(140,inl TY gL Ak (fun _=>false) (Y3) Tryz.f140)::gK
def Mv:FuncId→Option Ctr:=Av Ak Uh
theorem gO{W:World}(hW:Tabs W):Ad (Fw W) Tryz.prog Mv:=Ab Tryz.call140 (Af rfl Aq (B7 hW) (gM hW) Tryz.func140 (Y3)) (gM hW)
def Y4(r:Request):List AV→List Blk→Nat→Option LR:=fun cs H i=>cond (Nat.beq i 0) (some (.order [0,1,2,3,4,5,6,7,8,9,10,11,12,13,14,15,16,17,18])) (cond (Nat.beq i 6) (some (.order [0,1,2,3,4,5,6,7,8,9,10,11,12,13,14,15])) ((fun cs H i=>cond (Nat.beq i 2) (some (.inv (Aif (gP1 r) 12 r cs H))) none) cs H i))
def gP(r:Request):List (FuncId × Ctr):=(277,inl TY (Mv) Ak (fun _=>false) (Y4 r) Tryz.f277)::Uh
def gQ(r:Request):FuncId→Option Ctr:=Av Ak (gP r)
def Y5(r:Request):List AV→List Blk→Nat→Option LR:=fun cs H i=>cond (Nat.beq i 0) (some (.order [0,1,2,3,4,5,6,7,8,9,10,11,12,13,14,15,16,17])) ((fun cs H i=>cond (Nat.beq i 3) (some (.inv (Aig (lcB (gP1 r) 12 r.coupons r.coupons.length) r cs H))) none) cs H i)
def gR(r:Request):List (FuncId × Ctr):=(229,inl TY (gQ r) Ak (fun _=>false) (Y5 r) Tryz.f229)::gP r
def gV(r:Request):FuncId→Option Ctr:=Av Ak (gR r)
def gW(r:Request):List (FuncId × Ctr):=(228,inl TY (gV r) Ak (fun _=>false) (fun _ _ _=>none) Tryz.f228)::gR r
def gY(r:Request):FuncId→Option Ctr:=Av Ak (gW r)
def gZ(r:Request):List (FuncId × Ctr):=(234,inl TY (gY r) Ak (fun _=>false) (fun _ _ _=>none) Tryz.f234)::gW r
def hI(r:Request):FuncId→Option Ctr:=Av Ak (gZ r)
def hJ(r:Request):List (FuncId × Ctr):=(164,inl TY (hI r) Ak (fun _=>false) (fun _ _ _=>none) Tryz.f164)::gZ r
def hO(r:Request):FuncId→Option Ctr:=Av Ak (hJ r)
def Y6(r:Request):List AV→List Blk→Nat→Option LR:=fun _ _ i=>cond (Nat.beq i 2) (some (.unroll 7)) none
def Acv(r:Request):List (FuncId × Ctr):=(141,inl TY (hO r) Ak (fun _=>false) (Y6 r) Tryz.f141)::hJ r
def hP(r:Request):FuncId→Option Ctr:=Av Ak (Acv r)
set_option maxHeartbeats 4000000 in
theorem Aii{W:World}(hW:Tabs W):GoodP (Fw W) Tryz.prog 71 Aih:=by
 have hD:=B7 hW
 have hC18:∀ r:Request,Ad (Fw W) Tryz.prog Mv:=fun r=>(gO hW)
 have hC19:∀ r:Request,Ad (Fw W) Tryz.prog (gQ r):=fun r=>Ab Tryz.call277 (Af rfl Aq hD (hC18 r) Tryz.func277 (Y4 r)) (hC18 r)
 have hC20:∀ r:Request,Ad (Fw W) Tryz.prog (gV r):=fun r=>Ab Tryz.call229 (Af rfl Aq hD (hC19 r) Tryz.func229 (Y5 r)) (hC19 r)
 have hC21:∀ r:Request,Ad (Fw W) Tryz.prog (gY r):=fun r=>Ab Tryz.call228 (Af rfl Aq hD (hC20 r) Tryz.func228 (fun _ _ _=>none)) (hC20 r)
 have hC22:∀ r:Request,Ad (Fw W) Tryz.prog (hI r):=fun r=>Ab Tryz.call234 (Af rfl Aq hD (hC21 r) Tryz.func234 (fun _ _ _=>none)) (hC21 r)
 have hC23:∀ r:Request,Ad (Fw W) Tryz.prog (hO r):=fun r=>Ab Tryz.call164 (Af rfl Aq hD (hC22 r) Tryz.func164 (fun _ _ _=>none)) (hC22 r)
 have hC24:∀ r:Request,Ad (Fw W) Tryz.prog (hP r):=fun r=>Ab Tryz.call141 (Af rfl Aq hD (hC23 r) Tryz.func141 (Y6 r)) (hC23 r)
 refine Ax (D:=Ak) (C:=fun r=>hP r) (wr:=(fun _=>false)) rfl Aq hD hC24 Tryz.func71 (fun _ _=>none) (fun _=>rfl) ?_
 rintro⟨key,kind,day,ticket,coupon,status,locator,coupons,taxes,amount,frm,til⟩ hf hp
 have hft:Bl [slE 2 Tax.enc taxes]:=⟨hf.1.2.2.2.2.2.2.2.2.1,True.intro⟩
 clear hf
 obtain⟨hk,hcn,htn,hp1,hp2⟩:=hp
 dsimp only at hk hcn htn hp1 hp2
 rcases hk with rfl
 have hex: ¬Ce 1=[]:=by rw[Cc (by decide)];decide
 have hca: ¬0+coupons.length≤0:=by omega
 have hta: ¬0+taxes.length≤0:=by omega
 (conv=>whnf)
 (repeat' ((first
  |(with_reducible refine Ac ?_)
  |(exact absurd (by with_reducible assumption) hex)
  |(exact absurd (by with_reducible assumption) hcn)
  |(exact absurd (by with_reducible assumption) htn)
  |(exact absurd (by with_reducible assumption) hca)
  |(exact absurd (by with_reducible assumption) hta)
  |((with_reducible apply Bv);(focus rfl);(focus rfl))
  |((with_reducible apply Bt);(focus rfl);(focus rfl);(focus rfl))
  |((refine⟨rfl,_,?_,rfl⟩);(try simp only[A9,Cs,Bw,cond_true,cond_false,Bool.true_and,Bool.and_false,Bool.false_and,List.length_nil])<;>first|rfl|exact Cy (by omega)|exact Cz (by omega)|exact C0 (by omega)|(rename_i hh;(try simp only[List.length_nil] at hh);first|(rw[hh];first|rfl|(simp;done))|(rw[hh.1,hh.2];first|rfl|(simp;done))|(simp[hh];done)|(rcases hh with hh|hh<;>first|(rw[hh];first|rfl|(simp;done))|(simp[hh];done))))
  |with_reducible refine iQ ?_ ?_
  |((with_reducible refine aI ?_ ?_);focus (first|with_reducible exact⟨⟩|exact tO|((with_reducible show okQ _ _=true);rfl)|omega|exact tK|(simp only[Ag,ty2,ty3,ty4,ty5,ty9,Cn,Ch,Co,Ci,Cl,Cp,Cq,Cr,Bf,Bc,Bg,Bd,Bh,Bi,Bj];first|omega|(refine⟨?_,?_⟩<;>omega))))
  |(split<;>rename_i hh<;>(try simp only[wS] at hh))
  |with_reducible refine lnI fun hln=>?_
  |fail)<;>(conv=>whnf)))
 refine⟨?_,fun(i:Nat) (hi:i≤coupons.length)=>?_⟩
 ·(conv=>whnf)
  refine⟨(0:Nat),[],?_,⟨⟨rfl,(nB rfl),rfl⟩,?_,?_⟩⟩
  ·exact Nat.zero_le _
  ·exact tL
  ·(conv=>whnf)
   (repeat' ((first|with_reducible exact⟨⟩|((with_reducible refine Or.inr ?_);rfl)|((with_reducible refine aI ?_ ?_);focus (exact tA))|with_reducible refine iA ?_ ?_|with_reducible refine iL ?_ ?_|with_reducible refine iB ?_ ?_|fail)<;>(conv=>whnf)))
   all_goals (try simp only[wQ])
   all_goals (try first|omega|rfl|exact⟨fun h=>h,fun _ _=>True.intro⟩)
   all_goals (try first|exact fun _ _=>⟨True.intro,rfl⟩)
   ·intro e he
    refine⟨?_,rfl⟩
    show Bu 0 _ _ e=_
    unfold Bu
    rw[if_neg (by omega),Nat.sub_zero]
    simp only[dE,Lk]
   ·rw[Sb,Nat.zero_add];unfold gP1;rfl
   ·intro e he
    rcases(by omega:e=0∨e=1∨e=2∨e=3∨e=4) with rfl|rfl|rfl|rfl|rfl<;>exact⟨True.intro,rfl⟩
 ·(conv=>whnf)
  (repeat' ((first
   |(with_reducible refine Ac ?_)
   |((with_reducible apply Bv);(focus rfl);(focus rfl))
   |((with_reducible apply Bt);(focus rfl);(focus rfl);(focus rfl))
   |((with_reducible apply Eb);(focus rfl);(focus rfl);(focus rfl))
   |(refine Lg ?_)
   |((refine⟨rfl,_,?_,rfl⟩);(try simp only[A9,Cs,Bw,cond_true,cond_false,Bool.true_and,Bool.and_false,Bool.false_and,List.length_nil])<;>first|rfl|exact Cy (by omega)|exact Cz (by omega)|exact C0 (by omega)|(rename_i hh;(try simp only[List.length_nil] at hh);first|(rw[hh];first|rfl|(simp;done))|(rw[hh.1,hh.2];first|rfl|(simp;done))|(simp[hh];done)|(rcases hh with hh|hh<;>first|(rw[hh];first|rfl|(simp;done))|(simp[hh];done))))
   |with_reducible refine iQ ?_ ?_
   |((with_reducible refine aI ?_ ?_);focus (first|((with_reducible show okQ _ _=true);rfl)|omega|exact tK))
   |(split<;>rename_i hh<;>(try simp only[wS] at hh))
   |with_reducible refine lnI fun hln=>?_
   |fail)<;>(conv=>whnf)))
  ·(conv=>whnf)
   refine⟨(i+1:Nat),[],?_,⟨⟨rfl,(nB rfl),rfl⟩,?_,?_⟩⟩
   ·exact⟨show i+1≤coupons.length by omega,show coupons.length - (i+1)<coupons.length - i by omega⟩
   ·exact tL
   ·(conv=>whnf)
    (repeat' ((first|with_reducible exact⟨⟩|((with_reducible refine Or.inr ?_);rfl)|((with_reducible refine aI ?_ ?_);focus (exact tA))|with_reducible refine iA ?_ ?_|with_reducible refine iL ?_ ?_|with_reducible refine iB ?_ ?_|fail)<;>(conv=>whnf)))
    all_goals (try simp only[wQ])
    all_goals (try first|omega|rfl|exact⟨fun h=>h,fun _ _=>True.intro⟩)
    all_goals (try first|exact fun _ _=>⟨True.intro,rfl⟩)
    ·intro e he
     refine⟨?_,rfl⟩
     simp only[Dq,decide_true,if_true,decide_eq_true_eq]
     by_cases h1:e=i
     ·subst h1
      simp only[if_pos (show e=0+Int.toNat (e:Int) by omega)]
      rw[W4];simp only[Nat.zero_add,Int.toNat_natCast];rfl
     ·simp only[if_neg (show¬e=0+Int.toNat (i:Int) by omega)]
      rw[W3 h1]
    ·rw[Sf (by omega),Bool.eq_iff_iff]
     simp only[Bool.and_eq_true,Bs,Nn,beq_iff_eq,Rl,decide_true,if_true,G7 (Nat.le_refl i),Nat.zero_add,Int.toNat_natCast,true_and,and_assoc,cond_true,cond_false]
    ·intro e he
     rcases(by omega:e=0∨e=1∨e=2∨e=3∨e=4) with rfl|rfl|rfl|rfl|rfl<;>exact⟨True.intro,rfl⟩
  ·obtain rfl:i=coupons.length:=by omega
   refine⟨?_,fun(k:Nat) (hk:k≤taxes.length)=>?_⟩
   ·(conv=>whnf)
    refine⟨(0:Nat),[],?_,⟨⟨rfl,(nB rfl),rfl⟩,?_,?_⟩⟩
    ·exact Nat.zero_le _
    ·(conv=>whnf)
     (repeat' ((first|with_reducible exact⟨⟩|((with_reducible refine aI ?_ ?_);focus (exact tA))|with_reducible refine iA ?_ ?_|fail)<;>(conv=>whnf)))
     all_goals (try simp only[wQ])
     all_goals (try first|omega)
     all_goals exact(Ln _).symm
    ·(conv=>whnf)
     (repeat' ((first|with_reducible exact⟨⟩|((with_reducible refine Or.inr ?_);rfl)|((with_reducible refine aI ?_ ?_);focus (exact tA))|with_reducible refine iA ?_ ?_|with_reducible refine iL ?_ ?_|with_reducible refine iB ?_ ?_|fail)<;>(conv=>whnf)))
     all_goals (try simp only[wQ])
     all_goals (try first|omega|rfl|exact⟨fun h=>h,fun _ _=>True.intro⟩)
     all_goals (try first|exact fun _ _=>⟨True.intro,rfl⟩)
     ·intro e he
      refine⟨?_,rfl⟩
      show Bu 0 _ _ e=_
      unfold Bu
      rw[if_neg (by omega),Nat.sub_zero]
      simp only[dF,Lk]
     ·rw[Sc,Nat.zero_add]
     ·intro e he
      rcases(by omega:e=0∨e=1∨e=2∨e=3∨e=4) with rfl|rfl|rfl|rfl|rfl<;>exact⟨True.intro,rfl⟩
   ·have hfin:taxes.length≤k→ltB (lcB (gP1 ⟨key,1,day,ticket,coupon,status,locator,coupons,taxes,amount,frm,til⟩) 12 coupons coupons.length) taxes k=(gP1 ⟨key,1,day,ticket,coupon,status,locator,coupons,taxes,amount,frm,til⟩&&Gf 12 coupons&&Dv taxes):=fun h=>by
     obtain rfl:k=taxes.length:=by omega
     rw[Sd,Mu]
    have hcode:k<taxes.length→ -9223372036854775808≤fz k (0+Int.toNat (k:Int)) (taxes.getD (0+Int.toNat (k:Int)) default).code:=fun h=>by
     rw[G7 (by omega),Nat.zero_add];exact Sg hft h
    have hfz:fz k (0+Int.toNat (k:Int)) (taxes.getD (0+Int.toNat (k:Int)) default).code=(taxes.getD k default).code:=by
     rw[G7 (by omega),Nat.zero_add];rfl
    (conv=>whnf)
    (repeat' ((first
     |(with_reducible refine Ac ?_)
     |(exact absurd (by with_reducible assumption) Bool.false_ne_true)
     |((with_reducible apply Bv);(focus rfl);(focus rfl))
     |((with_reducible apply Bt);(focus rfl);(focus rfl);(focus rfl))
     |((with_reducible apply Eb);(focus rfl);(focus rfl);(focus rfl))
     |((refine⟨rfl,_,?_,rfl⟩);(try simp only[A9,Cs,Bw,cond_true,cond_false,Bool.true_and,Bool.and_false,Bool.false_and,List.length_nil])<;>first|rfl|exact Cy (by omega)|exact Cz (by omega)|exact C0 (by omega)|(rename_i hh;(try simp only[List.length_nil] at hh);first|(rw[hh];first|rfl|(simp;done))|(rw[hh.1,hh.2];first|rfl|(simp;done))|(simp[hh];done)|(rcases hh with hh|hh<;>first|(rw[hh];first|rfl|(simp;done))|(simp[hh];done))))
     |((with_reducible refine aI ?_ ?_);focus (first|exact tO|exact tK))
     |(split<;>rename_i hh<;>(try simp only[wS] at hh))
     |fail)<;>(conv=>whnf)))
    all_goals (try (show _=_;simp only[wQ]))
    ·(conv=>whnf)
     refine⟨(k+1:Nat),[],?_,⟨⟨rfl,(nB rfl),rfl⟩,?_,?_⟩⟩
     ·exact⟨show k+1≤taxes.length by omega,show taxes.length - (k+1)<taxes.length - k by omega⟩
     ·(conv=>whnf)
      (repeat' ((first|with_reducible exact⟨⟩|((with_reducible refine aI ?_ ?_);focus (exact tA))|with_reducible refine iA ?_ ?_|fail)<;>(conv=>whnf)))
      all_goals (try simp only[wQ])
      all_goals (try first|omega)
      all_goals (unfold Gz;rw[if_neg (by omega),Nat.add_sub_cancel];split<;>omega)
     ·(conv=>whnf)
      (repeat' ((first|with_reducible exact⟨⟩|((with_reducible refine Or.inr ?_);rfl)|((with_reducible refine aI ?_ ?_);focus (exact tA))|with_reducible refine iA ?_ ?_|with_reducible refine iL ?_ ?_|with_reducible refine iB ?_ ?_|fail)<;>(conv=>whnf)))
      all_goals (try simp only[wQ])
      all_goals (try first|omega|rfl|exact⟨fun h=>h,fun _ _=>True.intro⟩)
      all_goals (try first|exact fun _ _=>⟨True.intro,rfl⟩)
      ·intro e he
       refine⟨?_,rfl⟩
       simp only[Dq,decide_true,if_true,decide_eq_true_eq]
       by_cases h1:e=k
       ·subst h1
        simp only[if_pos (show e=0+Int.toNat (e:Int) by omega)]
        rw[Lm];simp only[Nat.zero_add,Int.toNat_natCast];rfl
       ·simp only[if_neg (show¬e=0+Int.toNat (k:Int) by omega)]
        rw[Ll h1]
      ·rw[I2 (by omega),Bool.eq_iff_iff]
       unfold D2
       simp only[Bool.and_eq_true,Bs,decide_eq_true_eq,Rl,decide_true,if_true,G7 (Nat.le_refl k),Nat.zero_add,Int.toNat_natCast,true_and,and_assoc,cond_true,cond_false]
      ·intro e he
       rcases(by omega:e=0∨e=1∨e=2∨e=3∨e=4) with rfl|rfl|rfl|rfl|rfl<;>exact⟨True.intro,rfl⟩
    ·(conv=>whnf)
     refine⟨(k+1:Nat),[],?_,⟨⟨rfl,(nB rfl),rfl⟩,?_,?_⟩⟩
     ·exact⟨show k+1≤taxes.length by omega,show taxes.length - (k+1)<taxes.length - k by omega⟩
     ·(conv=>whnf)
      (repeat' ((first|with_reducible exact⟨⟩|((with_reducible refine aI ?_ ?_);focus (exact tA))|with_reducible refine iA ?_ ?_|fail)<;>(conv=>whnf)))
      all_goals (try simp only[wQ])
      all_goals (try first|omega)
      all_goals (unfold Gz;rw[if_neg (by omega),Nat.add_sub_cancel];split<;>omega)
     ·(conv=>whnf)
      (repeat' ((first|with_reducible exact⟨⟩|((with_reducible refine Or.inr ?_);rfl)|((with_reducible refine aI ?_ ?_);focus (exact tA))|with_reducible refine iA ?_ ?_|with_reducible refine iL ?_ ?_|with_reducible refine iB ?_ ?_|fail)<;>(conv=>whnf)))
      all_goals (try simp only[wQ])
      all_goals (try first|omega|rfl|exact⟨fun h=>h,fun _ _=>True.intro⟩)
      all_goals (try first|exact fun _ _=>⟨True.intro,rfl⟩)
      ·intro e he
       refine⟨?_,rfl⟩
       simp only[Dq,decide_true,if_true,decide_eq_true_eq]
       by_cases h1:e=k
       ·subst h1
        simp only[if_pos (show e=0+Int.toNat (e:Int) by omega)]
        rw[Lm];simp only[Nat.zero_add,Int.toNat_natCast];rfl
       ·simp only[if_neg (show¬e=0+Int.toNat (k:Int) by omega)]
        rw[Ll h1]
      ·rw[I2 (by omega),Bool.eq_iff_iff]
       unfold D2
       simp only[Bool.and_eq_true,Bs,decide_eq_true_eq,Rl,decide_true,if_true,G7 (Nat.le_refl k),Nat.zero_add,Int.toNat_natCast,true_and,and_assoc,cond_true,cond_false]
      ·intro e he
       rcases(by omega:e=0∨e=1∨e=2∨e=3∨e=4) with rfl|rfl|rfl|rfl|rfl<;>exact⟨True.intro,rfl⟩
    ·refine⟨((⟨[],1,0,ticket,coupon,status,[],[],[],amount,frm,til⟩,⟨[],1,0,0,0,0,[],[],[],0,0,0⟩):Request × Request),True.intro,?_,?_⟩
     ·exact tL
     (conv=>whnf)
     all_goals (try (show _=_;simp only[wQ]))
     rw[cond_true,Bool.eq_iff_iff,A0,Jy]
     rw[hfin (by omega)] at hh
     simp only[Bool.and_eq_true,W5,Request.mk.injEq,true_and,and_true] at hh ⊢
     exact⟨fun h=>by simp_all,fun h=>by simp_all⟩
    ·symm
     refine Bool.eq_false_iff.2 fun hm=>?_
     rw[Jy] at hm
     rw[hfin (by omega)] at hh
     refine absurd hh ?_
     rw[Bool.not_eq_false]
     simp only[Bool.and_eq_true,W5]
     simp_all
def Aij:PC:=PC.of (fun r:Request=>[.agg r.enc]) (fun r=>(r.kind=1)∧¬r.coupons.length=0∧r.taxes=[]∧E1 r) (fun r=>.bool (sB (Ah r)))
def Y7:List AV→List Blk→Nat→Option LR:=fun cs H i=>cond (Nat.beq i 0) (some (.order [0,1,2,3,4,5,6,7,8,9,10,11,12,13,14,15,16,17])) ((fun cs H i=>cond (Nat.beq i 3) (some (.unroll 1)) none) cs H i)
def hY:List (FuncId × Ctr):=(229,inl TY Ug Ak (fun _=>false) (Y7) Tryz.f229)::Uf
def hZ:FuncId→Option Ctr:=Av Ak hY
theorem iE{W:World}(hW:Tabs W):Ad (Fw W) Tryz.prog hZ:=Ab Tryz.call229 (Af rfl Aq (B7 hW) (P3 hW) Tryz.func229 (Y7)) (P3 hW)
def Y8:List AV→List Blk→Nat→Option LR:=fun cs H i=>cond (Nat.beq i 1) (some (.order [0,1,3,4,2,6,5,7,8,9])) (none)
def Ui:List (FuncId × Ctr):=(140,inl TY hZ Ak (fun _=>false) (Y8) Tryz.f140)::hY
def Mw:FuncId→Option Ctr:=Av Ak Ui
theorem iG{W:World}(hW:Tabs W):Ad (Fw W) Tryz.prog Mw:=Ab Tryz.call140 (Af rfl Aq (B7 hW) (iE hW) Tryz.func140 (Y8)) (iE hW)
def Y9(r:Request):List AV→List Blk→Nat→Option LR:=fun cs H i=>cond (Nat.beq i 0) (some (.order [0,1,2,3,4,5,6,7,8,9,10,11,12,13,14,15,16,17,18])) (cond (Nat.beq i 6) (some (.order [0,1,2,3,4,5,6,7,8,9,10,11,12,13,14,15])) ((fun cs H i=>cond (Nat.beq i 2) (some (.inv (Aif (gP1 r) 12 r cs H))) none) cs H i))
def iH(r:Request):List (FuncId × Ctr):=(277,inl TY (Mw) Ak (fun _=>false) (Y9 r) Tryz.f277)::Ui
def iI(r:Request):FuncId→Option Ctr:=Av Ak (iH r)
def iJ(r:Request):List (FuncId × Ctr):=(228,inl TY (iI r) Ak (fun _=>false) (fun _ _ _=>none) Tryz.f228)::iH r
def iM(r:Request):FuncId→Option Ctr:=Av Ak (iJ r)
def iO(r:Request):List (FuncId × Ctr):=(234,inl TY (iM r) Ak (fun _=>false) (fun _ _ _=>none) Tryz.f234)::iJ r
def iP(r:Request):FuncId→Option Ctr:=Av Ak (iO r)
def iR(r:Request):List (FuncId × Ctr):=(164,inl TY (iP r) Ak (fun _=>false) (fun _ _ _=>none) Tryz.f164)::iO r
def iV(r:Request):FuncId→Option Ctr:=Av Ak (iR r)
def Za(r:Request):List AV→List Blk→Nat→Option LR:=fun _ _ i=>cond (Nat.beq i 2) (some (.unroll 7)) none
def Acw(r:Request):List (FuncId × Ctr):=(141,inl TY (iV r) Ak (fun _=>false) (Za r) Tryz.f141)::iR r
def iW(r:Request):FuncId→Option Ctr:=Av Ak (Acw r)
set_option maxHeartbeats 4000000 in
theorem Aik{W:World}(hW:Tabs W):GoodP (Fw W) Tryz.prog 71 Aij:=by
 have hD:=B7 hW
 have hC18:∀ r:Request,Ad (Fw W) Tryz.prog Mw:=fun r=>(iG hW)
 have hC19:∀ r:Request,Ad (Fw W) Tryz.prog (iI r):=fun r=>Ab Tryz.call277 (Af rfl Aq hD (hC18 r) Tryz.func277 (Y9 r)) (hC18 r)
 have hC20:∀ r:Request,Ad (Fw W) Tryz.prog (iM r):=fun r=>Ab Tryz.call228 (Af rfl Aq hD (hC19 r) Tryz.func228 (fun _ _ _=>none)) (hC19 r)
 have hC21:∀ r:Request,Ad (Fw W) Tryz.prog (iP r):=fun r=>Ab Tryz.call234 (Af rfl Aq hD (hC20 r) Tryz.func234 (fun _ _ _=>none)) (hC20 r)
 have hC22:∀ r:Request,Ad (Fw W) Tryz.prog (iV r):=fun r=>Ab Tryz.call164 (Af rfl Aq hD (hC21 r) Tryz.func164 (fun _ _ _=>none)) (hC21 r)
 have hC23:∀ r:Request,Ad (Fw W) Tryz.prog (iW r):=fun r=>Ab Tryz.call141 (Af rfl Aq hD (hC22 r) Tryz.func141 (Za r)) (hC22 r)
 refine Ax (D:=Ak) (C:=fun r=>iW r) (wr:=(fun _=>false)) rfl Aq hD hC23 Tryz.func71 (fun _ _=>none) (fun _=>rfl) ?_
 rintro⟨key,kind,day,ticket,coupon,status,locator,coupons,taxes,amount,frm,til⟩ hf hp
 have hft:Bl [slE 2 Tax.enc taxes]:=⟨hf.1.2.2.2.2.2.2.2.2.1,True.intro⟩
 clear hf
 obtain⟨hk,hcn,htn,hp1,hp2⟩:=hp
 dsimp only at hk hcn htn hp1 hp2
 subst htn
 rcases hk with rfl
 have hex: ¬Ce 1=[]:=by rw[Cc (by decide)];decide
 have hca: ¬0+coupons.length≤0:=by omega
 (conv=>whnf)
 (repeat' ((first
  |(with_reducible refine Ac ?_)
  |(exact absurd (by with_reducible assumption) hex)
  |(exact absurd (by with_reducible assumption) hcn)
  |(exact absurd (by with_reducible assumption) hca)
  |with_reducible refine iQ ?_ ?_
  |((with_reducible refine aI ?_ ?_);focus (first|with_reducible exact⟨⟩|((with_reducible show okQ _ _=true);rfl)|(simp only[Ag,ty2,ty3,ty4,ty5,ty9,Cn,Ch,Co,Ci,Cl,Cp,Cq,Cr,Bf,Bc,Bg,Bd,Bh,Bi,Bj];first|omega|(refine⟨?_,?_⟩<;>omega))))
  |(split<;>rename_i hh<;>(try simp only[wS] at hh))
  |fail)<;>(conv=>whnf)))
 refine⟨([]:List Tax),Nat.zero_le _,?_,?_⟩
 ·exact Aj _
 (conv=>whnf)
 (repeat' ((first
  |(with_reducible refine Ac ?_)
  |((with_reducible apply Bv);(focus rfl);(focus rfl))
  |((with_reducible apply Bt);(focus rfl);(focus rfl);(focus rfl))
  |((refine⟨rfl,_,?_,rfl⟩);(try simp only[A9,Cs,Bw,cond_true,cond_false,Bool.true_and,Bool.and_false,Bool.false_and,List.length_nil])<;>first|rfl|exact Cy (by omega)|exact Cz (by omega)|exact C0 (by omega)|(rename_i hh;(try simp only[List.length_nil] at hh);first|(rw[hh];first|rfl|(simp;done))|(rw[hh.1,hh.2];first|rfl|(simp;done))|(simp[hh];done)|(rcases hh with hh|hh<;>first|(rw[hh];first|rfl|(simp;done))|(simp[hh];done))))
  |with_reducible refine iQ ?_ ?_
  |((with_reducible refine aI ?_ ?_);focus (first|with_reducible exact⟨⟩|exact tO|((with_reducible show okQ _ _=true);rfl)|omega|exact tK))
  |(split<;>rename_i hh<;>(try simp only[wS] at hh))
  |with_reducible refine lnI fun hln=>?_
  |fail)<;>(conv=>whnf)))
 refine⟨?_,fun(i:Nat) (hi:i≤coupons.length)=>?_⟩
 ·(conv=>whnf)
  refine⟨(0:Nat),[],?_,⟨⟨rfl,(nB rfl),rfl⟩,?_,?_⟩⟩
  ·exact Nat.zero_le _
  ·exact tL
  ·(conv=>whnf)
   (repeat' ((first|with_reducible exact⟨⟩|((with_reducible refine Or.inr ?_);rfl)|((with_reducible refine aI ?_ ?_);focus (exact tA))|with_reducible refine iA ?_ ?_|with_reducible refine iL ?_ ?_|with_reducible refine iB ?_ ?_|fail)<;>(conv=>whnf)))
   all_goals (try simp only[wQ])
   all_goals (try first|omega|rfl|exact⟨fun h=>h,fun _ _=>True.intro⟩)
   ·intro e he
    refine⟨?_,rfl⟩
    show Bu 0 _ _ e=_
    unfold Bu
    rw[if_neg (by omega),Nat.sub_zero]
    simp only[dE,Lk]
   ·rw[Sb,Nat.zero_add];unfold gP1;rfl
   ·intro e he
    rcases(by omega:e=0∨e=1∨e=2∨e=3∨e=4) with rfl|rfl|rfl|rfl|rfl<;>exact⟨True.intro,rfl⟩
 ·(conv=>whnf)
  (repeat' ((first
   |(with_reducible refine Ac ?_)
   |((with_reducible apply Bv);(focus rfl);(focus rfl))
   |((with_reducible apply Bt);(focus rfl);(focus rfl);(focus rfl))
   |((with_reducible apply Eb);(focus rfl);(focus rfl);(focus rfl))
   |(refine Lg ?_)
   |((refine⟨rfl,_,?_,rfl⟩);(try simp only[A9,Cs,Bw,cond_true,cond_false,Bool.true_and,Bool.and_false,Bool.false_and,List.length_nil])<;>first|rfl|exact Cy (by omega)|exact Cz (by omega)|exact C0 (by omega)|(rename_i hh;(try simp only[List.length_nil] at hh);first|(rw[hh];first|rfl|(simp;done))|(rw[hh.1,hh.2];first|rfl|(simp;done))|(simp[hh];done)|(rcases hh with hh|hh<;>first|(rw[hh];first|rfl|(simp;done))|(simp[hh];done))))
   |with_reducible refine iQ ?_ ?_
   |((with_reducible refine aI ?_ ?_);focus (first|((with_reducible show okQ _ _=true);rfl)|omega|exact tK))
   |(split<;>rename_i hh<;>(try simp only[wS] at hh))
   |with_reducible refine lnI fun hln=>?_
   |fail)<;>(conv=>whnf)))
  all_goals (try (show _=_;simp only[wQ]))
  ·(conv=>whnf)
   refine⟨(i+1:Nat),[],?_,⟨⟨rfl,(nB rfl),rfl⟩,?_,?_⟩⟩
   ·exact⟨show i+1≤coupons.length by omega,show coupons.length - (i+1)<coupons.length - i by omega⟩
   ·exact tL
   ·(conv=>whnf)
    (repeat' ((first|with_reducible exact⟨⟩|((with_reducible refine Or.inr ?_);rfl)|((with_reducible refine aI ?_ ?_);focus (exact tA))|with_reducible refine iA ?_ ?_|with_reducible refine iL ?_ ?_|with_reducible refine iB ?_ ?_|fail)<;>(conv=>whnf)))
    all_goals (try simp only[wQ])
    all_goals (try first|omega|rfl|exact⟨fun h=>h,fun _ _=>True.intro⟩)
    ·intro e he
     refine⟨?_,rfl⟩
     simp only[Dq,decide_true,if_true,decide_eq_true_eq]
     by_cases h1:e=i
     ·subst h1
      simp only[if_pos (show e=0+Int.toNat (e:Int) by omega)]
      rw[W4];simp only[Nat.zero_add,Int.toNat_natCast];rfl
     ·simp only[if_neg (show¬e=0+Int.toNat (i:Int) by omega)]
      rw[W3 h1]
    ·rw[Sf (by omega),Bool.eq_iff_iff]
     simp only[Bool.and_eq_true,Bs,Nn,beq_iff_eq,Rl,decide_true,if_true,G7 (Nat.le_refl i),Nat.zero_add,Int.toNat_natCast,true_and,and_assoc,cond_true,cond_false]
    ·intro e he
     rcases(by omega:e=0∨e=1∨e=2∨e=3∨e=4) with rfl|rfl|rfl|rfl|rfl<;>exact⟨True.intro,rfl⟩
  ·obtain rfl:i=coupons.length:=by omega
   have hfin:Dc (lcB (gP1 ⟨key,1,day,ticket,coupon,status,locator,coupons,[],amount,frm,til⟩) 12 coupons coupons.length) 0 ([]:List Tax).length 4=(gP1 ⟨key,1,day,ticket,coupon,status,locator,coupons,[],amount,frm,til⟩&&Gf 12 coupons&&Dv []):=by
    rw[Mu,No,Bool.and_true,Bool.eq_iff_iff];simp[Bs]
   refine⟨((⟨[],1,0,ticket,coupon,status,[],[],[],amount,frm,til⟩,⟨[],1,0,0,0,0,[],[],[],0,0,0⟩):Request × Request),True.intro,?_,?_⟩
   ·exact tL
   (conv=>whnf)
   all_goals (try (show _=_;simp only[wQ]))
   rw[cond_true,Bool.eq_iff_iff,A0,Jy]
   rw[hfin] at hh
   simp only[Bool.and_eq_true,W5,Request.mk.injEq,true_and,and_true] at hh ⊢
   exact⟨fun h=>by simp_all,fun h=>by simp_all⟩
  ·obtain rfl:i=coupons.length:=by omega
   have hfin:Dc (lcB (gP1 ⟨key,1,day,ticket,coupon,status,locator,coupons,[],amount,frm,til⟩) 12 coupons coupons.length) 0 ([]:List Tax).length 4=(gP1 ⟨key,1,day,ticket,coupon,status,locator,coupons,[],amount,frm,til⟩&&Gf 12 coupons&&Dv []):=by
    rw[Mu,No,Bool.and_true,Bool.eq_iff_iff];simp[Bs]
   symm
   refine Bool.eq_false_iff.2 fun hm=>?_
   rw[Jy] at hm
   rw[hfin] at hh
   refine absurd hh ?_
   rw[Bool.not_eq_false]
   simp only[Bool.and_eq_true,W5]
   simp_all
def Ail:PC:=PC.of (fun r:Request=>[.agg r.enc]) (fun r=>(r.kind=1)∧r.coupons=[]∧¬r.taxes.length=0∧E1 r) (fun r=>.bool (sB (Ah r)))
def iY:List (FuncId × Ctr):=(212,inl TY P2 Ak (fun _=>false) (fun _ _ _=>none) Tryz.f212)::P1
def iZ:FuncId→Option Ctr:=Av Ak iY
theorem jA{W:World}(hW:Tabs W):Ad (Fw W) Tryz.prog iZ:=Ab Tryz.call212 (Af rfl Aq (B7 hW) (J0 hW) Tryz.func212 (fun _ _ _=>none)) (J0 hW)
def Zb:List AV→List Blk→Nat→Option LR:=fun cs H i=>cond (Nat.beq i 0) (some (.order [0,1,2,3,4,5,6,7,8,9,10,11,12,13,14,15,16,17,18])) (cond (Nat.beq i 6) (some (.order [0,1,2,3,4,5,6,7,8,9,10,11,12,13,14,15])) ((fun cs H i=>cond (Nat.beq i 2) (some (.unroll 1)) none) cs H i))
def jB:List (FuncId × Ctr):=(277,inl TY iZ Ak (fun _=>false) (Zb) Tryz.f277)::iY
def jC:FuncId→Option Ctr:=Av Ak jB
theorem jD{W:World}(hW:Tabs W):Ad (Fw W) Tryz.prog jC:=Ab Tryz.call277 (Af rfl Aq (B7 hW) (jA hW) Tryz.func277 (Zb)) (jA hW)
def jE:List (FuncId × Ctr):=(228,inl TY jC Ak (fun _=>false) (fun _ _ _=>none) Tryz.f228)::jB
def jF:FuncId→Option Ctr:=Av Ak jE
theorem jG{W:World}(hW:Tabs W):Ad (Fw W) Tryz.prog jF:=Ab Tryz.call228 (Af rfl Aq (B7 hW) (jD hW) Tryz.func228 (fun _ _ _=>none)) (jD hW)
def jH:List (FuncId × Ctr):=(234,inl TY jF Ak (fun _=>false) (fun _ _ _=>none) Tryz.f234)::jE
def jI:FuncId→Option Ctr:=Av Ak jH
theorem jJ{W:World}(hW:Tabs W):Ad (Fw W) Tryz.prog jI:=Ab Tryz.call234 (Af rfl Aq (B7 hW) (jG hW) Tryz.func234 (fun _ _ _=>none)) (jG hW)
def Zc:List AV→List Blk→Nat→Option LR:=fun cs H i=>cond (Nat.beq i 1) (some (.order [0,1,3,4,2,6,5,7,8,9])) (none)
def Uj:List (FuncId × Ctr):=(140,inl TY jI Ak (fun _=>false) (Zc) Tryz.f140)::jH
def Mx:FuncId→Option Ctr:=Av Ak Uj
theorem jK{W:World}(hW:Tabs W):Ad (Fw W) Tryz.prog Mx:=Ab Tryz.call140 (Af rfl Aq (B7 hW) (jJ hW) Tryz.func140 (Zc)) (jJ hW)
def Zd(r:Request):List AV→List Blk→Nat→Option LR:=fun cs H i=>cond (Nat.beq i 0) (some (.order [0,1,2,3,4,5,6,7,8,9,10,11,12,13,14,15,16,17])) ((fun cs H i=>cond (Nat.beq i 3) (some (.inv (Aig (Dc (gP1 r) 1 0 12) r cs H))) none) cs H i)
def jL(r:Request):List (FuncId × Ctr):=(229,inl TY (Mx) Ak (fun _=>false) (Zd r) Tryz.f229)::Uj
def jM(r:Request):FuncId→Option Ctr:=Av Ak (jL r)
def jN(r:Request):List (FuncId × Ctr):=(164,inl TY (jM r) Ak (fun _=>false) (fun _ _ _=>none) Tryz.f164)::jL r
def jO(r:Request):FuncId→Option Ctr:=Av Ak (jN r)
def Ze(r:Request):List AV→List Blk→Nat→Option LR:=fun _ _ i=>cond (Nat.beq i 2) (some (.unroll 7)) none
def Acx(r:Request):List (FuncId × Ctr):=(141,inl TY (jO r) Ak (fun _=>false) (Ze r) Tryz.f141)::jN r
def jP(r:Request):FuncId→Option Ctr:=Av Ak (Acx r)
set_option maxHeartbeats 4000000 in
theorem Aim{W:World}(hW:Tabs W):GoodP (Fw W) Tryz.prog 71 Ail:=by
 have hD:=B7 hW
 have hC20:∀ r:Request,Ad (Fw W) Tryz.prog Mx:=fun r=>(jK hW)
 have hC21:∀ r:Request,Ad (Fw W) Tryz.prog (jM r):=fun r=>Ab Tryz.call229 (Af rfl Aq hD (hC20 r) Tryz.func229 (Zd r)) (hC20 r)
 have hC22:∀ r:Request,Ad (Fw W) Tryz.prog (jO r):=fun r=>Ab Tryz.call164 (Af rfl Aq hD (hC21 r) Tryz.func164 (fun _ _ _=>none)) (hC21 r)
 have hC23:∀ r:Request,Ad (Fw W) Tryz.prog (jP r):=fun r=>Ab Tryz.call141 (Af rfl Aq hD (hC22 r) Tryz.func141 (Ze r)) (hC22 r)
 refine Ax (D:=Ak) (C:=fun r=>jP r) (wr:=(fun _=>false)) rfl Aq hD hC23 Tryz.func71 (fun _ _=>none) (fun _=>rfl) ?_
 rintro⟨key,kind,day,ticket,coupon,status,locator,coupons,taxes,amount,frm,til⟩ hf hp
 have hft:Bl [slE 2 Tax.enc taxes]:=⟨hf.1.2.2.2.2.2.2.2.2.1,True.intro⟩
 clear hf
 obtain⟨hk,hcn,htn,hp1,hp2⟩:=hp
 dsimp only at hk hcn htn hp1 hp2
 subst hcn
 rcases hk with rfl
 have hex: ¬Ce 1=[]:=by rw[Cc (by decide)];decide
 have hta: ¬0+taxes.length≤0:=by omega
 (conv=>whnf)
 (repeat' ((first
  |(with_reducible refine Ac ?_)
  |(exact absurd (by with_reducible assumption) hex)
  |((with_reducible refine aI ?_ ?_);focus (first|with_reducible exact⟨⟩|((with_reducible show okQ _ _=true);rfl)))
  |(split<;>rename_i hh<;>(try simp only[wS] at hh))
  |fail)<;>(conv=>whnf)))
 refine⟨([]:List Coupon),Nat.zero_le _,?_,?_⟩
 ·exact Aj _
 (conv=>whnf)
 (repeat' ((first
  |(with_reducible refine Ac ?_)
  |(exact absurd (by with_reducible assumption) htn)
  |(exact absurd (by with_reducible assumption) hta)
  |((with_reducible apply Bv);(focus rfl);(focus rfl))
  |((with_reducible apply Bt);(focus rfl);(focus rfl);(focus rfl))
  |((refine⟨rfl,_,?_,rfl⟩);(try simp only[A9,Cs,Bw,cond_true,cond_false,Bool.true_and,Bool.and_false,Bool.false_and,List.length_nil])<;>first|rfl|exact Cy (by omega)|exact Cz (by omega)|exact C0 (by omega)|(rename_i hh;(try simp only[List.length_nil] at hh);first|(rw[hh];first|rfl|(simp;done))|(rw[hh.1,hh.2];first|rfl|(simp;done))|(simp[hh];done)|(rcases hh with hh|hh<;>first|(rw[hh];first|rfl|(simp;done))|(simp[hh];done))))
  |with_reducible refine iQ ?_ ?_
  |((with_reducible refine aI ?_ ?_);focus (first|with_reducible exact⟨⟩|exact tO|((with_reducible show okQ _ _=true);rfl)|omega|exact tK|(simp only[Ag,ty2,ty3,ty4,ty5,ty9,Cn,Ch,Co,Ci,Cl,Cp,Cq,Cr,Bf,Bc,Bg,Bd,Bh,Bi,Bj];first|omega|(refine⟨?_,?_⟩<;>omega))))
  |(split<;>rename_i hh<;>(try simp only[wS] at hh))
  |with_reducible refine lnI fun hln=>?_
  |fail)<;>(conv=>whnf)))
 refine⟨?_,fun(k:Nat) (hk:k≤taxes.length)=>?_⟩
 ·(conv=>whnf)
  refine⟨(0:Nat),[],?_,⟨⟨rfl,(nB rfl),rfl⟩,?_,?_⟩⟩
  ·exact Nat.zero_le _
  ·(conv=>whnf)
   (repeat' ((first|with_reducible exact⟨⟩|((with_reducible refine aI ?_ ?_);focus (exact tA))|with_reducible refine iA ?_ ?_|fail)<;>(conv=>whnf)))
   all_goals (try simp only[wQ])
   all_goals (try first|omega)
   all_goals exact(Ln _).symm
  ·(conv=>whnf)
   (repeat' ((first|with_reducible exact⟨⟩|((with_reducible refine Or.inr ?_);rfl)|((with_reducible refine aI ?_ ?_);focus (exact tA))|with_reducible refine iA ?_ ?_|with_reducible refine iL ?_ ?_|with_reducible refine iB ?_ ?_|fail)<;>(conv=>whnf)))
   all_goals (try simp only[wQ])
   all_goals (try first|omega|rfl|exact⟨fun h=>h,fun _ _=>True.intro⟩)
   ·intro e he
    refine⟨?_,rfl⟩
    show Bu 0 _ _ e=_
    unfold Bu
    rw[if_neg (by omega),Nat.sub_zero]
    simp only[dF,Lk]
   ·rw[Sc,Nat.zero_add];unfold gP1;rfl
   ·intro e he
    rcases(by omega:e=0∨e=1∨e=2∨e=3∨e=4) with rfl|rfl|rfl|rfl|rfl<;>exact⟨True.intro,rfl⟩
 ·have hfin:taxes.length≤k→ltB (Dc (gP1 ⟨key,1,day,ticket,coupon,status,locator,[],taxes,amount,frm,til⟩) 1 0 12) taxes k=((Dc (gP1 ⟨key,1,day,ticket,coupon,status,locator,[],taxes,amount,frm,til⟩) 1 0 12)&&Dv taxes):=fun h=>by
   obtain rfl:k=taxes.length:=by omega
   rw[Sd]
  have hcode:k<taxes.length→ -9223372036854775808≤fz k (0+Int.toNat (k:Int)) (taxes.getD (0+Int.toNat (k:Int)) default).code:=fun h=>by
   rw[G7 (by omega),Nat.zero_add];exact Sg hft h
  have hfz:fz k (0+Int.toNat (k:Int)) (taxes.getD (0+Int.toNat (k:Int)) default).code=(taxes.getD k default).code:=by
   rw[G7 (by omega),Nat.zero_add];rfl
  (conv=>whnf)
  (repeat' ((first
   |(with_reducible refine Ac ?_)
   |(exact absurd (by with_reducible assumption) Bool.false_ne_true)
   |((with_reducible apply Bv);(focus rfl);(focus rfl))
   |((with_reducible apply Bt);(focus rfl);(focus rfl);(focus rfl))
   |((with_reducible apply Eb);(focus rfl);(focus rfl);(focus rfl))
   |((refine⟨rfl,_,?_,rfl⟩);(try simp only[A9,Cs,Bw,cond_true,cond_false,Bool.true_and,Bool.and_false,Bool.false_and,List.length_nil])<;>first|rfl|exact Cy (by omega)|exact Cz (by omega)|exact C0 (by omega)|(rename_i hh;(try simp only[List.length_nil] at hh);first|(rw[hh];first|rfl|(simp;done))|(rw[hh.1,hh.2];first|rfl|(simp;done))|(simp[hh];done)|(rcases hh with hh|hh<;>first|(rw[hh];first|rfl|(simp;done))|(simp[hh];done))))
   |((with_reducible refine aI ?_ ?_);focus (first|exact tO|exact tK))
   |(split<;>rename_i hh<;>(try simp only[wS] at hh))
   |fail)<;>(conv=>whnf)))
  all_goals (try (show _=_;simp only[wQ]))
  ·(conv=>whnf)
   refine⟨(k+1:Nat),[],?_,⟨⟨rfl,(nB rfl),rfl⟩,?_,?_⟩⟩
   ·exact⟨show k+1≤taxes.length by omega,show taxes.length - (k+1)<taxes.length - k by omega⟩
   ·(conv=>whnf)
    (repeat' ((first|with_reducible exact⟨⟩|((with_reducible refine aI ?_ ?_);focus (exact tA))|with_reducible refine iA ?_ ?_|fail)<;>(conv=>whnf)))
    all_goals (try simp only[wQ])
    all_goals (try first|omega)
    all_goals (unfold Gz;rw[if_neg (by omega),Nat.add_sub_cancel];split<;>omega)
   ·(conv=>whnf)
    (repeat' ((first|with_reducible exact⟨⟩|((with_reducible refine Or.inr ?_);rfl)|((with_reducible refine aI ?_ ?_);focus (exact tA))|with_reducible refine iA ?_ ?_|with_reducible refine iL ?_ ?_|with_reducible refine iB ?_ ?_|fail)<;>(conv=>whnf)))
    all_goals (try simp only[wQ])
    all_goals (try first|omega|rfl|exact⟨fun h=>h,fun _ _=>True.intro⟩)
    ·intro e he
     refine⟨?_,rfl⟩
     simp only[Dq,decide_true,if_true,decide_eq_true_eq]
     by_cases h1:e=k
     ·subst h1
      simp only[if_pos (show e=0+Int.toNat (e:Int) by omega)]
      rw[Lm];simp only[Nat.zero_add,Int.toNat_natCast];rfl
     ·simp only[if_neg (show¬e=0+Int.toNat (k:Int) by omega)]
      rw[Ll h1]
    ·rw[I2 (by omega),Bool.eq_iff_iff]
     unfold D2
     simp only[Bool.and_eq_true,Bs,decide_eq_true_eq,Rl,decide_true,if_true,G7 (Nat.le_refl k),Nat.zero_add,Int.toNat_natCast,true_and,and_assoc,cond_true,cond_false]
    ·intro e he
     rcases(by omega:e=0∨e=1∨e=2∨e=3∨e=4) with rfl|rfl|rfl|rfl|rfl<;>exact⟨True.intro,rfl⟩
  ·(conv=>whnf)
   refine⟨(k+1:Nat),[],?_,⟨⟨rfl,(nB rfl),rfl⟩,?_,?_⟩⟩
   ·exact⟨show k+1≤taxes.length by omega,show taxes.length - (k+1)<taxes.length - k by omega⟩
   ·(conv=>whnf)
    (repeat' ((first|with_reducible exact⟨⟩|((with_reducible refine aI ?_ ?_);focus (exact tA))|with_reducible refine iA ?_ ?_|fail)<;>(conv=>whnf)))
    all_goals (try simp only[wQ])
    all_goals (try first|omega)
    all_goals (unfold Gz;rw[if_neg (by omega),Nat.add_sub_cancel];split<;>omega)
   ·(conv=>whnf)
    (repeat' ((first|with_reducible exact⟨⟩|((with_reducible refine Or.inr ?_);rfl)|((with_reducible refine aI ?_ ?_);focus (exact tA))|with_reducible refine iA ?_ ?_|with_reducible refine iL ?_ ?_|with_reducible refine iB ?_ ?_|fail)<;>(conv=>whnf)))
    all_goals (try simp only[wQ])
    all_goals (try first|omega|rfl|exact⟨fun h=>h,fun _ _=>True.intro⟩)
    ·intro e he
     refine⟨?_,rfl⟩
     simp only[Dq,decide_true,if_true,decide_eq_true_eq]
     by_cases h1:e=k
     ·subst h1
      simp only[if_pos (show e=0+Int.toNat (e:Int) by omega)]
      rw[Lm];simp only[Nat.zero_add,Int.toNat_natCast];rfl
     ·simp only[if_neg (show¬e=0+Int.toNat (k:Int) by omega)]
      rw[Ll h1]
    ·rw[I2 (by omega),Bool.eq_iff_iff]
     unfold D2
     simp only[Bool.and_eq_true,Bs,decide_eq_true_eq,Rl,decide_true,if_true,G7 (Nat.le_refl k),Nat.zero_add,Int.toNat_natCast,true_and,and_assoc,cond_true,cond_false]
    ·intro e he
     rcases(by omega:e=0∨e=1∨e=2∨e=3∨e=4) with rfl|rfl|rfl|rfl|rfl<;>exact⟨True.intro,rfl⟩
  ·exfalso
   rw[hfin (by omega)] at hh
   simp only[Bool.and_eq_true,Bs,List.length_nil] at hh
   omega
  ·symm
   refine Bool.eq_false_iff.2 fun hm=>?_
   rw[Jy] at hm
   exact P0 (m:=12) (by simp only[hm])
def Ain:PC:=PC.of (fun r:Request=>[.agg r.enc]) (fun r=>(r.kind=1)∧r.coupons=[]∧r.taxes=[]∧E1 r) (fun r=>.bool (sB (Ah r)))
def jQ:List (FuncId × Ctr):=(140,inl TY P2 Ak (fun _=>false) (fun _ _ _=>none) Tryz.f140)::P1
def jR:FuncId→Option Ctr:=Av Ak jQ
theorem jS{W:World}(hW:Tabs W):Ad (Fw W) Tryz.prog jR:=Ab Tryz.call140 (Af rfl Aq (B7 hW) (J0 hW) Tryz.func140 (fun _ _ _=>none)) (J0 hW)
def Zf:List AV→List Blk→Nat→Option LR:=fun cs H i=>cond (Nat.beq i 0) (some (.order [0,1,2,3,4,5,6,7,8,9,10,11,12,13,14,15,16,17,18])) (cond (Nat.beq i 6) (some (.order [0,1,2,3,4,5,6,7,8,9,10,11,12,13,14,15])) ((fun cs H i=>cond (Nat.beq i 2) (some (.unroll 1)) none) cs H i))
def jT:List (FuncId × Ctr):=(277,inl TY jR Ak (fun _=>false) (Zf) Tryz.f277)::jQ
def jU:FuncId→Option Ctr:=Av Ak jT
theorem jV{W:World}(hW:Tabs W):Ad (Fw W) Tryz.prog jU:=Ab Tryz.call277 (Af rfl Aq (B7 hW) (jS hW) Tryz.func277 (Zf)) (jS hW)
def Zg:List AV→List Blk→Nat→Option LR:=fun cs H i=>cond (Nat.beq i 0) (some (.order [0,1,2,3,4,5,6,7,8,9,10,11,12,13,14,15,16,17])) ((fun cs H i=>cond (Nat.beq i 3) (some (.unroll 1)) none) cs H i)
def jY:List (FuncId × Ctr):=(229,inl TY jU Ak (fun _=>false) (Zg) Tryz.f229)::jT
def jZ:FuncId→Option Ctr:=Av Ak jY
theorem kA{W:World}(hW:Tabs W):Ad (Fw W) Tryz.prog jZ:=Ab Tryz.call229 (Af rfl Aq (B7 hW) (jV hW) Tryz.func229 (Zg)) (jV hW)
def kB:List (FuncId × Ctr):=(228,inl TY jZ Ak (fun _=>false) (fun _ _ _=>none) Tryz.f228)::jY
def kC:FuncId→Option Ctr:=Av Ak kB
theorem kD{W:World}(hW:Tabs W):Ad (Fw W) Tryz.prog kC:=Ab Tryz.call228 (Af rfl Aq (B7 hW) (kA hW) Tryz.func228 (fun _ _ _=>none)) (kA hW)
def kE:List (FuncId × Ctr):=(234,inl TY kC Ak (fun _=>false) (fun _ _ _=>none) Tryz.f234)::kB
def kF:FuncId→Option Ctr:=Av Ak kE
theorem kG{W:World}(hW:Tabs W):Ad (Fw W) Tryz.prog kF:=Ab Tryz.call234 (Af rfl Aq (B7 hW) (kD hW) Tryz.func234 (fun _ _ _=>none)) (kD hW)
def kH:List (FuncId × Ctr):=(164,inl TY kF Ak (fun _=>false) (fun _ _ _=>none) Tryz.f164)::kE
def kI:FuncId→Option Ctr:=Av Ak kH
theorem kJ{W:World}(hW:Tabs W):Ad (Fw W) Tryz.prog kI:=Ab Tryz.call164 (Af rfl Aq (B7 hW) (kG hW) Tryz.func164 (fun _ _ _=>none)) (kG hW)
def Zh:List AV→List Blk→Nat→Option LR:=fun _ _ i=>cond (Nat.beq i 2) (some (.unroll 7)) none
def Acy:List (FuncId × Ctr):=(141,inl TY kI Ak (fun _=>false) (Zh) Tryz.f141)::kH
def My:FuncId→Option Ctr:=Av Ak Acy
theorem kK{W:World}(hW:Tabs W):Ad (Fw W) Tryz.prog My:=Ab Tryz.call141 (Af rfl Aq (B7 hW) (kJ hW) Tryz.func141 (Zh)) (kJ hW)
set_option maxHeartbeats 4000000 in
theorem Aio{W:World}(hW:Tabs W):GoodP (Fw W) Tryz.prog 71 Ain:=by
 have hD:=B7 hW
 have hC0:∀ r:Request,Ad (Fw W) Tryz.prog My:=fun r=>(kK hW)
 refine Ax (D:=Ak) (C:=fun r=>My) (wr:=(fun _=>false)) rfl Aq hD hC0 Tryz.func71 (fun _ _=>none) (fun _=>rfl) ?_
 rintro⟨key,kind,day,ticket,coupon,status,locator,coupons,taxes,amount,frm,til⟩ hf hp
 have hft:Bl [slE 2 Tax.enc taxes]:=⟨hf.1.2.2.2.2.2.2.2.2.1,True.intro⟩
 clear hf
 obtain⟨hk,hcn,htn,hp1,hp2⟩:=hp
 dsimp only at hk hcn htn hp1 hp2
 subst hcn
 subst htn
 rcases hk with rfl
 have hex: ¬Ce 1=[]:=by rw[Cc (by decide)];decide
 (conv=>whnf)
 (repeat' ((first
  |(with_reducible refine Ac ?_)
  |(exact absurd (by with_reducible assumption) hex)
  |((with_reducible refine aI ?_ ?_);focus (with_reducible exact⟨⟩))
  |(split<;>rename_i hh<;>(try simp only[wS] at hh))
  |fail)<;>(conv=>whnf)))
 refine⟨([]:List Coupon),Nat.zero_le _,?_,?_⟩
 ·exact Aj _
 (conv=>whnf)
 refine⟨([]:List Tax),Nat.zero_le _,?_,?_⟩
 ·exact Aj _
 (conv=>whnf)
 (repeat' ((first
  |(with_reducible refine Ac ?_)
  |((with_reducible apply Bv);(focus rfl);(focus rfl))
  |((with_reducible apply Bt);(focus rfl);(focus rfl);(focus rfl))
  |((refine⟨rfl,_,?_,rfl⟩);(try simp only[A9,Cs,Bw,cond_true,cond_false,Bool.true_and,Bool.and_false,Bool.false_and,List.length_nil])<;>first|rfl|exact Cy (by omega)|exact Cz (by omega)|exact C0 (by omega)|(rename_i hh;(try simp only[List.length_nil] at hh);first|(rw[hh];first|rfl|(simp;done))|(rw[hh.1,hh.2];first|rfl|(simp;done))|(simp[hh];done)|(rcases hh with hh|hh<;>first|(rw[hh];first|rfl|(simp;done))|(simp[hh];done))))
  |with_reducible refine iQ ?_ ?_
  |((with_reducible refine aI ?_ ?_);focus (first|with_reducible exact⟨⟩|exact tO|((with_reducible show okQ _ _=true);rfl)|omega|exact tK))
  |(split<;>rename_i hh<;>(try simp only[wS] at hh))
  |with_reducible refine lnI fun hln=>?_
  |fail)<;>(conv=>whnf)))
 all_goals (try (show _=_;simp only[wQ]))
 ·exfalso
  simp only[Bool.and_eq_true,Bs,List.length_nil] at hh
  omega
 ·symm
  refine Bool.eq_false_iff.2 fun hm=>?_
  rw[Jy] at hm
  exact P0 (m:=12) (by simp only[hm])
end
end Go.Vc.Z
