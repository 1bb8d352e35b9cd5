/- request.May, of the kind issue. -/
import Derived.Test.YtpmpclbdnakniaaGreatDoorV19
set_option linter.all false
set_option maxHeartbeats 8000000
namespace Go.Vc.Z
open Go Go.Vc Go.Proofs Go.RowKit Go.Pl Go.Lib
@[irreducible] def lcB(g:Bool)(m:Int)(l:List Coupon)(i:Nat):Bool:=C6 g 1 l.length m&&(l.take i).all (Gg · 0)
@[irreducible] def ltB(g:Bool)(l:List Tax)(i:Nat):Bool:=C6 g 0 l.length 4&&Co 1 (l.take i)
@[irreducible] def I3(l:List Tax)(i:Nat):Int:=if i=0 then 1 else(if (l.getD (i - 1) default).code≤99 then(l.getD (i - 1) default).code else 99)+1
@[irreducible] def fz(i e:Nat)(v:Int):Int:=if e<i then 0 else v
theorem Pz(e:Nat)(v:Int):fz 0 e v=v:=by unfold fz;rw[if_neg (Nat.not_lt_zero _)]
theorem Je{i e:Nat}(h:i≤e)(v:Int):fz i e v=v:=by unfold fz;rw[if_neg (by omega)]
theorem Azh{i e:Nat}(h:e<i)(v:Int):fz i e v=0:=by unfold fz;rw[if_pos h]
def rX(i e:Nat)(c:Coupon):List AV:=[.int .i64 (fz i e c.flight),.int .i64 (fz i e c.day),.int .i64 (fz i e c.value),.int .i64 c.status,.int .i64 c.holder,.int .u64 c.next]
def rY(i e:Nat)(c:Tax):List AV:=[.int .i64 (fz i e c.code),.int .i64 (fz i e c.amount)]
def A5s(H:List Blk)(k:Option Nat)(f:Nat→List AV):List Blk:=match k with
 |none=>H
 |some k=>(match H[k]? with|some (.row sz len _ T)=>H.set k (.row sz len f T)|_=>H)
def Auc(g:Bool)(m:Int)(r:Request)(cs:List AV)(H:List Blk):LoopSpec:={
 α:=Nat
 keep:=[0,31,32]
 vals i:=[.ptr (Afc cs) 0,.int .i64 r.coupons.length,.int .i64 i]
 heap i:=A5s (setCell H (Afc cs) 2 (.bool (lcB g m r.coupons i))) (Aq0 H cs 7) (fun e=>rX i e (r.coupons.getD e default))++[.dead]
 ok i:=i≤r.coupons.length
 μ i:=r.coupons.length - i }
def Aud(g:Bool)(r:Request)(cs:List AV)(H:List Blk):LoopSpec:={
 α:=Nat
 keep:=[0,2,30,31]
 vals i:=[.ptr (Afc cs) 0,.int .i64 (I3 r.taxes i),.int .i64 r.taxes.length,.int .i64 i]
 heap i:=A5s (setCell H (Afc cs) 2 (.bool (ltB g r.taxes i))) (Aq0 H cs 8) (fun e=>rY i e (r.taxes.getD e default))++[.dead]
 ok i:=i≤r.taxes.length
 μ i:=r.taxes.length - i }
@[irreducible] def gP5(r:Request):Bool:=C6 (C6 (C6 true 1 r.key.length 16&&F3 r.key) 0 r.day 1000000&&eqI (checkN r.ticket) 0) 0 r.amount 1000000000000
@[irreducible] def gP1(r:Request):Bool:=C6 (C6 true 1 r.key.length 16&&F3 r.key) 0 r.day 1000000&&Gb r.locator
theorem Azi{i e:Nat}(h:e≠i)(v:Int):fz i e v=fz (i+1) e v:=by unfold fz;split<;>split<;>first|rfl|omega
theorem iW{i e:Nat}(h:e≠i)(c:Coupon):rX i e c=rX (i+1) e c:=by simp only[rX,Azi h]
theorem iY(i:Nat)(c:Coupon):rX (i+1) i c=[.int .i64 0,.int .i64 0,.int .i64 0,.int .i64 c.status,.int .i64 c.holder,.int .u64 c.next]:=by simp only[rX,Azh (Nat.lt_succ_self i)]
theorem P0{i e:Nat}(h:e≠i)(c:Tax):rY i e c=rY (i+1) e c:=by simp only[rY,Azi h]
theorem P1(i:Nat)(c:Tax):rY (i+1) i c=[.int .i64 0,.int .i64 0]:=by simp only[rY,Azh (Nat.lt_succ_self i)]
theorem Z6(g:Bool)(m:Int)(l:List Coupon):lcB g m l 0=C6 g 1 l.length m:=by unfold lcB;simp
theorem Z7(g:Bool)(l:List Tax):ltB g l 0=C6 g 0 l.length 4:=by unfold ltB;simp[Co]
theorem P2(l:List Tax):I3 l 0=1:=by unfold I3;rfl
theorem Rl(g:Bool)(m:Int)(l:List Coupon):lcB g m l l.length=(g&&E5 m l):=by
 unfold lcB E5;rw[List.take_length,Bool.eq_iff_iff];simp only[Bool.and_eq_true,Br,decide_eq_true_eq];constructor
 ·rintro⟨⟨h1,h2,h3⟩,h4⟩;exact⟨h1,⟨h4,by omega⟩,h3⟩
 ·rintro⟨h1,⟨h4,h2⟩,h3⟩;exact⟨⟨h1,by omega,h3⟩,h4⟩
theorem Z8(g:Bool)(l:List Tax):ltB g l l.length=(g&&C0 l):=by
 unfold ltB C0;rw[List.take_length,Bool.eq_iff_iff];simp only[Bool.and_eq_true,Br,decide_eq_true_eq];constructor
 ·rintro⟨⟨h1,h2,h3⟩,h4⟩;exact⟨h1,h4,by omega⟩
 ·rintro⟨h1,h4,h2⟩;exact⟨⟨h1,by omega,by omega⟩,h4⟩
theorem Sv{c:Coupon}:Gg c 0=true↔(1≤c.flight∧c.flight≤9999)∧(0≤c.day∧c.day≤1000000)∧(0≤c.value∧c.value≤1000000000000)∧c.status=0∧c.holder=0∧c.next=0:=by
 unfold Gg F0 C2;simp only[Bool.and_eq_true,decide_eq_true_eq,and_assoc]
theorem Z9{g:Bool}{m:Int}{l:List Coupon}{i:Nat}(h:i<l.length):lcB g m l (i+1)=(lcB g m l i&&Gg (l.getD i default) 0):=by
 unfold lcB;rw[List.take_add_one,List.all_append,List.getElem?_eq_getElem h,List.getD_eq_getElem?_getD,List.getElem?_eq_getElem h,Bool.and_assoc];simp
def lY:Int→List Tax→Int
 |n,[]=>n
 |_,y::l=>lY (y.code+1) l
theorem lZ:∀ (l:List Tax) (n:Int) (x:Tax),lY n (l++[x])=x.code+1
 |[],_,_=>rfl
 |y::l,n,x=>by rw[List.cons_append,lY,lZ l]
theorem Oq:∀ (l:List Tax) (n:Int) (x:Tax),Co n (l++[x])=(Co n l&&(decide (lY n l≤x.code)&&decide (x.code≤99)&&C2 x.amount))
 |[],n,x=>by simp only[List.nil_append,Co,lY,Bool.and_true,Bool.true_and]<;>rfl
 |y::l,n,x=>by rw[List.cons_append,Co,Oq l,Co];simp only[lY,Bool.and_assoc]<;>rfl
theorem uS{l:List Tax}{i:Nat}(h:i<l.length):l.take (i+1)=l.take i++[l.getD i default]:=by
 rw[List.take_add_one,List.getElem?_eq_getElem h,List.getD_eq_getElem?_getD,List.getElem?_eq_getElem h];rfl
theorem Af1{l:List Tax}:∀ {i:Nat},i≤l.length→Co 1 (l.take i)=true→lY 1 (l.take i)=I3 l i
 |0,_,_=>by unfold I3;rfl
 |i+1,h,ht=>by
  rw[uS (by omega)] at ht ⊢
  rw[Oq] at ht;simp only[Bool.and_eq_true,decide_eq_true_eq] at ht;rw[lZ];unfold I3;rw[if_neg (by omega),Nat.add_sub_cancel,if_pos ht.2.1.2]
theorem L1{g:Bool}{l:List Tax}{i:Nat}(h:i<l.length):ltB g l (i+1)=(ltB g l i&&(decide (I3 l i≤(l.getD i default).code)&&decide ((l.getD i default).code≤99)&&C2 (l.getD i default).amount)):=by
 unfold ltB;rw[uS h,Oq,Bool.and_assoc];cases ht:Co 1 (l.take i) with
 |false=>simp
 |true=>rw[Af1 (by omega) ht];simp[Bool.and_assoc]
theorem iZ{r:Request}:gP1 r=true↔F3 r.key=true∧(0≤r.day∧r.day≤1000000)∧Gb r.locator=true:=by
 unfold gP1;simp only[Bool.and_eq_true,Br,true_and];constructor
 ·rintro⟨⟨⟨_,h1⟩,h2⟩,h3⟩;exact⟨h1,h2,h3⟩
 ·rintro⟨h1,h2,h3⟩;have:=Ii h1;exact⟨⟨⟨⟨by omega,by omega⟩,h1⟩,h2⟩,h3⟩
theorem jA{r:Request}:gP5 r=true↔F3 r.key=true∧(0≤r.day∧r.day≤1000000)∧checkN r.ticket=0∧(0≤r.amount∧r.amount≤1000000000000):=by
 unfold gP5;simp only[Bool.and_eq_true,Br,true_and,Ca,beq_iff_eq];constructor
 ·rintro⟨⟨⟨⟨_,h1⟩,h2⟩,h3⟩,h4⟩;exact⟨h1,h2,h3,h4⟩
 ·rintro⟨h1,h2,h3,h4⟩;have:=Ii h1;exact⟨⟨⟨⟨⟨by omega,by omega⟩,h1⟩,h2⟩,h3⟩,h4⟩
theorem Wh{m:Int}: ¬E5 m []=true:=fun h=>by have:=(D7 h).1;simp at this
theorem Sw:C0 []=true:=by unfold C0;rfl
theorem aA{l:List Tax}(h:Az [slE 2 Tax.enc l]){k:Nat}(hk:k<l.length): -9223372036854775808≤(l.getD k default).code:=by
 simp only[Az,Bd,and_true] at h;have:=(h.2 k hk).2.1;exact(Aw.1 this).1
noncomputable section
set_option maxRecDepth 100000
attribute [local irreducible] inK Utf8.decode Utf8.encode Lib.itoa Pl.worth Pl.allDig
attribute [local irreducible] Lib.join
def Aue:PC:=PC.of (fun r:Request=>[.agg r.enc]) (fun r=>(r.kind=1)∧¬r.coupons.length=0∧¬r.taxes.length=0∧Eh r) (fun r=>.bool (sB (Af r)))
def Ak:PT:=Cg [(73,lI),(127,V8),(142,Pu),(195,Q4),(211,lP),(212,lV),(275,Uv)]
theorem B6{W:World}(hW:Tabs W):Cb (Fw W) Tryz.prog Ak:=(Ab Tryz.call73 (Jy hW) (Ab Tryz.call127 (N2 hW) (Ab Tryz.call142 (Oo hW) (Ab Tryz.call195 (Q5 hW) (Ab Tryz.call211 (D4 hW) (Ab Tryz.call212 (Fi hW) (Ab Tryz.call275 (Re hW) Aq)))))))
def Aly:FuncId→Option Ctr:=Av Ak []
theorem Alz{W:World}(hW:Tabs W):Ad (Fw W) Tryz.prog Aly:=(Ar (B6 hW))
def Af2:List (FuncId × Ctr):=(298,Wt TY Aly Ak (fun _=>false) (fun _ _ _=>none) Tryz.f298)::[]
def Af3:FuncId→Option Ctr:=Av Ak Af2
theorem Af4{W:World}(hW:Tabs W):Ad (Fw W) Tryz.prog Af3:=Ae Tryz.call298 (V6 rfl Ao (B6 hW) (Alz hW) Tryz.func298 (fun _ _ _=>none)) (Alz hW)
def Af5:List (FuncId × Ctr):=(273,Wt TY Af3 Ak (fun _=>false) (fun _ _ _=>none) Tryz.f273)::Af2
def Af6:FuncId→Option Ctr:=Av Ak Af5
theorem Af7{W:World}(hW:Tabs W):Ad (Fw W) Tryz.prog Af6:=Ae Tryz.call273 (V6 rfl Ao (B6 hW) (Af4 hW) Tryz.func273 (fun _ _ _=>none)) (Af4 hW)
def Af8:List (FuncId × Ctr):=(260,inl TY Af6 Ak (fun _=>false) (fun _ _ _=>none) Tryz.f260)::Af5
def Af9:FuncId→Option Ctr:=Av Ak Af8
theorem Aga{W:World}(hW:Tabs W):Ad (Fw W) Tryz.prog Af9:=Ae Tryz.call260 (Ah rfl Ao (B6 hW) (Af7 hW) Tryz.func260 (fun _ _ _=>none)) (Af7 hW)
def Agb:List (FuncId × Ctr):=(276,inl TY Af9 Ak (fun _=>false) (fun _ _ _=>none) Tryz.f276)::Af8
def Agc:FuncId→Option Ctr:=Av Ak Agb
theorem Agd{W:World}(hW:Tabs W):Ad (Fw W) Tryz.prog Agc:=Ae Tryz.call276 (Ah rfl Ao (B6 hW) (Aga hW) Tryz.func276 (fun _ _ _=>none)) (Aga hW)
def Age:List (FuncId × Ctr):=(279,inl TY Agc Ak (fun _=>false) (fun _ _ _=>none) Tryz.f279)::Agb
def Agf:FuncId→Option Ctr:=Av Ak Age
theorem Agg{W:World}(hW:Tabs W):Ad (Fw W) Tryz.prog Agf:=Ae Tryz.call279 (Ah rfl Ao (B6 hW) (Agd hW) Tryz.func279 (fun _ _ _=>none)) (Agd hW)
def Agh:List (FuncId × Ctr):=(254,inl TY Agf Ak (fun _=>false) (fun _ _ _=>none) Tryz.f254)::Age
def Agi:FuncId→Option Ctr:=Av Ak Agh
theorem Agj{W:World}(hW:Tabs W):Ad (Fw W) Tryz.prog Agi:=Ae Tryz.call254 (Ah rfl Ao (B6 hW) (Agg hW) Tryz.func254 (fun _ _ _=>none)) (Agg hW)
def Agk:List (FuncId × Ctr):=(274,inl TY Agi Ak (fun _=>false) (fun _ _ _=>none) Tryz.f274)::Agh
def Agl:FuncId→Option Ctr:=Av Ak Agk
theorem Agm{W:World}(hW:Tabs W):Ad (Fw W) Tryz.prog Agl:=Ae Tryz.call274 (Ah rfl Ao (B6 hW) (Agj hW) Tryz.func274 (fun _ _ _=>none)) (Agj hW)
def Agn:List (FuncId × Ctr):=(258,inl TY Agl Ak (fun _=>false) (fun _ _ _=>none) Tryz.f258)::Agk
def Ago:FuncId→Option Ctr:=Av Ak Agn
theorem Agp{W:World}(hW:Tabs W):Ad (Fw W) Tryz.prog Ago:=Ae Tryz.call258 (Ah rfl Ao (B6 hW) (Agm hW) Tryz.func258 (fun _ _ _=>none)) (Agm hW)
def Agq:List (FuncId × Ctr):=(278,inl TY Ago Ak (fun _=>false) (fun _ _ _=>none) Tryz.f278)::Agn
def Agr:FuncId→Option Ctr:=Av Ak Agq
theorem Ags{W:World}(hW:Tabs W):Ad (Fw W) Tryz.prog Agr:=Ae Tryz.call278 (Ah rfl Ao (B6 hW) (Agp hW) Tryz.func278 (fun _ _ _=>none)) (Agp hW)
def uT:List (FuncId × Ctr):=(305,inl TY Agr Ak (fun _=>false) (fun _ _ _=>none) Tryz.f305)::Agq
def uU:FuncId→Option Ctr:=Av Ak uT
theorem uV{W:World}(hW:Tabs W):Ad (Fw W) Tryz.prog uU:=Ae Tryz.call305 (Ah rfl Ao (B6 hW) (Ags hW) Tryz.func305 (fun _ _ _=>none)) (Ags hW)
def uW:List (FuncId × Ctr):=(225,inl TY uU Ak (fun _=>false) (fun _ _ _=>none) Tryz.f225)::uT
def uX:FuncId→Option Ctr:=Av Ak uW
theorem uY{W:World}(hW:Tabs W):Ad (Fw W) Tryz.prog uX:=Ae Tryz.call225 (Ah rfl Ao (B6 hW) (uV hW) Tryz.func225 (fun _ _ _=>none)) (uV hW)
def uZ:List (FuncId × Ctr):=(226,inl TY uX Ak (fun _=>false) (fun _ _ _=>none) Tryz.f226)::uW
def vA:FuncId→Option Ctr:=Av Ak uZ
theorem vB{W:World}(hW:Tabs W):Ad (Fw W) Tryz.prog vA:=Ae Tryz.call226 (Ah rfl Ao (B6 hW) (uY hW) Tryz.func226 (fun _ _ _=>none)) (uY hW)
def vC:List (FuncId × Ctr):=(230,inl TY vA Ak (fun _=>false) (fun _ _ _=>none) Tryz.f230)::uZ
def vD:FuncId→Option Ctr:=Av Ak vC
theorem vE{W:World}(hW:Tabs W):Ad (Fw W) Tryz.prog vD:=Ae Tryz.call230 (Ah rfl Ao (B6 hW) (vB hW) Tryz.func230 (fun _ _ _=>none)) (vB hW)
def vF:List (FuncId × Ctr):=(233,inl TY vD Ak (fun _=>false) (fun _ _ _=>none) Tryz.f233)::vC
def vG:FuncId→Option Ctr:=Av Ak vF
theorem vH{W:World}(hW:Tabs W):Ad (Fw W) Tryz.prog vG:=Ae Tryz.call233 (Ah rfl Ao (B6 hW) (vE hW) Tryz.func233 (fun _ _ _=>none)) (vE hW)
def Wi:List (FuncId × Ctr):=(227,inl TY vG Ak (fun _=>false) (fun _ _ _=>none) Tryz.f227)::vF
def Wj:FuncId→Option Ctr:=Av Ak Wi
theorem Nq{W:World}(hW:Tabs W):Ad (Fw W) Tryz.prog Wj:=Ae Tryz.call227 (Ah rfl Ao (B6 hW) (vH hW) Tryz.func227 (fun _ _ _=>none)) (vH hW)
def cP:List (FuncId × Ctr):=(211,inl TY Wj Ak (fun _=>false) (fun _ _ _=>none) Tryz.f211)::Wi
def cQ:FuncId→Option Ctr:=Av Ak cP
theorem Wk{W:World}(hW:Tabs W):Ad (Fw W) Tryz.prog cQ:=Ae Tryz.call211 (Ah rfl Ao (B6 hW) (Nq hW) Tryz.func211 (fun _ _ _=>none)) (Nq hW)
def vI:List (FuncId × Ctr):=(212,inl TY cQ Ak (fun _=>false) (fun _ _ _=>none) Tryz.f212)::cP
def vJ:FuncId→Option Ctr:=Av Ak vI
theorem vK{W:World}(hW:Tabs W):Ad (Fw W) Tryz.prog vJ:=Ae Tryz.call212 (Ah rfl Ao (B6 hW) (Wk hW) Tryz.func212 (fun _ _ _=>none)) (Wk hW)
def mB:List AV→List Blk→Nat→Option LR:=fun cs H i=>cond (Nat.beq i 1) (some (.order [0,1,3,4,2,6,5,7,8,9])) (none)
def cR:List (FuncId × Ctr):=(140,inl TY vJ Ak (fun _=>false) (mB) Tryz.f140)::vI
def Rm:FuncId→Option Ctr:=Av Ak cR
theorem vL{W:World}(hW:Tabs W):Ad (Fw W) Tryz.prog Rm:=Ae Tryz.call140 (Ah rfl Ao (B6 hW) (vK hW) Tryz.func140 (mB)) (vK hW)
def mE(r:Request):List AV→List Blk→Nat→Option LR:=fun cs H i=>cond (Nat.beq i 0) (some (.order [0,1,2,3,4,5,6,7,8,9,10,11,12,13,14,15,16,17,18])) (cond (Nat.beq i 6) (some (.order [0,1,2,3,4,5,6,7,8,9,10,11,12,13,14,15])) ((fun cs H i=>cond (Nat.beq i 2) (some (.inv (Auc (gP1 r) 12 r cs H))) none) cs H i))
def vM(r:Request):List (FuncId × Ctr):=(277,inl TY (Rm) Ak (fun _=>false) (mE r) Tryz.f277)::cR
def vN(r:Request):FuncId→Option Ctr:=Av Ak (vM r)
def mF(r:Request):List AV→List Blk→Nat→Option LR:=fun cs H i=>cond (Nat.beq i 0) (some (.order [0,1,2,3,4,5,6,7,8,9,10,11,12,13,14,15,16,17])) ((fun cs H i=>cond (Nat.beq i 3) (some (.inv (Aud (lcB (gP1 r) 12 r.coupons r.coupons.length) r cs H))) none) cs H i)
def vO(r:Request):List (FuncId × Ctr):=(229,inl TY (vN r) Ak (fun _=>false) (mF r) Tryz.f229)::vM r
def vP(r:Request):FuncId→Option Ctr:=Av Ak (vO r)
def vQ(r:Request):List (FuncId × Ctr):=(228,inl TY (vP r) Ak (fun _=>false) (fun _ _ _=>none) Tryz.f228)::vO r
def vR(r:Request):FuncId→Option Ctr:=Av Ak (vQ r)
def vS(r:Request):List (FuncId × Ctr):=(234,inl TY (vR r) Ak (fun _=>false) (fun _ _ _=>none) Tryz.f234)::vQ r
def vT(r:Request):FuncId→Option Ctr:=Av Ak (vS r)
def vU(r:Request):List (FuncId × Ctr):=(164,inl TY (vT r) Ak (fun _=>false) (fun _ _ _=>none) Tryz.f164)::vS r
def vV(r:Request):FuncId→Option Ctr:=Av Ak (vU r)
def mG(r:Request):List AV→List Blk→Nat→Option LR:=fun _ _ i=>cond (Nat.beq i 2) (some (.unroll 7)) none
def Ant(r:Request):List (FuncId × Ctr):=(141,inl TY (vV r) Ak (fun _=>false) (mG r) Tryz.f141)::vU r
def vW(r:Request):FuncId→Option Ctr:=Av Ak (Ant r)
theorem Auf{W:World}(hW:Tabs W):GoodP (Fw W) Tryz.prog 71 Aue:=by
 have hD:=B6 hW;have hC18:∀ r:Request,Ad (Fw W) Tryz.prog Rm:=fun r=>(vL hW);have hC19:∀ r:Request,Ad (Fw W) Tryz.prog (vN r):=fun r=>Ae Tryz.call277 (Ah rfl Ao hD (hC18 r) Tryz.func277 (mE r)) (hC18 r);have hC20:∀ r:Request,Ad (Fw W) Tryz.prog (vP r):=fun r=>Ae Tryz.call229 (Ah rfl Ao hD (hC19 r) Tryz.func229 (mF r)) (hC19 r);have hC21:∀ r:Request,Ad (Fw W) Tryz.prog (vR r):=fun r=>Ae Tryz.call228 (Ah rfl Ao hD (hC20 r) Tryz.func228 (fun _ _ _=>none)) (hC20 r);have hC22:∀ r:Request,Ad (Fw W) Tryz.prog (vT r):=fun r=>Ae Tryz.call234 (Ah rfl Ao hD (hC21 r) Tryz.func234 (fun _ _ _=>none)) (hC21 r)
 have hC23:∀ r:Request,Ad (Fw W) Tryz.prog (vV r):=fun r=>Ae Tryz.call164 (Ah rfl Ao hD (hC22 r) Tryz.func164 (fun _ _ _=>none)) (hC22 r);have hC24:∀ r:Request,Ad (Fw W) Tryz.prog (vW r):=fun r=>Ae Tryz.call141 (Ah rfl Ao hD (hC23 r) Tryz.func141 (mG r)) (hC23 r);refine As (D:=Ak) (C:=fun r=>vW r) (wr:=(fun _=>false)) rfl Ao hD hC24 Tryz.func71 (fun _ _=>none) (fun _=>rfl) ?_;rintro⟨key,kind,day,ticket,coupon,status,locator,coupons,taxes,amount,frm,til⟩ hf hp;have hft:Az [slE 2 Tax.enc taxes]:=⟨hf.1.2.2.2.2.2.2.2.2.1,True.intro⟩;clear hf;obtain⟨hk,hcn,htn,hp1,hp2⟩:=hp;dsimp only at hk hcn htn hp1 hp2
 rcases hk with rfl;have hex: ¬Cd 1=[]:=by rw[B8 (by decide)];decide
 have hca: ¬0+coupons.length≤0:=by omega
 have hta: ¬0+taxes.length≤0:=by omega
 (conv=>whnf)
 (repeat' (first|(with_reducible refine Ap ?_)|(exact absurd (by with_reducible assumption) hex)|(exact absurd (by with_reducible assumption) hcn)|(exact absurd (by with_reducible assumption) htn)|(exact absurd (by with_reducible assumption) hca)|(exact absurd (by with_reducible assumption) hta)|((with_reducible apply Bv);(focus rfl);(focus rfl))|((with_reducible apply Bs);(focus rfl);(focus rfl);(focus rfl))|exact tN|with_reducible refine iQ ?_ ?_|refine tuU ?_|split<;>rename_i hh<;>try simp only[wS] at hh|with_reducible refine lnI fun hln=>?_)<;>conv=>whnf)
 refine⟨?_,fun(i:Nat) (hi:i≤coupons.length)=>?_⟩
 ·(conv=>whnf)
  refine⟨(0:Nat),[],?_,⟨⟨rfl,(nB rfl),rfl⟩,?_,?_⟩⟩
  ·exact Nat.zero_le _
  ·exact tL
  ·(conv=>whnf)
   (repeat' (first|with_reducible exact⟨⟩|((with_reducible refine Or.inr ?_);rfl)|refine tuA ?_|with_reducible refine iA ?_ ?_|with_reducible refine iL ?_ ?_|with_reducible refine iB ?_ ?_)<;>conv=>whnf)
   all_goals try simp only[wQ]
   all_goals (try first|omega|rfl|exact⟨fun h=>h,fun _ _=>True.intro⟩)
   all_goals (try first|exact fun _ _=>⟨True.intro,rfl⟩)
   ·intro e he;refine⟨?_,rfl⟩;show Bq 0 _ _ e=_;unfold Bq;rw[if_neg (by omega),Nat.sub_zero]
    simp only[rX,Pz]
   ·rw[Z6,Nat.zero_add];unfold gP1;rfl
   ·intro e he;rcases(by omega:e=0∨e=1∨e=2∨e=3∨e=4) with rfl|rfl|rfl|rfl|rfl<;>exact⟨True.intro,rfl⟩
 ·(conv=>whnf)
  (repeat' (first|(with_reducible refine Ap ?_)|((with_reducible apply Bv);(focus rfl);(focus rfl))|((with_reducible apply Bs);(focus rfl);(focus rfl);(focus rfl))|((with_reducible apply D9);(focus rfl);(focus rfl);(focus rfl))|(refine Ps ?_)|exact tN|with_reducible refine iQ ?_ ?_|refine tuU ?_|split<;>rename_i hh<;>try simp only[wS] at hh|with_reducible refine lnI fun hln=>?_)<;>conv=>whnf)
  ·(conv=>whnf)
   refine⟨(i+1:Nat),[],?_,⟨⟨rfl,(nB rfl),rfl⟩,?_,?_⟩⟩
   ·exact⟨show i+1≤coupons.length by omega,show coupons.length - (i+1)<coupons.length - i by omega⟩
   ·exact tL
   ·(conv=>whnf)
    (repeat' (first|with_reducible exact⟨⟩|((with_reducible refine Or.inr ?_);rfl)|refine tuA ?_|with_reducible refine iA ?_ ?_|with_reducible refine iL ?_ ?_|with_reducible refine iB ?_ ?_)<;>conv=>whnf)
    all_goals try simp only[wQ]
    all_goals (try first|omega|rfl|exact⟨fun h=>h,fun _ _=>True.intro⟩)
    all_goals (try first|exact fun _ _=>⟨True.intro,rfl⟩)
    ·intro e he;refine⟨?_,rfl⟩;simp only[Dk,decide_true,if_true,decide_eq_true_eq];by_cases h1:e=i
     ·subst h1;simp only[if_pos (show e=0+Int.toNat (e:Int) by omega)]
      rw[iY];simp only[Nat.zero_add,Int.toNat_natCast];rfl
     ·simp only[if_neg (show¬e=0+Int.toNat (i:Int) by omega)]
      rw[iW h1]
    ·rw[Z9 (by omega),Bool.eq_iff_iff]
     simp only[Bool.and_eq_true,Br,Sv,beq_iff_eq,Y2,decide_true,if_true,Je (Nat.le_refl i),Nat.zero_add,Int.toNat_natCast,true_and,and_assoc,cond_true,cond_false]
    ·intro e he;rcases(by omega:e=0∨e=1∨e=2∨e=3∨e=4) with rfl|rfl|rfl|rfl|rfl<;>exact⟨True.intro,rfl⟩
  ·obtain rfl:i=coupons.length:=by omega
   refine⟨?_,fun(k:Nat) (hk:k≤taxes.length)=>?_⟩
   ·(conv=>whnf)
    refine⟨(0:Nat),[],?_,⟨⟨rfl,(nB rfl),rfl⟩,?_,?_⟩⟩
    ·exact Nat.zero_le _
    ·(conv=>whnf)
     (repeat' (first|with_reducible exact⟨⟩|refine tuA ?_|with_reducible refine iA ?_ ?_)<;>conv=>whnf)
     all_goals try simp only[wQ]
     all_goals (try first|omega)
     all_goals exact(P2 _).symm
    ·(conv=>whnf)
     (repeat' (first|with_reducible exact⟨⟩|((with_reducible refine Or.inr ?_);rfl)|refine tuA ?_|with_reducible refine iA ?_ ?_|with_reducible refine iL ?_ ?_|with_reducible refine iB ?_ ?_)<;>conv=>whnf)
     all_goals try simp only[wQ]
     all_goals (try first|omega|rfl|exact⟨fun h=>h,fun _ _=>True.intro⟩)
     all_goals (try first|exact fun _ _=>⟨True.intro,rfl⟩)
     ·intro e he;refine⟨?_,rfl⟩;show Bq 0 _ _ e=_;unfold Bq;rw[if_neg (by omega),Nat.sub_zero]
      simp only[rY,Pz]
     ·rw[Z7,Nat.zero_add]
     ·intro e he;rcases(by omega:e=0∨e=1∨e=2∨e=3∨e=4) with rfl|rfl|rfl|rfl|rfl<;>exact⟨True.intro,rfl⟩
   ·have hfin:taxes.length≤k→ltB (lcB (gP1 ⟨key,1,day,ticket,coupon,status,locator,coupons,taxes,amount,frm,til⟩) 12 coupons coupons.length) taxes k=(gP1 ⟨key,1,day,ticket,coupon,status,locator,coupons,taxes,amount,frm,til⟩&&E5 12 coupons&&C0 taxes):=fun h=>by
     obtain rfl:k=taxes.length:=by omega
     rw[Z8,Rl]
    have hcode:k<taxes.length→ -9223372036854775808≤fz k (0+Int.toNat (k:Int)) (taxes.getD (0+Int.toNat (k:Int)) default).code:=fun h=>by
     rw[Je (by omega),Nat.zero_add];exact aA hft h
    have hfz:fz k (0+Int.toNat (k:Int)) (taxes.getD (0+Int.toNat (k:Int)) default).code=(taxes.getD k default).code:=by
     rw[Je (by omega),Nat.zero_add];rfl
    (conv=>whnf)
    (repeat' (first|(with_reducible refine Ap ?_)|(exact absurd (by with_reducible assumption) Bool.false_ne_true)|((with_reducible apply Bv);(focus rfl);(focus rfl))|((with_reducible apply Bs);(focus rfl);(focus rfl);(focus rfl))|((with_reducible apply D9);(focus rfl);(focus rfl);(focus rfl))|exact tN|refine tuU ?_|split<;>rename_i hh<;>try simp only[wS] at hh)<;>conv=>whnf)
    all_goals try(show _=_;simp only[wQ])
    ·(conv=>whnf)
     refine⟨(k+1:Nat),[],?_,⟨⟨rfl,(nB rfl),rfl⟩,?_,?_⟩⟩
     ·exact⟨show k+1≤taxes.length by omega,show taxes.length - (k+1)<taxes.length - k by omega⟩
     ·(conv=>whnf)
      (repeat' (first|with_reducible exact⟨⟩|refine tuA ?_|with_reducible refine iA ?_ ?_)<;>conv=>whnf)
      all_goals try simp only[wQ]
      all_goals (try first|omega)
      all_goals (unfold I3;rw[if_neg (by omega),Nat.add_sub_cancel];split<;>omega)
     ·(conv=>whnf)
      (repeat' (first|with_reducible exact⟨⟩|((with_reducible refine Or.inr ?_);rfl)|refine tuA ?_|with_reducible refine iA ?_ ?_|with_reducible refine iL ?_ ?_|with_reducible refine iB ?_ ?_)<;>conv=>whnf)
      all_goals try simp only[wQ]
      all_goals (try first|omega|rfl|exact⟨fun h=>h,fun _ _=>True.intro⟩)
      all_goals (try first|exact fun _ _=>⟨True.intro,rfl⟩)
      ·intro e he;refine⟨?_,rfl⟩;simp only[Dk,decide_true,if_true,decide_eq_true_eq];by_cases h1:e=k
       ·subst h1;simp only[if_pos (show e=0+Int.toNat (e:Int) by omega)]
        rw[P1];simp only[Nat.zero_add,Int.toNat_natCast];rfl
       ·simp only[if_neg (show¬e=0+Int.toNat (k:Int) by omega)]
        rw[P0 h1]
      ·rw[L1 (by omega),Bool.eq_iff_iff]
       unfold C2;simp only[Bool.and_eq_true,Br,decide_eq_true_eq,Y2,decide_true,if_true,Je (Nat.le_refl k),Nat.zero_add,Int.toNat_natCast,true_and,and_assoc,cond_true,cond_false]
      ·intro e he;rcases(by omega:e=0∨e=1∨e=2∨e=3∨e=4) with rfl|rfl|rfl|rfl|rfl<;>exact⟨True.intro,rfl⟩
    ·(conv=>whnf)
     refine⟨(k+1:Nat),[],?_,⟨⟨rfl,(nB rfl),rfl⟩,?_,?_⟩⟩
     ·exact⟨show k+1≤taxes.length by omega,show taxes.length - (k+1)<taxes.length - k by omega⟩
     ·(conv=>whnf)
      (repeat' (first|with_reducible exact⟨⟩|refine tuA ?_|with_reducible refine iA ?_ ?_)<;>conv=>whnf)
      all_goals try simp only[wQ]
      all_goals (try first|omega)
      all_goals (unfold I3;rw[if_neg (by omega),Nat.add_sub_cancel];split<;>omega)
     ·(conv=>whnf)
      (repeat' (first|with_reducible exact⟨⟩|((with_reducible refine Or.inr ?_);rfl)|refine tuA ?_|with_reducible refine iA ?_ ?_|with_reducible refine iL ?_ ?_|with_reducible refine iB ?_ ?_)<;>conv=>whnf)
      all_goals try simp only[wQ]
      all_goals (try first|omega|rfl|exact⟨fun h=>h,fun _ _=>True.intro⟩)
      all_goals (try first|exact fun _ _=>⟨True.intro,rfl⟩)
      ·intro e he;refine⟨?_,rfl⟩;simp only[Dk,decide_true,if_true,decide_eq_true_eq];by_cases h1:e=k
       ·subst h1;simp only[if_pos (show e=0+Int.toNat (e:Int) by omega)]
        rw[P1];simp only[Nat.zero_add,Int.toNat_natCast];rfl
       ·simp only[if_neg (show¬e=0+Int.toNat (k:Int) by omega)]
        rw[P0 h1]
      ·rw[L1 (by omega),Bool.eq_iff_iff]
       unfold C2;simp only[Bool.and_eq_true,Br,decide_eq_true_eq,Y2,decide_true,if_true,Je (Nat.le_refl k),Nat.zero_add,Int.toNat_natCast,true_and,and_assoc,cond_true,cond_false]
      ·intro e he;rcases(by omega:e=0∨e=1∨e=2∨e=3∨e=4) with rfl|rfl|rfl|rfl|rfl<;>exact⟨True.intro,rfl⟩
    ·refine⟨((⟨[],1,0,ticket,coupon,status,[],[],[],amount,frm,til⟩,⟨[],1,0,0,0,0,[],[],[],0,0,0⟩):Request × Request),True.intro,?_,?_⟩
     ·exact tL
     (conv=>whnf)
     all_goals try(show _=_;simp only[wQ])
     rw[cond_true,Bool.eq_iff_iff,Bc,No];rw[hfin (by omega)] at hh
     simp only[Bool.and_eq_true,iZ,Request.mk.injEq,true_and,and_true] at hh ⊢;exact⟨fun h=>by simp_all,fun h=>by simp_all⟩
    ·symm;refine Bool.eq_false_iff.2 fun hm=>?_;rw[No] at hm;rw[hfin (by omega)] at hh
     refine absurd hh ?_;rw[Bool.not_eq_false];simp only[Bool.and_eq_true,iZ];simp_all
def Aug:PC:=PC.of (fun r:Request=>[.agg r.enc]) (fun r=>(r.kind=1)∧¬r.coupons.length=0∧r.taxes=[]∧Eh r) (fun r=>.bool (sB (Af r)))
def mH:List AV→List Blk→Nat→Option LR:=fun cs H i=>cond (Nat.beq i 0) (some (.order [0,1,2,3,4,5,6,7,8,9,10,11,12,13,14,15,16,17])) ((fun cs H i=>cond (Nat.beq i 3) (some (.unroll 1)) none) cs H i)
def vX:List (FuncId × Ctr):=(229,inl TY cQ Ak (fun _=>false) (mH) Tryz.f229)::cP
def vY:FuncId→Option Ctr:=Av Ak vX
theorem vZ{W:World}(hW:Tabs W):Ad (Fw W) Tryz.prog vY:=Ae Tryz.call229 (Ah rfl Ao (B6 hW) (Wk hW) Tryz.func229 (mH)) (Wk hW)
def mI:List AV→List Blk→Nat→Option LR:=fun cs H i=>cond (Nat.beq i 1) (some (.order [0,1,3,4,2,6,5,7,8,9])) (none)
def cS:List (FuncId × Ctr):=(140,inl TY vY Ak (fun _=>false) (mI) Tryz.f140)::vX
def Rn:FuncId→Option Ctr:=Av Ak cS
theorem wA{W:World}(hW:Tabs W):Ad (Fw W) Tryz.prog Rn:=Ae Tryz.call140 (Ah rfl Ao (B6 hW) (vZ hW) Tryz.func140 (mI)) (vZ hW)
def mM(r:Request):List AV→List Blk→Nat→Option LR:=fun cs H i=>cond (Nat.beq i 0) (some (.order [0,1,2,3,4,5,6,7,8,9,10,11,12,13,14,15,16,17,18])) (cond (Nat.beq i 6) (some (.order [0,1,2,3,4,5,6,7,8,9,10,11,12,13,14,15])) ((fun cs H i=>cond (Nat.beq i 2) (some (.inv (Auc (gP1 r) 12 r cs H))) none) cs H i))
def wB(r:Request):List (FuncId × Ctr):=(277,inl TY (Rn) Ak (fun _=>false) (mM r) Tryz.f277)::cS
def wC(r:Request):FuncId→Option Ctr:=Av Ak (wB r)
def wD(r:Request):List (FuncId × Ctr):=(228,inl TY (wC r) Ak (fun _=>false) (fun _ _ _=>none) Tryz.f228)::wB r
def wE(r:Request):FuncId→Option Ctr:=Av Ak (wD r)
def wF(r:Request):List (FuncId × Ctr):=(234,inl TY (wE r) Ak (fun _=>false) (fun _ _ _=>none) Tryz.f234)::wD r
def wG(r:Request):FuncId→Option Ctr:=Av Ak (wF r)
def wH(r:Request):List (FuncId × Ctr):=(164,inl TY (wG r) Ak (fun _=>false) (fun _ _ _=>none) Tryz.f164)::wF r
def wI(r:Request):FuncId→Option Ctr:=Av Ak (wH r)
def mO(r:Request):List AV→List Blk→Nat→Option LR:=fun _ _ i=>cond (Nat.beq i 2) (some (.unroll 7)) none
def Anu(r:Request):List (FuncId × Ctr):=(141,inl TY (wI r) Ak (fun _=>false) (mO r) Tryz.f141)::wH r
def wJ(r:Request):FuncId→Option Ctr:=Av Ak (Anu r)
theorem Auh{W:World}(hW:Tabs W):GoodP (Fw W) Tryz.prog 71 Aug:=by
 have hD:=B6 hW;have hC18:∀ r:Request,Ad (Fw W) Tryz.prog Rn:=fun r=>(wA hW);have hC19:∀ r:Request,Ad (Fw W) Tryz.prog (wC r):=fun r=>Ae Tryz.call277 (Ah rfl Ao hD (hC18 r) Tryz.func277 (mM r)) (hC18 r);have hC20:∀ r:Request,Ad (Fw W) Tryz.prog (wE r):=fun r=>Ae Tryz.call228 (Ah rfl Ao hD (hC19 r) Tryz.func228 (fun _ _ _=>none)) (hC19 r);have hC21:∀ r:Request,Ad (Fw W) Tryz.prog (wG r):=fun r=>Ae Tryz.call234 (Ah rfl Ao hD (hC20 r) Tryz.func234 (fun _ _ _=>none)) (hC20 r);have hC22:∀ r:Request,Ad (Fw W) Tryz.prog (wI r):=fun r=>Ae Tryz.call164 (Ah rfl Ao hD (hC21 r) Tryz.func164 (fun _ _ _=>none)) (hC21 r)
 have hC23:∀ r:Request,Ad (Fw W) Tryz.prog (wJ r):=fun r=>Ae Tryz.call141 (Ah rfl Ao hD (hC22 r) Tryz.func141 (mO r)) (hC22 r);refine As (D:=Ak) (C:=fun r=>wJ r) (wr:=(fun _=>false)) rfl Ao hD hC23 Tryz.func71 (fun _ _=>none) (fun _=>rfl) ?_;rintro⟨key,kind,day,ticket,coupon,status,locator,coupons,taxes,amount,frm,til⟩ hf hp;have hft:Az [slE 2 Tax.enc taxes]:=⟨hf.1.2.2.2.2.2.2.2.2.1,True.intro⟩;clear hf;obtain⟨hk,hcn,htn,hp1,hp2⟩:=hp;dsimp only at hk hcn htn hp1 hp2;subst htn;rcases hk with rfl;have hex: ¬Cd 1=[]:=by rw[B8 (by decide)];decide
 have hca: ¬0+coupons.length≤0:=by omega
 (conv=>whnf)
 (repeat' (first|(with_reducible refine Ap ?_)|(exact absurd (by with_reducible assumption) hex)|(exact absurd (by with_reducible assumption) hcn)|(exact absurd (by with_reducible assumption) hca)|with_reducible refine iQ ?_ ?_|refine tuU ?_|split<;>rename_i hh<;>try simp only[wS] at hh)<;>conv=>whnf)
 refine⟨([]:List Tax),Nat.zero_le _,?_,?_⟩
 ·exact Ac _
 (conv=>whnf)
 (repeat' (first|(with_reducible refine Ap ?_)|((with_reducible apply Bv);(focus rfl);(focus rfl))|((with_reducible apply Bs);(focus rfl);(focus rfl);(focus rfl))|exact tN|with_reducible refine iQ ?_ ?_|refine tuU ?_|split<;>rename_i hh<;>try simp only[wS] at hh|with_reducible refine lnI fun hln=>?_)<;>conv=>whnf)
 refine⟨?_,fun(i:Nat) (hi:i≤coupons.length)=>?_⟩
 ·(conv=>whnf)
  refine⟨(0:Nat),[],?_,⟨⟨rfl,(nB rfl),rfl⟩,?_,?_⟩⟩
  ·exact Nat.zero_le _
  ·exact tL
  ·(conv=>whnf)
   (repeat' (first|with_reducible exact⟨⟩|((with_reducible refine Or.inr ?_);rfl)|refine tuA ?_|with_reducible refine iA ?_ ?_|with_reducible refine iL ?_ ?_|with_reducible refine iB ?_ ?_)<;>conv=>whnf)
   all_goals try simp only[wQ]
   all_goals (try first|omega|rfl|exact⟨fun h=>h,fun _ _=>True.intro⟩)
   ·intro e he;refine⟨?_,rfl⟩;show Bq 0 _ _ e=_;unfold Bq;rw[if_neg (by omega),Nat.sub_zero]
    simp only[rX,Pz]
   ·rw[Z6,Nat.zero_add];unfold gP1;rfl
   ·intro e he;rcases(by omega:e=0∨e=1∨e=2∨e=3∨e=4) with rfl|rfl|rfl|rfl|rfl<;>exact⟨True.intro,rfl⟩
 ·(conv=>whnf)
  (repeat' (first|(with_reducible refine Ap ?_)|((with_reducible apply Bv);(focus rfl);(focus rfl))|((with_reducible apply Bs);(focus rfl);(focus rfl);(focus rfl))|((with_reducible apply D9);(focus rfl);(focus rfl);(focus rfl))|(refine Ps ?_)|exact tN|with_reducible refine iQ ?_ ?_|refine tuU ?_|split<;>rename_i hh<;>try simp only[wS] at hh|with_reducible refine lnI fun hln=>?_)<;>conv=>whnf)
  all_goals try(show _=_;simp only[wQ])
  ·(conv=>whnf)
   refine⟨(i+1:Nat),[],?_,⟨⟨rfl,(nB rfl),rfl⟩,?_,?_⟩⟩
   ·exact⟨show i+1≤coupons.length by omega,show coupons.length - (i+1)<coupons.length - i by omega⟩
   ·exact tL
   ·(conv=>whnf)
    (repeat' (first|with_reducible exact⟨⟩|((with_reducible refine Or.inr ?_);rfl)|refine tuA ?_|with_reducible refine iA ?_ ?_|with_reducible refine iL ?_ ?_|with_reducible refine iB ?_ ?_)<;>conv=>whnf)
    all_goals try simp only[wQ]
    all_goals (try first|omega|rfl|exact⟨fun h=>h,fun _ _=>True.intro⟩)
    ·intro e he;refine⟨?_,rfl⟩;simp only[Dk,decide_true,if_true,decide_eq_true_eq];by_cases h1:e=i
     ·subst h1;simp only[if_pos (show e=0+Int.toNat (e:Int) by omega)]
      rw[iY];simp only[Nat.zero_add,Int.toNat_natCast];rfl
     ·simp only[if_neg (show¬e=0+Int.toNat (i:Int) by omega)]
      rw[iW h1]
    ·rw[Z9 (by omega),Bool.eq_iff_iff]
     simp only[Bool.and_eq_true,Br,Sv,beq_iff_eq,Y2,decide_true,if_true,Je (Nat.le_refl i),Nat.zero_add,Int.toNat_natCast,true_and,and_assoc,cond_true,cond_false]
    ·intro e he;rcases(by omega:e=0∨e=1∨e=2∨e=3∨e=4) with rfl|rfl|rfl|rfl|rfl<;>exact⟨True.intro,rfl⟩
  ·obtain rfl:i=coupons.length:=by omega
   have hfin:C6 (lcB (gP1 ⟨key,1,day,ticket,coupon,status,locator,coupons,[],amount,frm,til⟩) 12 coupons coupons.length) 0 ([]:List Tax).length 4=(gP1 ⟨key,1,day,ticket,coupon,status,locator,coupons,[],amount,frm,til⟩&&E5 12 coupons&&C0 []):=by
    rw[Rl,Sw,Bool.and_true,Bool.eq_iff_iff];simp[Br]
   refine⟨((⟨[],1,0,ticket,coupon,status,[],[],[],amount,frm,til⟩,⟨[],1,0,0,0,0,[],[],[],0,0,0⟩):Request × Request),True.intro,?_,?_⟩
   ·exact tL
   (conv=>whnf)
   all_goals try(show _=_;simp only[wQ])
   rw[cond_true,Bool.eq_iff_iff,Bc,No];rw[hfin] at hh;simp only[Bool.and_eq_true,iZ,Request.mk.injEq,true_and,and_true] at hh ⊢;exact⟨fun h=>by simp_all,fun h=>by simp_all⟩
  ·obtain rfl:i=coupons.length:=by omega
   have hfin:C6 (lcB (gP1 ⟨key,1,day,ticket,coupon,status,locator,coupons,[],amount,frm,til⟩) 12 coupons coupons.length) 0 ([]:List Tax).length 4=(gP1 ⟨key,1,day,ticket,coupon,status,locator,coupons,[],amount,frm,til⟩&&E5 12 coupons&&C0 []):=by
    rw[Rl,Sw,Bool.and_true,Bool.eq_iff_iff];simp[Br]
   symm;refine Bool.eq_false_iff.2 fun hm=>?_;rw[No] at hm;rw[hfin] at hh;refine absurd hh ?_;rw[Bool.not_eq_false];simp only[Bool.and_eq_true,iZ];simp_all
def Aui:PC:=PC.of (fun r:Request=>[.agg r.enc]) (fun r=>(r.kind=1)∧r.coupons=[]∧¬r.taxes.length=0∧Eh r) (fun r=>.bool (sB (Af r)))
def wK:List (FuncId × Ctr):=(212,inl TY Wj Ak (fun _=>false) (fun _ _ _=>none) Tryz.f212)::Wi
def wL:FuncId→Option Ctr:=Av Ak wK
theorem wM{W:World}(hW:Tabs W):Ad (Fw W) Tryz.prog wL:=Ae Tryz.call212 (Ah rfl Ao (B6 hW) (Nq hW) Tryz.func212 (fun _ _ _=>none)) (Nq hW)
def mP:List AV→List Blk→Nat→Option LR:=fun cs H i=>cond (Nat.beq i 0) (some (.order [0,1,2,3,4,5,6,7,8,9,10,11,12,13,14,15,16,17,18])) (cond (Nat.beq i 6) (some (.order [0,1,2,3,4,5,6,7,8,9,10,11,12,13,14,15])) ((fun cs H i=>cond (Nat.beq i 2) (some (.unroll 1)) none) cs H i))
def wN:List (FuncId × Ctr):=(277,inl TY wL Ak (fun _=>false) (mP) Tryz.f277)::wK
def wO:FuncId→Option Ctr:=Av Ak wN
theorem wP{W:World}(hW:Tabs W):Ad (Fw W) Tryz.prog wO:=Ae Tryz.call277 (Ah rfl Ao (B6 hW) (wM hW) Tryz.func277 (mP)) (wM hW)
def wR:List (FuncId × Ctr):=(228,inl TY wO Ak (fun _=>false) (fun _ _ _=>none) Tryz.f228)::wN
def wU:FuncId→Option Ctr:=Av Ak wR
theorem wV{W:World}(hW:Tabs W):Ad (Fw W) Tryz.prog wU:=Ae Tryz.call228 (Ah rfl Ao (B6 hW) (wP hW) Tryz.func228 (fun _ _ _=>none)) (wP hW)
def wW:List (FuncId × Ctr):=(234,inl TY wU Ak (fun _=>false) (fun _ _ _=>none) Tryz.f234)::wR
def wX:FuncId→Option Ctr:=Av Ak wW
theorem wY{W:World}(hW:Tabs W):Ad (Fw W) Tryz.prog wX:=Ae Tryz.call234 (Ah rfl Ao (B6 hW) (wV hW) Tryz.func234 (fun _ _ _=>none)) (wV hW)
def mQ:List AV→List Blk→Nat→Option LR:=fun cs H i=>cond (Nat.beq i 1) (some (.order [0,1,3,4,2,6,5,7,8,9])) (none)
def cT:List (FuncId × Ctr):=(140,inl TY wX Ak (fun _=>false) (mQ) Tryz.f140)::wW
def Ro:FuncId→Option Ctr:=Av Ak cT
theorem wZ{W:World}(hW:Tabs W):Ad (Fw W) Tryz.prog Ro:=Ae Tryz.call140 (Ah rfl Ao (B6 hW) (wY hW) Tryz.func140 (mQ)) (wY hW)
def mU(r:Request):List AV→List Blk→Nat→Option LR:=fun cs H i=>cond (Nat.beq i 0) (some (.order [0,1,2,3,4,5,6,7,8,9,10,11,12,13,14,15,16,17])) ((fun cs H i=>cond (Nat.beq i 3) (some (.inv (Aud (C6 (gP1 r) 1 0 12) r cs H))) none) cs H i)
def xA(r:Request):List (FuncId × Ctr):=(229,inl TY (Ro) Ak (fun _=>false) (mU r) Tryz.f229)::cT
def xB(r:Request):FuncId→Option Ctr:=Av Ak (xA r)
def xC(r:Request):List (FuncId × Ctr):=(164,inl TY (xB r) Ak (fun _=>false) (fun _ _ _=>none) Tryz.f164)::xA r
def xD(r:Request):FuncId→Option Ctr:=Av Ak (xC r)
def mV(r:Request):List AV→List Blk→Nat→Option LR:=fun _ _ i=>cond (Nat.beq i 2) (some (.unroll 7)) none
def Anv(r:Request):List (FuncId × Ctr):=(141,inl TY (xD r) Ak (fun _=>false) (mV r) Tryz.f141)::xC r
def xE(r:Request):FuncId→Option Ctr:=Av Ak (Anv r)
theorem Auj{W:World}(hW:Tabs W):GoodP (Fw W) Tryz.prog 71 Aui:=by
 have hD:=B6 hW;have hC20:∀ r:Request,Ad (Fw W) Tryz.prog Ro:=fun r=>(wZ hW);have hC21:∀ r:Request,Ad (Fw W) Tryz.prog (xB r):=fun r=>Ae Tryz.call229 (Ah rfl Ao hD (hC20 r) Tryz.func229 (mU r)) (hC20 r);have hC22:∀ r:Request,Ad (Fw W) Tryz.prog (xD r):=fun r=>Ae Tryz.call164 (Ah rfl Ao hD (hC21 r) Tryz.func164 (fun _ _ _=>none)) (hC21 r);have hC23:∀ r:Request,Ad (Fw W) Tryz.prog (xE r):=fun r=>Ae Tryz.call141 (Ah rfl Ao hD (hC22 r) Tryz.func141 (mV r)) (hC22 r);refine As (D:=Ak) (C:=fun r=>xE r) (wr:=(fun _=>false)) rfl Ao hD hC23 Tryz.func71 (fun _ _=>none) (fun _=>rfl) ?_;rintro⟨key,kind,day,ticket,coupon,status,locator,coupons,taxes,amount,frm,til⟩ hf hp
 have hft:Az [slE 2 Tax.enc taxes]:=⟨hf.1.2.2.2.2.2.2.2.2.1,True.intro⟩;clear hf;obtain⟨hk,hcn,htn,hp1,hp2⟩:=hp;dsimp only at hk hcn htn hp1 hp2;subst hcn;rcases hk with rfl;have hex: ¬Cd 1=[]:=by rw[B8 (by decide)];decide
 have hta: ¬0+taxes.length≤0:=by omega
 (conv=>whnf)
 (repeat' (first|(with_reducible refine Ap ?_)|(exact absurd (by with_reducible assumption) hex)|refine tuU ?_|split<;>rename_i hh<;>try simp only[wS] at hh)<;>conv=>whnf)
 refine⟨([]:List Coupon),Nat.zero_le _,?_,?_⟩
 ·exact Ac _
 (conv=>whnf)
 (repeat' (first|(with_reducible refine Ap ?_)|(exact absurd (by with_reducible assumption) htn)|(exact absurd (by with_reducible assumption) hta)|((with_reducible apply Bv);(focus rfl);(focus rfl))|((with_reducible apply Bs);(focus rfl);(focus rfl);(focus rfl))|exact tN|with_reducible refine iQ ?_ ?_|refine tuU ?_|split<;>rename_i hh<;>try simp only[wS] at hh|with_reducible refine lnI fun hln=>?_)<;>conv=>whnf)
 refine⟨?_,fun(k:Nat) (hk:k≤taxes.length)=>?_⟩
 ·(conv=>whnf)
  refine⟨(0:Nat),[],?_,⟨⟨rfl,(nB rfl),rfl⟩,?_,?_⟩⟩
  ·exact Nat.zero_le _
  ·(conv=>whnf)
   (repeat' (first|with_reducible exact⟨⟩|refine tuA ?_|with_reducible refine iA ?_ ?_)<;>conv=>whnf)
   all_goals try simp only[wQ]
   all_goals (try first|omega)
   all_goals exact(P2 _).symm
  ·(conv=>whnf)
   (repeat' (first|with_reducible exact⟨⟩|((with_reducible refine Or.inr ?_);rfl)|refine tuA ?_|with_reducible refine iA ?_ ?_|with_reducible refine iL ?_ ?_|with_reducible refine iB ?_ ?_)<;>conv=>whnf)
   all_goals try simp only[wQ]
   all_goals (try first|omega|rfl|exact⟨fun h=>h,fun _ _=>True.intro⟩)
   ·intro e he;refine⟨?_,rfl⟩;show Bq 0 _ _ e=_;unfold Bq;rw[if_neg (by omega),Nat.sub_zero]
    simp only[rY,Pz]
   ·rw[Z7,Nat.zero_add];unfold gP1;rfl
   ·intro e he;rcases(by omega:e=0∨e=1∨e=2∨e=3∨e=4) with rfl|rfl|rfl|rfl|rfl<;>exact⟨True.intro,rfl⟩
 ·have hfin:taxes.length≤k→ltB (C6 (gP1 ⟨key,1,day,ticket,coupon,status,locator,[],taxes,amount,frm,til⟩) 1 0 12) taxes k=((C6 (gP1 ⟨key,1,day,ticket,coupon,status,locator,[],taxes,amount,frm,til⟩) 1 0 12)&&C0 taxes):=fun h=>by
   obtain rfl:k=taxes.length:=by omega
   rw[Z8]
  have hcode:k<taxes.length→ -9223372036854775808≤fz k (0+Int.toNat (k:Int)) (taxes.getD (0+Int.toNat (k:Int)) default).code:=fun h=>by
   rw[Je (by omega),Nat.zero_add];exact aA hft h
  have hfz:fz k (0+Int.toNat (k:Int)) (taxes.getD (0+Int.toNat (k:Int)) default).code=(taxes.getD k default).code:=by
   rw[Je (by omega),Nat.zero_add];rfl
  (conv=>whnf)
  (repeat' (first|(with_reducible refine Ap ?_)|(exact absurd (by with_reducible assumption) Bool.false_ne_true)|((with_reducible apply Bv);(focus rfl);(focus rfl))|((with_reducible apply Bs);(focus rfl);(focus rfl);(focus rfl))|((with_reducible apply D9);(focus rfl);(focus rfl);(focus rfl))|exact tN|refine tuU ?_|split<;>rename_i hh<;>try simp only[wS] at hh)<;>conv=>whnf)
  all_goals try(show _=_;simp only[wQ])
  ·(conv=>whnf)
   refine⟨(k+1:Nat),[],?_,⟨⟨rfl,(nB rfl),rfl⟩,?_,?_⟩⟩
   ·exact⟨show k+1≤taxes.length by omega,show taxes.length - (k+1)<taxes.length - k by omega⟩
   ·(conv=>whnf)
    (repeat' (first|with_reducible exact⟨⟩|refine tuA ?_|with_reducible refine iA ?_ ?_)<;>conv=>whnf)
    all_goals try simp only[wQ]
    all_goals (try first|omega)
    all_goals (unfold I3;rw[if_neg (by omega),Nat.add_sub_cancel];split<;>omega)
   ·(conv=>whnf)
    (repeat' (first|with_reducible exact⟨⟩|((with_reducible refine Or.inr ?_);rfl)|refine tuA ?_|with_reducible refine iA ?_ ?_|with_reducible refine iL ?_ ?_|with_reducible refine iB ?_ ?_)<;>conv=>whnf)
    all_goals try simp only[wQ]
    all_goals (try first|omega|rfl|exact⟨fun h=>h,fun _ _=>True.intro⟩)
    ·intro e he;refine⟨?_,rfl⟩;simp only[Dk,decide_true,if_true,decide_eq_true_eq];by_cases h1:e=k
     ·subst h1;simp only[if_pos (show e=0+Int.toNat (e:Int) by omega)]
      rw[P1];simp only[Nat.zero_add,Int.toNat_natCast];rfl
     ·simp only[if_neg (show¬e=0+Int.toNat (k:Int) by omega)]
      rw[P0 h1]
    ·rw[L1 (by omega),Bool.eq_iff_iff]
     unfold C2;simp only[Bool.and_eq_true,Br,decide_eq_true_eq,Y2,decide_true,if_true,Je (Nat.le_refl k),Nat.zero_add,Int.toNat_natCast,true_and,and_assoc,cond_true,cond_false]
    ·intro e he;rcases(by omega:e=0∨e=1∨e=2∨e=3∨e=4) with rfl|rfl|rfl|rfl|rfl<;>exact⟨True.intro,rfl⟩
  ·(conv=>whnf)
   refine⟨(k+1:Nat),[],?_,⟨⟨rfl,(nB rfl),rfl⟩,?_,?_⟩⟩
   ·exact⟨show k+1≤taxes.length by omega,show taxes.length - (k+1)<taxes.length - k by omega⟩
   ·(conv=>whnf)
    (repeat' (first|with_reducible exact⟨⟩|refine tuA ?_|with_reducible refine iA ?_ ?_)<;>conv=>whnf)
    all_goals try simp only[wQ]
    all_goals (try first|omega)
    all_goals (unfold I3;rw[if_neg (by omega),Nat.add_sub_cancel];split<;>omega)
   ·(conv=>whnf)
    (repeat' (first|with_reducible exact⟨⟩|((with_reducible refine Or.inr ?_);rfl)|refine tuA ?_|with_reducible refine iA ?_ ?_|with_reducible refine iL ?_ ?_|with_reducible refine iB ?_ ?_)<;>conv=>whnf)
    all_goals try simp only[wQ]
    all_goals (try first|omega|rfl|exact⟨fun h=>h,fun _ _=>True.intro⟩)
    ·intro e he;refine⟨?_,rfl⟩;simp only[Dk,decide_true,if_true,decide_eq_true_eq];by_cases h1:e=k
     ·subst h1;simp only[if_pos (show e=0+Int.toNat (e:Int) by omega)]
      rw[P1];simp only[Nat.zero_add,Int.toNat_natCast];rfl
     ·simp only[if_neg (show¬e=0+Int.toNat (k:Int) by omega)]
      rw[P0 h1]
    ·rw[L1 (by omega),Bool.eq_iff_iff]
     unfold C2;simp only[Bool.and_eq_true,Br,decide_eq_true_eq,Y2,decide_true,if_true,Je (Nat.le_refl k),Nat.zero_add,Int.toNat_natCast,true_and,and_assoc,cond_true,cond_false]
    ·intro e he;rcases(by omega:e=0∨e=1∨e=2∨e=3∨e=4) with rfl|rfl|rfl|rfl|rfl<;>exact⟨True.intro,rfl⟩
  ·exfalso;rw[hfin (by omega)] at hh
   simp only[Bool.and_eq_true,Br,List.length_nil] at hh;omega
  ·symm;refine Bool.eq_false_iff.2 fun hm=>?_;rw[No] at hm;exact Wh (m:=12) (by simp only[hm])
def Auk:PC:=PC.of (fun r:Request=>[.agg r.enc]) (fun r=>(r.kind=1)∧r.coupons=[]∧r.taxes=[]∧Eh r) (fun r=>.bool (sB (Af r)))
def xF:List (FuncId × Ctr):=(140,inl TY Wj Ak (fun _=>false) (fun _ _ _=>none) Tryz.f140)::Wi
def xG:FuncId→Option Ctr:=Av Ak xF
theorem xH{W:World}(hW:Tabs W):Ad (Fw W) Tryz.prog xG:=Ae Tryz.call140 (Ah rfl Ao (B6 hW) (Nq hW) Tryz.func140 (fun _ _ _=>none)) (Nq hW)
def mW:List AV→List Blk→Nat→Option LR:=fun cs H i=>cond (Nat.beq i 0) (some (.order [0,1,2,3,4,5,6,7,8,9,10,11,12,13,14,15,16,17,18])) (cond (Nat.beq i 6) (some (.order [0,1,2,3,4,5,6,7,8,9,10,11,12,13,14,15])) ((fun cs H i=>cond (Nat.beq i 2) (some (.unroll 1)) none) cs H i))
def xI:List (FuncId × Ctr):=(277,inl TY xG Ak (fun _=>false) (mW) Tryz.f277)::xF
def xJ:FuncId→Option Ctr:=Av Ak xI
theorem xK{W:World}(hW:Tabs W):Ad (Fw W) Tryz.prog xJ:=Ae Tryz.call277 (Ah rfl Ao (B6 hW) (xH hW) Tryz.func277 (mW)) (xH hW)
def mY:List AV→List Blk→Nat→Option LR:=fun cs H i=>cond (Nat.beq i 0) (some (.order [0,1,2,3,4,5,6,7,8,9,10,11,12,13,14,15,16,17])) ((fun cs H i=>cond (Nat.beq i 3) (some (.unroll 1)) none) cs H i)
def xL:List (FuncId × Ctr):=(229,inl TY xJ Ak (fun _=>false) (mY) Tryz.f229)::xI
def xM:FuncId→Option Ctr:=Av Ak xL
theorem xN{W:World}(hW:Tabs W):Ad (Fw W) Tryz.prog xM:=Ae Tryz.call229 (Ah rfl Ao (B6 hW) (xK hW) Tryz.func229 (mY)) (xK hW)
def xO:List (FuncId × Ctr):=(228,inl TY xM Ak (fun _=>false) (fun _ _ _=>none) Tryz.f228)::xL
def xP:FuncId→Option Ctr:=Av Ak xO
theorem xQ{W:World}(hW:Tabs W):Ad (Fw W) Tryz.prog xP:=Ae Tryz.call228 (Ah rfl Ao (B6 hW) (xN hW) Tryz.func228 (fun _ _ _=>none)) (xN hW)
def xR:List (FuncId × Ctr):=(234,inl TY xP Ak (fun _=>false) (fun _ _ _=>none) Tryz.f234)::xO
def xS:FuncId→Option Ctr:=Av Ak xR
theorem xU{W:World}(hW:Tabs W):Ad (Fw W) Tryz.prog xS:=Ae Tryz.call234 (Ah rfl Ao (B6 hW) (xQ hW) Tryz.func234 (fun _ _ _=>none)) (xQ hW)
def xV:List (FuncId × Ctr):=(164,inl TY xS Ak (fun _=>false) (fun _ _ _=>none) Tryz.f164)::xR
def xW:FuncId→Option Ctr:=Av Ak xV
theorem xX{W:World}(hW:Tabs W):Ad (Fw W) Tryz.prog xW:=Ae Tryz.call164 (Ah rfl Ao (B6 hW) (xU hW) Tryz.func164 (fun _ _ _=>none)) (xU hW)
def mZ:List AV→List Blk→Nat→Option LR:=fun _ _ i=>cond (Nat.beq i 2) (some (.unroll 7)) none
def Anw:List (FuncId × Ctr):=(141,inl TY xW Ak (fun _=>false) (mZ) Tryz.f141)::xV
def Rp:FuncId→Option Ctr:=Av Ak Anw
theorem xY{W:World}(hW:Tabs W):Ad (Fw W) Tryz.prog Rp:=Ae Tryz.call141 (Ah rfl Ao (B6 hW) (xX hW) Tryz.func141 (mZ)) (xX hW)
theorem Aul{W:World}(hW:Tabs W):GoodP (Fw W) Tryz.prog 71 Auk:=by
 have hD:=B6 hW;have hC0:∀ r:Request,Ad (Fw W) Tryz.prog Rp:=fun r=>(xY hW);refine As (D:=Ak) (C:=fun r=>Rp) (wr:=(fun _=>false)) rfl Ao hD hC0 Tryz.func71 (fun _ _=>none) (fun _=>rfl) ?_;rintro⟨key,kind,day,ticket,coupon,status,locator,coupons,taxes,amount,frm,til⟩ hf hp;have hft:Az [slE 2 Tax.enc taxes]:=⟨hf.1.2.2.2.2.2.2.2.2.1,True.intro⟩;clear hf;obtain⟨hk,hcn,htn,hp1,hp2⟩:=hp;dsimp only at hk hcn htn hp1 hp2;subst hcn;subst htn;rcases hk with rfl;have hex: ¬Cd 1=[]:=by rw[B8 (by decide)];decide
 (conv=>whnf)
 (repeat' (first|(with_reducible refine Ap ?_)|(exact absurd (by with_reducible assumption) hex)|refine tuU ?_|split<;>rename_i hh<;>try simp only[wS] at hh)<;>conv=>whnf)
 refine⟨([]:List Coupon),Nat.zero_le _,?_,?_⟩
 ·exact Ac _
 (conv=>whnf)
 refine⟨([]:List Tax),Nat.zero_le _,?_,?_⟩
 ·exact Ac _
 (conv=>whnf)
 (repeat' (first|(with_reducible refine Ap ?_)|((with_reducible apply Bv);(focus rfl);(focus rfl))|((with_reducible apply Bs);(focus rfl);(focus rfl);(focus rfl))|exact tN|with_reducible refine iQ ?_ ?_|refine tuU ?_|split<;>rename_i hh<;>try simp only[wS] at hh|with_reducible refine lnI fun hln=>?_)<;>conv=>whnf)
 all_goals try(show _=_;simp only[wQ])
 ·exfalso;simp only[Bool.and_eq_true,Br,List.length_nil] at hh;omega
 ·symm;refine Bool.eq_false_iff.2 fun hm=>?_;rw[No] at hm;exact Wh (m:=12) (by simp only[hm])
end
end Go.Vc.Z
