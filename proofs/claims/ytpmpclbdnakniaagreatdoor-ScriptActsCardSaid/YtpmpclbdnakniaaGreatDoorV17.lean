/- The line of a request, the document's. -/
import Derived.Test.YtpmpclbdnakniaaGreatDoorV16
import Derived.Test.YtpmpclbdnakniaaGreatDoorV14
set_option linter.all false
set_option linter.unusedVariables false
set_option linter.unusedSimpArgs false
namespace Go.Vc.Z
open Go Go.Vc Go.Proofs Go.RowKit Go.Pl Go.Lib
noncomputable section
set_option maxRecDepth 100000
attribute [local irreducible] inK Utf8.decode Utf8.encode Lib.itoa Pl.worth Pl.allDig
attribute [local irreducible] Lib.join
@[irreducible] def Cb(l:List Coupon):List UInt8:=Lib.join (l.map Bs) [44]
def pH:PC:=PC.of (fun l:List Coupon=>[slE 6 Coupon.enc l]) (fun l=>l.length≤12∧∀ c ∈ l,Dl c.value=true) (fun l=>.str (sS (Cb l)))
def LFl(l:List Coupon):LoopSpec:={
 α:=Nat
 keep:=[0,3,4]
 vals i:=[slE 6 Coupon.enc l,.str (sS (Lib.join ((l.take i).map Bs) [44])),.int .i64 i]
 heap _:=[]
 ok i:=i≤l.length
 μ i:=l.length - i }
theorem Abc{α:Type}[Inhabited α]{l:List α}{i:Nat}(h:i<l.length):l.getD (Int.toNat (i:Int)) default ∈ l:=by
 rw[show Int.toNat (i:Int)=i from rfl,List.getD_eq_getElem?_getD,List.getElem?_eq_getElem h];exact List.getElem_mem h
theorem Tg{l:List Coupon}(h:A0 [slE 6 Coupon.enc l]):∀ c ∈ l,(Bs c).length≤200:=by
 intro c hc
 obtain⟨i,hi,rfl⟩:=List.getElem_of_mem hc
 simp only[A0,Bg] at h
 have h1:=h.1.2 i hi
 rw[List.getD_eq_getElem?_getD,List.getElem?_eq_getElem hi] at h1
 simp only[Option.getD_some] at h1
 have l1:=Aat (c:=l[i]) (Ak.1 h1.2.1) (Ak.1 h1.2.2.1)
 omega
theorem X4{l:List Coupon}(h:A0 [slE 6 Coupon.enc l])(hl:l.length≤12)(i:Nat):(Lib.join ((l.take i).map Bs) [44]).length≤3000:=by
 have hw:=Tg h
 have hj:=K4 [44] 200 ((l.take i).map Bs) (fun s hs=>by
  obtain⟨c,hc,rfl⟩:=List.mem_map.1 hs
  exact hw c (List.mem_of_mem_take hc))
 have h4:((l.take i).map Bs).length≤12:=by simp;omega
 have:=Nat.mul_le_mul_right (200+[(44:UInt8)].length) h4
 simp only[List.length_cons,List.length_nil] at this hj
 omega
def Gs:PT:=C8 [(171,oV)]
theorem Ka{W:World}(hW:Tabs W):Ct (Fw W) Tryz.prog Gs:=(Ab Tryz.call171 (S4 hW) Av)
def Gt:FuncId→Option Ctr:=Az Gs []
theorem R3{W:World}(hW:Tabs W):Ad (Fw W) Tryz.prog Gt:=(Aw (Ka hW))
def R4:List Coupon→Nat→Option LR:=fun l i=>cond (Nat.beq i 3) (some (.inv (LFl l))) (none)
set_option maxHeartbeats 2000000 in
theorem R5{W:World}(hW:Tabs W):GoodP (Fw W) Tryz.prog 84 pH:=by
 have hD:=Ka hW
 have hC0:∀ l:List Coupon,Ad (Fw W) Tryz.prog Gt:=fun l=>(R3 hW)
 refine As (D:=Gs) (C:=fun l=>Gt) (wr:=(fun _=>false)) rfl Ao hD hC0 Tryz.func84 (R4) (fun _=>rfl) ?_
 intro l hf hp
 obtain⟨p1,p2⟩:=hp
 have hj:=X4 hf p1
 have hw:=Tg hf
 clear hf
 (conv=>whnf)
 refine⟨?_,fun(i:Nat) (hi:i≤l.length)=>?_⟩
 ·(conv=>whnf)
  refine⟨(0:Nat),[],?_,⟨⟨rfl,(nB rfl),rfl⟩,?_,?_⟩⟩
  ·exact Nat.zero_le _
  ·(conv=>whnf)
   (repeat' ((first|with_reducible exact⟨⟩|((with_reducible refine aI ?_ ?_);focus (exact tA))|with_reducible refine iA ?_ ?_|fail)<;>(conv=>whnf)))
   all_goals (try simp only[wQ])
   all_goals (try first|omega|exact⟨fun h=>h,fun _ _=>True.intro⟩)
   simp[Lib.join_nil]
  ·exact tL
 ·have hj2:=hj i
  have q2:i<l.length→(Bs ⟨(l.getD (Int.toNat (i:Int)) default).flight,(l.getD (Int.toNat (i:Int)) default).day,(l.getD (Int.toNat (i:Int)) default).value,(l.getD (Int.toNat (i:Int)) default).status,(l.getD (Int.toNat (i:Int)) default).holder,(l.getD (Int.toNat (i:Int)) default).next⟩).length≤200:=fun h=>hw _ (Abc h)
  have q3:i<l.length→Dl (l.getD (Int.toNat (i:Int)) default).value=true:=fun h=>p2 _ (Abc h)
  (conv=>whnf)
  (repeat' ((first
   |((with_reducible refine aI ?_ ?_);focus (exact q3 (by omega)))
   |((with_reducible refine aI ?_ ?_);focus (first|omega|exact tK|(simp only[List.length_append,bytesOf_length,List.toList_toArray,List.length_cons,List.length_nil,List.length_take,List.length_drop,Bb];omega)))
   |(split<;>rename_i hh<;>(try simp only[wS] at hh))
   |with_reducible refine lnI fun hln=>?_
   |fail)<;>(conv=>whnf)))
  all_goals (try (show _=_;simp only[wQ]))
  ·(conv=>whnf)
   refine⟨(i+1:Nat),[],?_,⟨⟨rfl,(nB rfl),rfl⟩,?_,?_⟩⟩
   ·exact⟨show i+1≤l.length by omega,show l.length - (i+1)<l.length - i by omega⟩
   ·(conv=>whnf)
    (repeat' ((first|with_reducible exact⟨⟩|((with_reducible refine aI ?_ ?_);focus (exact tA))|with_reducible refine iA ?_ ?_|fail)<;>(conv=>whnf)))
    all_goals (try simp only[wQ])
    all_goals (try first|omega|exact⟨fun h=>h,fun _ _=>True.intro⟩)
    rw[Ui (by omega),if_neg (by omega)]
   ·exact tL
  ·(conv=>whnf)
   refine⟨(i+1:Nat),[],?_,⟨⟨rfl,(nB rfl),rfl⟩,?_,?_⟩⟩
   ·exact⟨show i+1≤l.length by omega,show l.length - (i+1)<l.length - i by omega⟩
   ·(conv=>whnf)
    (repeat' ((first|with_reducible exact⟨⟩|((with_reducible refine aI ?_ ?_);focus (exact tA))|with_reducible refine iA ?_ ?_|fail)<;>(conv=>whnf)))
    all_goals (try simp only[wQ])
    all_goals (try first|omega|exact⟨fun h=>h,fun _ _=>True.intro⟩)
    obtain rfl:i=0:=by omega
    rw[Ui (by omega),if_pos rfl];simp[Lib.join_nil]
   ·exact tL
  ·unfold Cb;rw[List.take_of_length_le (by omega)]
theorem Hb(r:Request):Bd r 75=Gp r.key:=by unfold Bd;rw[if_pos rfl]
theorem Hc(r:Request):Bd r 68=F7 r.day:=by unfold Bd;rw[if_neg (by decide),if_pos rfl]
theorem Lr(r:Request):Bd r 76=G3 r.locator:=by unfold Bd;rw[if_neg (by decide),if_neg (by decide),if_pos rfl]
theorem Hd(r:Request):Bd r 84=Es r.ticket:=by unfold Bd;rw[if_neg (by decide),if_neg (by decide),if_neg (by decide),if_pos rfl]
theorem Kp(r:Request):Bd r 78=(decide (1≤r.coupon)&&decide (r.coupon≤4)):=by unfold Bd;rw[if_neg (by decide),if_neg (by decide),if_neg (by decide),if_neg (by decide),if_pos rfl]
theorem Ni(r:Request):Bd r 83=Jf r.status:=by unfold Bd;rw[if_neg (by decide),if_neg (by decide),if_neg (by decide),if_neg (by decide),if_neg (by decide),if_pos rfl]
theorem Ls(r:Request):Bd r 65=Di r.amount:=by unfold Bd;rw[if_neg (by decide),if_neg (by decide),if_neg (by decide),if_neg (by decide),if_neg (by decide),if_neg (by decide),if_pos rfl]
theorem Nj(r:Request):Bd r 74=Fh 12 r.coupons:=by unfold Bd;rw[if_neg (by decide),if_neg (by decide),if_neg (by decide),if_neg (by decide),if_neg (by decide),if_neg (by decide),if_neg (by decide),if_pos rfl]
theorem Nk(r:Request):Bd r 67=Fh 4 r.coupons:=by unfold Bd;rw[if_neg (by decide),if_neg (by decide),if_neg (by decide),if_neg (by decide),if_neg (by decide),if_neg (by decide),if_neg (by decide),if_neg (by decide),if_pos rfl]
theorem Lt(r:Request):Bd r 88=Dg r.taxes:=by unfold Bd;rw[if_neg (by decide),if_neg (by decide),if_neg (by decide),if_neg (by decide),if_neg (by decide),if_neg (by decide),if_neg (by decide),if_neg (by decide),if_neg (by decide),if_pos rfl]
theorem Nl(r:Request):Bd r 82=(F7 r.frm&&F7 r.til):=by unfold Bd;rw[if_neg (by decide),if_neg (by decide),if_neg (by decide),if_neg (by decide),if_neg (by decide),if_neg (by decide),if_neg (by decide),if_neg (by decide),if_neg (by decide),if_neg (by decide)]
def Bz(r:Request):List (List UInt8):=cond (eqI r.kind 1) [[105,115,115,117,101],r.key,Lib.itoa r.day,r.locator,Cb r.coupons,By r.taxes] (cond (eqI r.kind 2) [[109,111,118,101],r.key,Lib.itoa r.day,A6 r.ticket,Lib.itoa r.coupon,C2 r.status] (cond (eqI r.kind 3) [[118,111,105,100],r.key,Lib.itoa r.day,A6 r.ticket] (cond (eqI r.kind 4) [[114,101,102,117,110,100],r.key,Lib.itoa r.day,A6 r.ticket,C0 r.amount] (cond (eqI r.kind 5) [[101,120,99,104,97,110,103,101],r.key,Lib.itoa r.day,A6 r.ticket,C0 r.amount,Cb r.coupons,By r.taxes] (cond (eqI r.kind 6) [[97,115,107],r.key,Lib.itoa r.day,A6 r.ticket,Lib.itoa r.coupon] (cond (eqI r.kind 7) [[114,101,116,117,114,110],r.key,Lib.itoa r.day,A6 r.ticket,Lib.itoa r.coupon] (cond (eqI r.kind 8) [[115,104,111,119],A6 r.ticket] (cond (eqI r.kind 9) [[102,105,110,100],r.locator] (cond (eqI r.kind 10) [[114,101,112,111,114,116],Lib.itoa r.frm,Lib.itoa r.til] ([]))))))))))
@[irreducible] def Bf(r:Request):List UInt8:=if Af r=true then Lib.join (Bz r) [32] else []
theorem Aom{r:Request}(h:Af r=false):Bf r=[]:=by unfold Bf;rw[h];rfl
theorem Iw{r:Request}(h:r.kind=1)(hm:Af r=true):Gp r.key=true∧F7 r.day=true∧G3 r.locator=true∧Fh 12 r.coupons=true∧Dg r.taxes=true:=by
 rw[Tf h] at hm
 simp only[Hb,Hc,Lr,Nj,Lt,Bool.and_eq_true,decide_eq_true_eq] at hm
 simp only[hm,and_self]
theorem Nm{r:Request}(h:r.kind=1):Bz r=[[105,115,115,117,101],r.key,Lib.itoa r.day,r.locator,Cb r.coupons,By r.taxes]:=by unfold Bz;rw[h];rfl
theorem Afg{r:Request}(h:r.kind=1)(hm:Af r=true):Bf r=[105,115,115,117,101]++[32]++r.key++[32]++Lib.itoa r.day++[32]++r.locator++[32]++Cb r.coupons++[32]++By r.taxes:=by
 unfold Bf
 rw[if_pos hm,Nm h]
 simp only[G7,Lib.join_one,List.append_assoc,List.cons_append,List.nil_append]
theorem Kq{r:Request}(h:r.kind=2)(hm:Af r=true):Gp r.key=true∧F7 r.day=true∧Es r.ticket=true∧(1≤r.coupon∧r.coupon≤4)∧Jf r.status=true:=by
 rw[Xu h] at hm
 simp only[Hb,Hc,Hd,Kp,Ni,Bool.and_eq_true,decide_eq_true_eq] at hm
 simp only[hm,and_self]
theorem Nn{r:Request}(h:r.kind=2):Bz r=[[109,111,118,101],r.key,Lib.itoa r.day,A6 r.ticket,Lib.itoa r.coupon,C2 r.status]:=by unfold Bz;rw[h];rfl
theorem Alu{r:Request}(h:r.kind=2)(hm:Af r=true):Bf r=[109,111,118,101]++[32]++r.key++[32]++Lib.itoa r.day++[32]++A6 r.ticket++[32]++Lib.itoa r.coupon++[32]++C2 r.status:=by
 unfold Bf
 rw[if_pos hm,Nn h]
 simp only[G7,Lib.join_one,List.append_assoc,List.cons_append,List.nil_append]
theorem Kr{r:Request}(h:r.kind=3)(hm:Af r=true):Gp r.key=true∧F7 r.day=true∧Es r.ticket=true:=by
 rw[Xv h] at hm
 simp only[Hb,Hc,Hd,Bool.and_eq_true,decide_eq_true_eq] at hm
 simp only[hm,and_self]
theorem No{r:Request}(h:r.kind=3):Bz r=[[118,111,105,100],r.key,Lib.itoa r.day,A6 r.ticket]:=by unfold Bz;rw[h];rfl
theorem Alv{r:Request}(h:r.kind=3)(hm:Af r=true):Bf r=[118,111,105,100]++[32]++r.key++[32]++Lib.itoa r.day++[32]++A6 r.ticket:=by
 unfold Bf
 rw[if_pos hm,No h]
 simp only[G7,Lib.join_one,List.append_assoc,List.cons_append,List.nil_append]
theorem Ks{r:Request}(h:r.kind=4)(hm:Af r=true):Gp r.key=true∧F7 r.day=true∧Es r.ticket=true∧Di r.amount=true:=by
 rw[Xw h] at hm
 simp only[Hb,Hc,Hd,Ls,Bool.and_eq_true,decide_eq_true_eq] at hm
 simp only[hm,and_self]
theorem Np{r:Request}(h:r.kind=4):Bz r=[[114,101,102,117,110,100],r.key,Lib.itoa r.day,A6 r.ticket,C0 r.amount]:=by unfold Bz;rw[h];rfl
theorem Alw{r:Request}(h:r.kind=4)(hm:Af r=true):Bf r=[114,101,102,117,110,100]++[32]++r.key++[32]++Lib.itoa r.day++[32]++A6 r.ticket++[32]++C0 r.amount:=by
 unfold Bf
 rw[if_pos hm,Np h]
 simp only[G7,Lib.join_one,List.append_assoc,List.cons_append,List.nil_append]
theorem Ix{r:Request}(h:r.kind=5)(hm:Af r=true):Gp r.key=true∧F7 r.day=true∧Es r.ticket=true∧Di r.amount=true∧Fh 4 r.coupons=true∧Dg r.taxes=true:=by
 rw[Xx h] at hm
 simp only[Hb,Hc,Hd,Ls,Nk,Lt,Bool.and_eq_true,decide_eq_true_eq] at hm
 simp only[hm,and_self]
theorem Nq{r:Request}(h:r.kind=5):Bz r=[[101,120,99,104,97,110,103,101],r.key,Lib.itoa r.day,A6 r.ticket,C0 r.amount,Cb r.coupons,By r.taxes]:=by unfold Bz;rw[h];rfl
theorem Alx{r:Request}(h:r.kind=5)(hm:Af r=true):Bf r=[101,120,99,104,97,110,103,101]++[32]++r.key++[32]++Lib.itoa r.day++[32]++A6 r.ticket++[32]++C0 r.amount++[32]++Cb r.coupons++[32]++By r.taxes:=by
 unfold Bf
 rw[if_pos hm,Nq h]
 simp only[G7,Lib.join_one,List.append_assoc,List.cons_append,List.nil_append]
theorem Kt{r:Request}(h:r.kind=6)(hm:Af r=true):Gp r.key=true∧F7 r.day=true∧Es r.ticket=true∧(1≤r.coupon∧r.coupon≤4):=by
 rw[Xy h] at hm
 simp only[Hb,Hc,Hd,Kp,Bool.and_eq_true,decide_eq_true_eq] at hm
 simp only[hm,and_self]
theorem Nr{r:Request}(h:r.kind=6):Bz r=[[97,115,107],r.key,Lib.itoa r.day,A6 r.ticket,Lib.itoa r.coupon]:=by unfold Bz;rw[h];rfl
theorem Aly{r:Request}(h:r.kind=6)(hm:Af r=true):Bf r=[97,115,107]++[32]++r.key++[32]++Lib.itoa r.day++[32]++A6 r.ticket++[32]++Lib.itoa r.coupon:=by
 unfold Bf
 rw[if_pos hm,Nr h]
 simp only[G7,Lib.join_one,List.append_assoc,List.cons_append,List.nil_append]
theorem Ku{r:Request}(h:r.kind=7)(hm:Af r=true):Gp r.key=true∧F7 r.day=true∧Es r.ticket=true∧(1≤r.coupon∧r.coupon≤4):=by
 rw[Xz h] at hm
 simp only[Hb,Hc,Hd,Kp,Bool.and_eq_true,decide_eq_true_eq] at hm
 simp only[hm,and_self]
theorem Ns{r:Request}(h:r.kind=7):Bz r=[[114,101,116,117,114,110],r.key,Lib.itoa r.day,A6 r.ticket,Lib.itoa r.coupon]:=by unfold Bz;rw[h];rfl
theorem Alz{r:Request}(h:r.kind=7)(hm:Af r=true):Bf r=[114,101,116,117,114,110]++[32]++r.key++[32]++Lib.itoa r.day++[32]++A6 r.ticket++[32]++Lib.itoa r.coupon:=by
 unfold Bf
 rw[if_pos hm,Ns h]
 simp only[G7,Lib.join_one,List.append_assoc,List.cons_append,List.nil_append]
theorem Rh{r:Request}(h:r.kind=8)(hm:Af r=true):Es r.ticket=true:=by
 rw[X0 h] at hm
 simp only[Hd,Bool.and_eq_true,decide_eq_true_eq] at hm
 simp only[hm,and_self]
theorem Nt{r:Request}(h:r.kind=8):Bz r=[[115,104,111,119],A6 r.ticket]:=by unfold Bz;rw[h];rfl
theorem Al0{r:Request}(h:r.kind=8)(hm:Af r=true):Bf r=[115,104,111,119]++[32]++A6 r.ticket:=by
 unfold Bf
 rw[if_pos hm,Nt h]
 simp only[G7,Lib.join_one,List.append_assoc,List.cons_append,List.nil_append]
theorem Kv{r:Request}(h:r.kind=9)(hm:Af r=true):G3 r.locator=true:=by
 rw[X1 h] at hm
 simp only[Lr,Bool.and_eq_true,decide_eq_true_eq] at hm
 simp only[hm,and_self]
theorem Nu{r:Request}(h:r.kind=9):Bz r=[[102,105,110,100],r.locator]:=by unfold Bz;rw[h];rfl
theorem Al1{r:Request}(h:r.kind=9)(hm:Af r=true):Bf r=[102,105,110,100]++[32]++r.locator:=by
 unfold Bf
 rw[if_pos hm,Nu h]
 simp only[G7,Lib.join_one,List.append_assoc,List.cons_append,List.nil_append]
theorem Oy{r:Request}(h:r.kind=10)(hm:Af r=true):(F7 r.frm=true∧F7 r.til=true):=by
 rw[Um h] at hm
 simp only[Nl,Bool.and_eq_true,decide_eq_true_eq] at hm
 simp only[hm,and_self]
theorem Lg{r:Request}(h:r.kind=10):Bz r=[[114,101,112,111,114,116],Lib.itoa r.frm,Lib.itoa r.til]:=by unfold Bz;rw[h];rfl
theorem Agk{r:Request}(h:r.kind=10)(hm:Af r=true):Bf r=[114,101,112,111,114,116]++[32]++Lib.itoa r.frm++[32]++Lib.itoa r.til:=by
 unfold Bf
 rw[if_pos hm,Lg h]
 simp only[G7,Lib.join_one,List.append_assoc,List.cons_append,List.nil_append]
theorem E8{s:List UInt8}(h:Gp s=true):s.length≤16:=by
 unfold Gp at h;simp only[Bool.and_eq_true,decide_eq_true_eq] at h;omega
theorem Em{m:Int}{l:List Coupon}(h:Fh m l=true):1≤l.length∧(l.length:Int)≤m∧∀ c ∈ l,Gk c 0=true:=by
 unfold Fh at h;simp only[Bool.and_eq_true,decide_eq_true_eq,List.all_eq_true] at h
 exact⟨h.1.2,h.2,h.1.1⟩
theorem aS{c:Coupon}{s:Int}(h:Gk c s=true):Dl c.value=true:=by
 unfold Gk at h
 simp only[Bool.and_eq_true] at h
 exact Dt (by simp only[h])
theorem Ri{n:Int}(h:Es n=true):A6 n=decDigits n.toNat:=by
 unfold Es at h;unfold A6;rw[if_pos (by simpa using h)]
def Wl:PC:=PC.of (fun r:Request=>[.agg r.enc]) (fun r=>Af r=true) (fun r=>.str (sS (Bf r)))
def Ew:PT:=C8 [(49,oP),(75,Aaz),(80,xX),(81,Sr),(82,Su),(83,eP),(84,pH),(85,Aau)]
theorem Hr{W:World}(hW:Tabs W):Ct (Fw W) Tryz.prog Ew:=(Ab Tryz.call49 (Jn hW) (Ab Tryz.call75 (Gy hW) (Ab Tryz.call80 (L6 hW) (Ab Tryz.call81 (K9 hW) (Ab Tryz.call82 (Lb hW) (Ab Tryz.call83 (M9 hW) (Ab Tryz.call84 (R5 hW) (Ab Tryz.call85 (U9 hW) Av))))))))
def Ex:FuncId→Option Ctr:=Az Ew []
theorem Oa{W:World}(hW:Tabs W):Ad (Fw W) Tryz.prog Ex:=(Aw (Hr hW))
def Ob:Request→Nat→Option LR:=fun r i=>cond (Nat.beq i 4) (some (.unroll 7)) (none)
set_option maxHeartbeats 4000000 in
theorem Hs{W:World}(hW:Tabs W):GoodP (Fw W) Tryz.prog 27 Wl:=by
 have hD:=Hr hW
 have hC0:∀ r:Request,Ad (Fw W) Tryz.prog Ex:=fun r=>(Oa hW)
 refine As (D:=Ew) (C:=fun r=>Ex) (wr:=(fun _=>false)) rfl Ao hD hC0 Tryz.func27 (Ob) (fun _=>rfl) ?_
 rintro⟨key,kind,day,ticket,coupon,status,locator,coupons,taxes,amount,frm,til⟩ hf hp
 by_cases h:1≤kind∧kind≤10
 ·rcases kinds h with rfl|rfl|rfl|rfl|rfl|rfl|rfl|rfl|rfl|rfl
  ·have hw:=Afg (r:=⟨key,1,day,ticket,coupon,status,locator,coupons,taxes,amount,frm,til⟩) rfl hp
   have hm:=Iw (r:=⟨key,1,day,ticket,coupon,status,locator,coupons,taxes,amount,frm,til⟩) rfl hp
   dsimp only at hm hw
   obtain⟨mK,mD,mL,mJ,mX⟩:=hm
   have hfc:A0 [slE 6 Coupon.enc coupons]:=⟨hf.1.2.2.2.2.2.2.2.1,True.intro⟩
   have hft:A0 [slE 2 Tax.enc taxes]:=⟨hf.1.2.2.2.2.2.2.2.2.1,True.intro⟩
   simp only[A0,Bg,Ak,Go.Vc.lo,Go.Vc.hi,and_true] at hf
   have lK:=E8 mK
   have lD:=Bv day (by omega) (by omega)
   have lL:=Uh mL
   obtain⟨j1,j2,j3⟩:=Em mJ
   have jW:(Cb coupons).length≤3000:=by unfold Cb;have:=X4 (l:=coupons) hfc (by omega) coupons.length;rwa[List.take_length] at this
   have lX:(By taxes).length≤1000:=Wb (Ho mX).1 (P5 hft)
   have nl:(Dv.getD (Int.toNat ((1:Int) - 1)) []).length=5:=rfl
   clear hf hfc hft
   (conv=>whnf)
   (repeat' ((first
    |((with_reducible refine aI ?_ ?_);focus (refine⟨?_,?_⟩<;>exact of_decide_eq_true rfl))
    |((with_reducible refine aI ?_ ?_);focus (first|with_reducible exact⟨⟩|exact tO|exact tK|(simp only[List.length_append,bytesOf_length,List.toList_toArray,List.length_cons,List.length_nil,List.length_take,List.length_drop,Bb];omega)))
    |with_reducible refine lnI fun hln=>?_
    |fail)<;>(conv=>whnf)))
   refine⟨coupons,⟨by omega,fun c hc=>aS (j3 c hc)⟩,?_,?_⟩
   ·exact Ac _
   (conv=>whnf)
   (repeat' ((first
    |((with_reducible refine aI ?_ ?_);focus (refine⟨?_,?_⟩<;>exact of_decide_eq_true rfl))
    |((with_reducible refine aI ?_ ?_);focus (first|exact tK|(simp only[List.length_append,bytesOf_length,List.toList_toArray,List.length_cons,List.length_nil,List.length_take,List.length_drop,Bb];omega)))
    |with_reducible refine lnI fun hln=>?_
    |fail)<;>(conv=>whnf)))
   refine⟨taxes,mX,?_,?_⟩
   ·exact Ac _
   (conv=>whnf)
   (repeat' ((first
    |((with_reducible refine aI ?_ ?_);focus (first|exact tK|(simp only[List.length_append,bytesOf_length,List.toList_toArray,List.length_cons,List.length_nil,List.length_take,List.length_drop,Bb];omega)))
    |with_reducible refine lnI fun hln=>?_
    |fail)<;>(conv=>whnf)))
   all_goals (try (show _=_;simp only[wQ]))
   rw[hw];rfl
  ·have hw:=Alu (r:=⟨key,2,day,ticket,coupon,status,locator,coupons,taxes,amount,frm,til⟩) rfl hp
   have hm:=Kq (r:=⟨key,2,day,ticket,coupon,status,locator,coupons,taxes,amount,frm,til⟩) rfl hp
   dsimp only at hm hw
   obtain⟨mK,mD,mT,mN,mS⟩:=hm
   have hfc:A0 [slE 6 Coupon.enc coupons]:=⟨hf.1.2.2.2.2.2.2.2.1,True.intro⟩
   have hft:A0 [slE 2 Tax.enc taxes]:=⟨hf.1.2.2.2.2.2.2.2.2.1,True.intro⟩
   simp only[A0,Bg,Ak,Go.Vc.lo,Go.Vc.hi,and_true] at hf
   have lK:=E8 mK
   have lD:=Bv day (by omega) (by omega)
   have lT:=F5 ticket
   have eT:=Ri mT
   have lU:(decDigits ticket.toNat).length≤32:=by rw[←eT];omega
   have lN:=Bv coupon (by omega) (by omega)
   have lS:=aM status
   have nl:(Dv.getD (Int.toNat ((2:Int) - 1)) []).length=4:=rfl
   clear hf hfc hft
   (conv=>whnf)
   (repeat' ((first
    |((with_reducible refine aI ?_ ?_);focus (refine⟨?_,?_⟩<;>exact of_decide_eq_true rfl))
    |((with_reducible refine aI ?_ ?_);focus (first|with_reducible exact⟨⟩|exact tO|exact tK|(simp only[List.length_append,bytesOf_length,List.toList_toArray,List.length_cons,List.length_nil,List.length_take,List.length_drop,Bb];omega)))
    |with_reducible refine lnI fun hln=>?_
    |fail)<;>(conv=>whnf)))
   all_goals (try (show _=_;simp only[wQ]))
   rw[hw,eT];rfl
  ·have hw:=Alv (r:=⟨key,3,day,ticket,coupon,status,locator,coupons,taxes,amount,frm,til⟩) rfl hp
   have hm:=Kr (r:=⟨key,3,day,ticket,coupon,status,locator,coupons,taxes,amount,frm,til⟩) rfl hp
   dsimp only at hm hw
   obtain⟨mK,mD,mT⟩:=hm
   have hfc:A0 [slE 6 Coupon.enc coupons]:=⟨hf.1.2.2.2.2.2.2.2.1,True.intro⟩
   have hft:A0 [slE 2 Tax.enc taxes]:=⟨hf.1.2.2.2.2.2.2.2.2.1,True.intro⟩
   simp only[A0,Bg,Ak,Go.Vc.lo,Go.Vc.hi,and_true] at hf
   have lK:=E8 mK
   have lD:=Bv day (by omega) (by omega)
   have lT:=F5 ticket
   have eT:=Ri mT
   have lU:(decDigits ticket.toNat).length≤32:=by rw[←eT];omega
   have nl:(Dv.getD (Int.toNat ((3:Int) - 1)) []).length=4:=rfl
   clear hf hfc hft
   (conv=>whnf)
   (repeat' ((first
    |((with_reducible refine aI ?_ ?_);focus (refine⟨?_,?_⟩<;>exact of_decide_eq_true rfl))
    |((with_reducible refine aI ?_ ?_);focus (first|with_reducible exact⟨⟩|exact tO|exact tK|(simp only[List.length_append,bytesOf_length,List.toList_toArray,List.length_cons,List.length_nil,List.length_take,List.length_drop,Bb];omega)))
    |with_reducible refine lnI fun hln=>?_
    |fail)<;>(conv=>whnf)))
   all_goals (try (show _=_;simp only[wQ]))
   rw[hw,eT];rfl
  ·have hw:=Alw (r:=⟨key,4,day,ticket,coupon,status,locator,coupons,taxes,amount,frm,til⟩) rfl hp
   have hm:=Ks (r:=⟨key,4,day,ticket,coupon,status,locator,coupons,taxes,amount,frm,til⟩) rfl hp
   dsimp only at hm hw
   obtain⟨mK,mD,mT,mA⟩:=hm
   have hfc:A0 [slE 6 Coupon.enc coupons]:=⟨hf.1.2.2.2.2.2.2.2.1,True.intro⟩
   have hft:A0 [slE 2 Tax.enc taxes]:=⟨hf.1.2.2.2.2.2.2.2.2.1,True.intro⟩
   simp only[A0,Bg,Ak,Go.Vc.lo,Go.Vc.hi,and_true] at hf
   have lK:=E8 mK
   have lD:=Bv day (by omega) (by omega)
   have lT:=F5 ticket
   have eT:=Ri mT
   have lU:(decDigits ticket.toNat).length≤32:=by rw[←eT];omega
   have eA:=Hn (Dt mA)
   have lA:=Hl amount
   have lM:(Gn amount).length≤31:=by rw[eA];exact lA
   have oA:=Zj (Dt mA)
   have nl:(Dv.getD (Int.toNat ((4:Int) - 1)) []).length=6:=rfl
   clear hf hfc hft
   (conv=>whnf)
   (repeat' ((first
    |((with_reducible refine aI ?_ ?_);focus (refine⟨?_,?_⟩<;>exact of_decide_eq_true rfl))
    |((with_reducible refine aI ?_ ?_);focus (first|with_reducible exact⟨⟩|with_reducible assumption|exact tO|exact tK|(simp only[List.length_append,bytesOf_length,List.toList_toArray,List.length_cons,List.length_nil,List.length_take,List.length_drop,Bb];omega)))
    |with_reducible refine lnI fun hln=>?_
    |fail)<;>(conv=>whnf)))
   all_goals (try (show _=_;simp only[wQ]))
   rw[hw,eT,eA];rfl
  ·have hw:=Alx (r:=⟨key,5,day,ticket,coupon,status,locator,coupons,taxes,amount,frm,til⟩) rfl hp
   have hm:=Ix (r:=⟨key,5,day,ticket,coupon,status,locator,coupons,taxes,amount,frm,til⟩) rfl hp
   dsimp only at hm hw
   obtain⟨mK,mD,mT,mA,mC,mX⟩:=hm
   have hfc:A0 [slE 6 Coupon.enc coupons]:=⟨hf.1.2.2.2.2.2.2.2.1,True.intro⟩
   have hft:A0 [slE 2 Tax.enc taxes]:=⟨hf.1.2.2.2.2.2.2.2.2.1,True.intro⟩
   simp only[A0,Bg,Ak,Go.Vc.lo,Go.Vc.hi,and_true] at hf
   have lK:=E8 mK
   have lD:=Bv day (by omega) (by omega)
   have lT:=F5 ticket
   have eT:=Ri mT
   have lU:(decDigits ticket.toNat).length≤32:=by rw[←eT];omega
   have eA:=Hn (Dt mA)
   have lA:=Hl amount
   have lM:(Gn amount).length≤31:=by rw[eA];exact lA
   have oA:=Zj (Dt mA)
   obtain⟨j1,j2,j3⟩:=Em mC
   have jW:(Cb coupons).length≤3000:=by unfold Cb;have:=X4 (l:=coupons) hfc (by omega) coupons.length;rwa[List.take_length] at this
   have lX:(By taxes).length≤1000:=Wb (Ho mX).1 (P5 hft)
   have nl:(Dv.getD (Int.toNat ((5:Int) - 1)) []).length=8:=rfl
   clear hf hfc hft
   (conv=>whnf)
   (repeat' ((first
    |((with_reducible refine aI ?_ ?_);focus (refine⟨?_,?_⟩<;>exact of_decide_eq_true rfl))
    |((with_reducible refine aI ?_ ?_);focus (first|with_reducible exact⟨⟩|with_reducible assumption|exact tO|exact tK|(simp only[List.length_append,bytesOf_length,List.toList_toArray,List.length_cons,List.length_nil,List.length_take,List.length_drop,Bb];omega)))
    |with_reducible refine lnI fun hln=>?_
    |fail)<;>(conv=>whnf)))
   refine⟨coupons,⟨by omega,fun c hc=>aS (j3 c hc)⟩,?_,?_⟩
   ·exact Ac _
   (conv=>whnf)
   (repeat' ((first
    |((with_reducible refine aI ?_ ?_);focus (refine⟨?_,?_⟩<;>exact of_decide_eq_true rfl))
    |((with_reducible refine aI ?_ ?_);focus (first|exact tK|(simp only[List.length_append,bytesOf_length,List.toList_toArray,List.length_cons,List.length_nil,List.length_take,List.length_drop,Bb];omega)))
    |with_reducible refine lnI fun hln=>?_
    |fail)<;>(conv=>whnf)))
   refine⟨taxes,mX,?_,?_⟩
   ·exact Ac _
   (conv=>whnf)
   (repeat' ((first
    |((with_reducible refine aI ?_ ?_);focus (first|exact tK|(simp only[List.length_append,bytesOf_length,List.toList_toArray,List.length_cons,List.length_nil,List.length_take,List.length_drop,Bb];omega)))
    |with_reducible refine lnI fun hln=>?_
    |fail)<;>(conv=>whnf)))
   all_goals (try (show _=_;simp only[wQ]))
   rw[hw,eT,eA];rfl
  ·have hw:=Aly (r:=⟨key,6,day,ticket,coupon,status,locator,coupons,taxes,amount,frm,til⟩) rfl hp
   have hm:=Kt (r:=⟨key,6,day,ticket,coupon,status,locator,coupons,taxes,amount,frm,til⟩) rfl hp
   dsimp only at hm hw
   obtain⟨mK,mD,mT,mN⟩:=hm
   have hfc:A0 [slE 6 Coupon.enc coupons]:=⟨hf.1.2.2.2.2.2.2.2.1,True.intro⟩
   have hft:A0 [slE 2 Tax.enc taxes]:=⟨hf.1.2.2.2.2.2.2.2.2.1,True.intro⟩
   simp only[A0,Bg,Ak,Go.Vc.lo,Go.Vc.hi,and_true] at hf
   have lK:=E8 mK
   have lD:=Bv day (by omega) (by omega)
   have lT:=F5 ticket
   have eT:=Ri mT
   have lU:(decDigits ticket.toNat).length≤32:=by rw[←eT];omega
   have lN:=Bv coupon (by omega) (by omega)
   have nl:(Dv.getD (Int.toNat ((6:Int) - 1)) []).length=3:=rfl
   clear hf hfc hft
   (conv=>whnf)
   (repeat' ((first
    |((with_reducible refine aI ?_ ?_);focus (refine⟨?_,?_⟩<;>exact of_decide_eq_true rfl))
    |((with_reducible refine aI ?_ ?_);focus (first|with_reducible exact⟨⟩|exact tO|exact tK|(simp only[List.length_append,bytesOf_length,List.toList_toArray,List.length_cons,List.length_nil,List.length_take,List.length_drop,Bb];omega)))
    |with_reducible refine lnI fun hln=>?_
    |fail)<;>(conv=>whnf)))
   all_goals (try (show _=_;simp only[wQ]))
   rw[hw,eT];rfl
  ·have hw:=Alz (r:=⟨key,7,day,ticket,coupon,status,locator,coupons,taxes,amount,frm,til⟩) rfl hp
   have hm:=Ku (r:=⟨key,7,day,ticket,coupon,status,locator,coupons,taxes,amount,frm,til⟩) rfl hp
   dsimp only at hm hw
   obtain⟨mK,mD,mT,mN⟩:=hm
   have hfc:A0 [slE 6 Coupon.enc coupons]:=⟨hf.1.2.2.2.2.2.2.2.1,True.intro⟩
   have hft:A0 [slE 2 Tax.enc taxes]:=⟨hf.1.2.2.2.2.2.2.2.2.1,True.intro⟩
   simp only[A0,Bg,Ak,Go.Vc.lo,Go.Vc.hi,and_true] at hf
   have lK:=E8 mK
   have lD:=Bv day (by omega) (by omega)
   have lT:=F5 ticket
   have eT:=Ri mT
   have lU:(decDigits ticket.toNat).length≤32:=by rw[←eT];omega
   have lN:=Bv coupon (by omega) (by omega)
   have nl:(Dv.getD (Int.toNat ((7:Int) - 1)) []).length=6:=rfl
   clear hf hfc hft
   (conv=>whnf)
   (repeat' ((first
    |((with_reducible refine aI ?_ ?_);focus (refine⟨?_,?_⟩<;>exact of_decide_eq_true rfl))
    |((with_reducible refine aI ?_ ?_);focus (first|with_reducible exact⟨⟩|exact tO|exact tK|(simp only[List.length_append,bytesOf_length,List.toList_toArray,List.length_cons,List.length_nil,List.length_take,List.length_drop,Bb];omega)))
    |with_reducible refine lnI fun hln=>?_
    |fail)<;>(conv=>whnf)))
   all_goals (try (show _=_;simp only[wQ]))
   rw[hw,eT];rfl
  ·have hw:=Al0 (r:=⟨key,8,day,ticket,coupon,status,locator,coupons,taxes,amount,frm,til⟩) rfl hp
   have hm:=Rh (r:=⟨key,8,day,ticket,coupon,status,locator,coupons,taxes,amount,frm,til⟩) rfl hp
   dsimp only at hm hw
   have mT:=hm
   have hfc:A0 [slE 6 Coupon.enc coupons]:=⟨hf.1.2.2.2.2.2.2.2.1,True.intro⟩
   have hft:A0 [slE 2 Tax.enc taxes]:=⟨hf.1.2.2.2.2.2.2.2.2.1,True.intro⟩
   simp only[A0,Bg,Ak,Go.Vc.lo,Go.Vc.hi,and_true] at hf
   have lT:=F5 ticket
   have eT:=Ri mT
   have lU:(decDigits ticket.toNat).length≤32:=by rw[←eT];omega
   have nl:(Dv.getD (Int.toNat ((8:Int) - 1)) []).length=4:=rfl
   clear hf hfc hft
   (conv=>whnf)
   (repeat' ((first
    |((with_reducible refine aI ?_ ?_);focus (refine⟨?_,?_⟩<;>exact of_decide_eq_true rfl))
    |((with_reducible refine aI ?_ ?_);focus (first|with_reducible exact⟨⟩|exact tO|exact tK|(simp only[List.length_append,bytesOf_length,List.toList_toArray,List.length_cons,List.length_nil,List.length_take,List.length_drop,Bb];omega)))
    |with_reducible refine lnI fun hln=>?_
    |fail)<;>(conv=>whnf)))
   all_goals (try (show _=_;simp only[wQ]))
   rw[hw,eT];rfl
  ·have hw:=Al1 (r:=⟨key,9,day,ticket,coupon,status,locator,coupons,taxes,amount,frm,til⟩) rfl hp
   have hm:=Kv (r:=⟨key,9,day,ticket,coupon,status,locator,coupons,taxes,amount,frm,til⟩) rfl hp
   dsimp only at hm hw
   have mL:=hm
   have hfc:A0 [slE 6 Coupon.enc coupons]:=⟨hf.1.2.2.2.2.2.2.2.1,True.intro⟩
   have hft:A0 [slE 2 Tax.enc taxes]:=⟨hf.1.2.2.2.2.2.2.2.2.1,True.intro⟩
   simp only[A0,Bg,Ak,Go.Vc.lo,Go.Vc.hi,and_true] at hf
   have lL:=Uh mL
   have nl:(Dv.getD (Int.toNat ((9:Int) - 1)) []).length=4:=rfl
   clear hf hfc hft
   (conv=>whnf)
   (repeat' ((first
    |((with_reducible refine aI ?_ ?_);focus (refine⟨?_,?_⟩<;>exact of_decide_eq_true rfl))
    |((with_reducible refine aI ?_ ?_);focus (first|with_reducible exact⟨⟩|exact tO|exact tK|(simp only[List.length_append,bytesOf_length,List.toList_toArray,List.length_cons,List.length_nil,List.length_take,List.length_drop,Bb];omega)))
    |with_reducible refine lnI fun hln=>?_
    |fail)<;>(conv=>whnf)))
   all_goals (try (show _=_;simp only[wQ]))
   rw[hw];rfl
  ·have hw:=Agk (r:=⟨key,10,day,ticket,coupon,status,locator,coupons,taxes,amount,frm,til⟩) rfl hp
   have hm:=Oy (r:=⟨key,10,day,ticket,coupon,status,locator,coupons,taxes,amount,frm,til⟩) rfl hp
   dsimp only at hm hw
   have mR:=hm
   have hfc:A0 [slE 6 Coupon.enc coupons]:=⟨hf.1.2.2.2.2.2.2.2.1,True.intro⟩
   have hft:A0 [slE 2 Tax.enc taxes]:=⟨hf.1.2.2.2.2.2.2.2.2.1,True.intro⟩
   simp only[A0,Bg,Ak,Go.Vc.lo,Go.Vc.hi,and_true] at hf
   have lR:=Bv frm (by omega) (by omega)
   have lQ:=Bv til (by omega) (by omega)
   have nl:(Dv.getD (Int.toNat ((10:Int) - 1)) []).length=6:=rfl
   clear hf hfc hft
   (conv=>whnf)
   (repeat' ((first
    |((with_reducible refine aI ?_ ?_);focus (refine⟨?_,?_⟩<;>exact of_decide_eq_true rfl))
    |((with_reducible refine aI ?_ ?_);focus (first|with_reducible exact⟨⟩|exact tO|exact tK|(simp only[List.length_append,bytesOf_length,List.toList_toArray,List.length_cons,List.length_nil,List.length_take,List.length_drop,Bb];omega)))
    |with_reducible refine lnI fun hln=>?_
    |fail)<;>(conv=>whnf)))
   all_goals (try (show _=_;simp only[wQ]))
   rw[hw];rfl
 ·exact absurd (Qe (r:=⟨key,kind,day,ticket,coupon,status,locator,coupons,taxes,amount,frm,til⟩) h) (by rw[hp];exact Bool.false_ne_true.symm)
end
end Go.Vc.Z
