/- The line of a request, the document's. -/
import Derived.Test.YtpmpclbdnakniaaGreatDoorV15
import Derived.Test.YtpmpclbdnakniaaGreatDoorV14
set_option linter.all false
set_option linter.unusedVariables false
set_option linter.unusedSimpArgs false
namespace Go.Vc.Z
open Go Go.Vc Go.Proofs Go.RowKit Go.Pl Go.Lib
noncomputable section
set_option maxRecDepth 100000
attribute [local irreducible] inK Utf8.decode Utf8.encode Lib.itoa Pl.worth Pl.allDig
attribute [local irreducible] Lib.join
@[irreducible] def Cf(l:List Coupon):List UInt8:=Lib.join (l.map Bv) [44]
def qL:PC:=PC.of (fun l:List Coupon=>[slE 6 Coupon.enc l]) (fun l=>l.length≤12∧∀ c ∈ l,Do c.value=true) (fun l=>.str (sS (Cf l)))
def LFl(l:List Coupon):LoopSpec:={
 α:=Nat
 keep:=[0,3,4]
 vals i:=[slE 6 Coupon.enc l,.str (sS (Lib.join ((l.take i).map Bv) [44])),.int .i64 i]
 heap _:=[]
 ok i:=i≤l.length
 μ i:=l.length - i }
theorem Acd{α:Type}[Inhabited α]{l:List α}{i:Nat}(h:i<l.length):l.getD (Int.toNat (i:Int)) default ∈ l:=by
 rw[show Int.toNat (i:Int)=i from rfl,List.getD_eq_getElem?_getD,List.getElem?_eq_getElem h];exact List.getElem_mem h
theorem Tc{l:List Coupon}(h:Ax [slE 6 Coupon.enc l]):∀ c ∈ l,(Bv c).length≤200:=by
 intro c hc
 obtain⟨i,hi,rfl⟩:=List.getElem_of_mem hc
 simp only[Ax,Bh] at h
 have h1:=h.1.2 i hi
 rw[List.getD_eq_getElem?_getD,List.getElem?_eq_getElem hi] at h1
 simp only[Option.getD_some] at h1
 have l1:=Abu (c:=l[i]) (Am.1 h1.2.1) (Am.1 h1.2.2.1)
 omega
theorem X7{l:List Coupon}(h:Ax [slE 6 Coupon.enc l])(hl:l.length≤12)(i:Nat):(Lib.join ((l.take i).map Bv) [44]).length≤3000:=by
 have hw:=Tc h
 have hj:=K0 [44] 200 ((l.take i).map Bv) (fun s hs=>by
  obtain⟨c,hc,rfl⟩:=List.mem_map.1 hs
  exact hw c (List.mem_of_mem_take hc))
 have h4:((l.take i).map Bv).length≤12:=by simp;omega
 have:=Nat.mul_le_mul_right (200+[(44:UInt8)].length) h4
 simp only[List.length_cons,List.length_nil] at this hj
 omega
def Ga:PT:=C2 [(171,qB)]
theorem Js{W:World}(hW:Tabs W):Cl (Fw W) Tryz.prog Ga:=(Ab Tryz.call171 (Sy hW) As)
def Gb:FuncId→Option Ctr:=Aw Ga []
theorem Rx{W:World}(hW:Tabs W):Ad (Fw W) Tryz.prog Gb:=(Au (Js hW))
def Ry:List Coupon→Nat→Option LR:=fun l i=>cond (Nat.beq i 3) (some (.inv (LFl l))) (none)
set_option maxHeartbeats 2000000 in
theorem Rz{W:World}(hW:Tabs W):GoodP (Fw W) Tryz.prog 84 qL:=by
 have hD:=Js hW
 have hC0:∀ l:List Coupon,Ad (Fw W) Tryz.prog Gb:=fun l=>(Rx hW)
 refine Ar (D:=Ga) (C:=fun l=>Gb) (wr:=(fun _=>false)) rfl Ap hD hC0 Tryz.func84 (Ry) (fun _=>rfl) ?_
 intro l hf hp
 obtain⟨p1,p2⟩:=hp
 have hj:=X7 hf p1
 have hw:=Tc hf
 clear hf
 (conv=>whnf)
 refine⟨?_,fun(i:Nat) (hi:i≤l.length)=>?_⟩
 ·(conv=>whnf)
  refine⟨(0:Nat),[],?_,⟨⟨rfl,(nB rfl),rfl⟩,?_,?_⟩⟩
  ·exact Nat.zero_le _
  ·(conv=>whnf)
   (repeat' ((first|with_reducible exact⟨⟩|((with_reducible refine aI ?_ ?_);focus (exact tA))|with_reducible refine iA ?_ ?_|fail)<;>(conv=>whnf)))
   all_goals (try simp only[wQ])
   all_goals (try first|omega|exact⟨fun h=>h,fun _ _=>True.intro⟩)
   simp[Lib.join_nil]
  ·exact tL
 ·have hj2:=hj i
  have q2:i<l.length→(Bv ⟨(l.getD (Int.toNat (i:Int)) default).flight,(l.getD (Int.toNat (i:Int)) default).day,(l.getD (Int.toNat (i:Int)) default).value,(l.getD (Int.toNat (i:Int)) default).status,(l.getD (Int.toNat (i:Int)) default).holder,(l.getD (Int.toNat (i:Int)) default).next⟩).length≤200:=fun h=>hw _ (Acd h)
  have q3:i<l.length→Do (l.getD (Int.toNat (i:Int)) default).value=true:=fun h=>p2 _ (Acd h)
  (conv=>whnf)
  (repeat' ((first
   |((with_reducible refine aI ?_ ?_);focus (exact q3 (by omega)))
   |((with_reducible refine aI ?_ ?_);focus (first|omega|exact tK|(simp only[List.length_append,bytesOf_length,List.toList_toArray,List.length_cons,List.length_nil,List.length_take,List.length_drop,A0];omega)))
   |(split<;>rename_i hh<;>(try simp only[wS] at hh))
   |with_reducible refine lnI fun hln=>?_
   |fail)<;>(conv=>whnf)))
  all_goals (try (show _=_;simp only[wQ]))
  ·(conv=>whnf)
   refine⟨(i+1:Nat),[],?_,⟨⟨rfl,(nB rfl),rfl⟩,?_,?_⟩⟩
   ·exact⟨show i+1≤l.length by omega,show l.length - (i+1)<l.length - i by omega⟩
   ·(conv=>whnf)
    (repeat' ((first|with_reducible exact⟨⟩|((with_reducible refine aI ?_ ?_);focus (exact tA))|with_reducible refine iA ?_ ?_|fail)<;>(conv=>whnf)))
    all_goals (try simp only[wQ])
    all_goals (try first|omega|exact⟨fun h=>h,fun _ _=>True.intro⟩)
    rw[Uc (by omega),if_neg (by omega)]
   ·exact tL
  ·(conv=>whnf)
   refine⟨(i+1:Nat),[],?_,⟨⟨rfl,(nB rfl),rfl⟩,?_,?_⟩⟩
   ·exact⟨show i+1≤l.length by omega,show l.length - (i+1)<l.length - i by omega⟩
   ·(conv=>whnf)
    (repeat' ((first|with_reducible exact⟨⟩|((with_reducible refine aI ?_ ?_);focus (exact tA))|with_reducible refine iA ?_ ?_|fail)<;>(conv=>whnf)))
    all_goals (try simp only[wQ])
    all_goals (try first|omega|exact⟨fun h=>h,fun _ _=>True.intro⟩)
    obtain rfl:i=0:=by omega
    rw[Uc (by omega),if_pos rfl];simp[Lib.join_nil]
   ·exact tL
  ·unfold Cf;rw[List.take_of_length_le (by omega)]
theorem Gx(r:Request):Ba r 75=Fp r.key:=by unfold Ba;rw[if_pos rfl]
theorem Gy(r:Request):Ba r 68=Fy r.day:=by unfold Ba;rw[if_neg (by decide),if_pos rfl]
theorem Lr(r:Request):Ba r 76=Fx r.locator:=by unfold Ba;rw[if_neg (by decide),if_neg (by decide),if_pos rfl]
theorem Gz(r:Request):Ba r 84=Ee r.ticket:=by unfold Ba;rw[if_neg (by decide),if_neg (by decide),if_neg (by decide),if_pos rfl]
theorem Kd(r:Request):Ba r 78=(decide (1≤r.coupon)&&decide (r.coupon≤4)):=by unfold Ba;rw[if_neg (by decide),if_neg (by decide),if_neg (by decide),if_neg (by decide),if_pos rfl]
theorem Nb(r:Request):Ba r 83=Ir r.status:=by unfold Ba;rw[if_neg (by decide),if_neg (by decide),if_neg (by decide),if_neg (by decide),if_neg (by decide),if_pos rfl]
theorem Ls(r:Request):Ba r 65=Dh r.amount:=by unfold Ba;rw[if_neg (by decide),if_neg (by decide),if_neg (by decide),if_neg (by decide),if_neg (by decide),if_neg (by decide),if_pos rfl]
theorem Nc(r:Request):Ba r 74=E8 12 r.coupons:=by unfold Ba;rw[if_neg (by decide),if_neg (by decide),if_neg (by decide),if_neg (by decide),if_neg (by decide),if_neg (by decide),if_neg (by decide),if_pos rfl]
theorem Nf(r:Request):Ba r 67=E8 4 r.coupons:=by unfold Ba;rw[if_neg (by decide),if_neg (by decide),if_neg (by decide),if_neg (by decide),if_neg (by decide),if_neg (by decide),if_neg (by decide),if_neg (by decide),if_pos rfl]
theorem Lt(r:Request):Ba r 88=De r.taxes:=by unfold Ba;rw[if_neg (by decide),if_neg (by decide),if_neg (by decide),if_neg (by decide),if_neg (by decide),if_neg (by decide),if_neg (by decide),if_neg (by decide),if_neg (by decide),if_pos rfl]
theorem Ng(r:Request):Ba r 82=(Fy r.frm&&Fy r.til):=by unfold Ba;rw[if_neg (by decide),if_neg (by decide),if_neg (by decide),if_neg (by decide),if_neg (by decide),if_neg (by decide),if_neg (by decide),if_neg (by decide),if_neg (by decide),if_neg (by decide)]
def Br(r:Request):List (List UInt8):=cond (eqI r.kind 1) [[105,115,115,117,101],r.key,Lib.itoa r.day,r.locator,Cf r.coupons,B7 r.taxes] (cond (eqI r.kind 2) [[109,111,118,101],r.key,Lib.itoa r.day,A7 r.ticket,Lib.itoa r.coupon,Dg r.status] (cond (eqI r.kind 3) [[118,111,105,100],r.key,Lib.itoa r.day,A7 r.ticket] (cond (eqI r.kind 4) [[114,101,102,117,110,100],r.key,Lib.itoa r.day,A7 r.ticket,Du r.amount] (cond (eqI r.kind 5) [[101,120,99,104,97,110,103,101],r.key,Lib.itoa r.day,A7 r.ticket,Du r.amount,Cf r.coupons,B7 r.taxes] (cond (eqI r.kind 6) [[97,115,107],r.key,Lib.itoa r.day,A7 r.ticket,Lib.itoa r.coupon] (cond (eqI r.kind 7) [[114,101,116,117,114,110],r.key,Lib.itoa r.day,A7 r.ticket,Lib.itoa r.coupon] (cond (eqI r.kind 8) [[115,104,111,119],A7 r.ticket] (cond (eqI r.kind 9) [[102,105,110,100],r.locator] (cond (eqI r.kind 10) [[114,101,112,111,114,116],Lib.itoa r.frm,Lib.itoa r.til] ([]))))))))))
@[irreducible] def Bu(r:Request):List UInt8:=if Ah r=true then Lib.join (Br r) [32] else []
theorem Aqt{r:Request}(h:Ah r=false):Bu r=[]:=by unfold Bu;rw[h];rfl
theorem H9{r:Request}(h:r.kind=1)(hm:Ah r=true):Fp r.key=true∧Fy r.day=true∧Fx r.locator=true∧E8 12 r.coupons=true∧De r.taxes=true:=by
 rw[Tb h] at hm
 simp only[Gx,Gy,Lr,Nc,Lt,Bool.and_eq_true,decide_eq_true_eq] at hm
 simp only[hm,and_self]
theorem Ke{r:Request}(h:r.kind=1):Br r=[[105,115,115,117,101],r.key,Lib.itoa r.day,r.locator,Cf r.coupons,B7 r.taxes]:=by unfold Br;rw[h];rfl
theorem Ago{r:Request}(h:r.kind=1)(hm:Ah r=true):Bu r=[105,115,115,117,101]++[32]++r.key++[32]++Lib.itoa r.day++[32]++r.locator++[32]++Cf r.coupons++[32]++B7 r.taxes:=by
 unfold Bu
 rw[if_pos hm,Ke h]
 simp only[F0,Lib.join_one,List.append_assoc,List.cons_append,List.nil_append]
theorem Kf{r:Request}(h:r.kind=2)(hm:Ah r=true):Fp r.key=true∧Fy r.day=true∧Ee r.ticket=true∧(1≤r.coupon∧r.coupon≤4)∧Ir r.status=true:=by
 rw[Xw h] at hm
 simp only[Gx,Gy,Gz,Kd,Nb,Bool.and_eq_true,decide_eq_true_eq] at hm
 simp only[hm,and_self]
theorem Kg{r:Request}(h:r.kind=2):Br r=[[109,111,118,101],r.key,Lib.itoa r.day,A7 r.ticket,Lib.itoa r.coupon,Dg r.status]:=by unfold Br;rw[h];rfl
theorem Anq{r:Request}(h:r.kind=2)(hm:Ah r=true):Bu r=[109,111,118,101]++[32]++r.key++[32]++Lib.itoa r.day++[32]++A7 r.ticket++[32]++Lib.itoa r.coupon++[32]++Dg r.status:=by
 unfold Bu
 rw[if_pos hm,Kg h]
 simp only[F0,Lib.join_one,List.append_assoc,List.cons_append,List.nil_append]
theorem Kh{r:Request}(h:r.kind=3)(hm:Ah r=true):Fp r.key=true∧Fy r.day=true∧Ee r.ticket=true:=by
 rw[Xx h] at hm
 simp only[Gx,Gy,Gz,Bool.and_eq_true,decide_eq_true_eq] at hm
 simp only[hm,and_self]
theorem Ki{r:Request}(h:r.kind=3):Br r=[[118,111,105,100],r.key,Lib.itoa r.day,A7 r.ticket]:=by unfold Br;rw[h];rfl
theorem Anr{r:Request}(h:r.kind=3)(hm:Ah r=true):Bu r=[118,111,105,100]++[32]++r.key++[32]++Lib.itoa r.day++[32]++A7 r.ticket:=by
 unfold Bu
 rw[if_pos hm,Ki h]
 simp only[F0,Lib.join_one,List.append_assoc,List.cons_append,List.nil_append]
theorem Kj{r:Request}(h:r.kind=4)(hm:Ah r=true):Fp r.key=true∧Fy r.day=true∧Ee r.ticket=true∧Dh r.amount=true:=by
 rw[Xy h] at hm
 simp only[Gx,Gy,Gz,Ls,Bool.and_eq_true,decide_eq_true_eq] at hm
 simp only[hm,and_self]
theorem Kk{r:Request}(h:r.kind=4):Br r=[[114,101,102,117,110,100],r.key,Lib.itoa r.day,A7 r.ticket,Du r.amount]:=by unfold Br;rw[h];rfl
theorem Ans{r:Request}(h:r.kind=4)(hm:Ah r=true):Bu r=[114,101,102,117,110,100]++[32]++r.key++[32]++Lib.itoa r.day++[32]++A7 r.ticket++[32]++Du r.amount:=by
 unfold Bu
 rw[if_pos hm,Kk h]
 simp only[F0,Lib.join_one,List.append_assoc,List.cons_append,List.nil_append]
theorem Ia{r:Request}(h:r.kind=5)(hm:Ah r=true):Fp r.key=true∧Fy r.day=true∧Ee r.ticket=true∧Dh r.amount=true∧E8 4 r.coupons=true∧De r.taxes=true:=by
 rw[Xz h] at hm
 simp only[Gx,Gy,Gz,Ls,Nf,Lt,Bool.and_eq_true,decide_eq_true_eq] at hm
 simp only[hm,and_self]
theorem Kl{r:Request}(h:r.kind=5):Br r=[[101,120,99,104,97,110,103,101],r.key,Lib.itoa r.day,A7 r.ticket,Du r.amount,Cf r.coupons,B7 r.taxes]:=by unfold Br;rw[h];rfl
theorem Ant{r:Request}(h:r.kind=5)(hm:Ah r=true):Bu r=[101,120,99,104,97,110,103,101]++[32]++r.key++[32]++Lib.itoa r.day++[32]++A7 r.ticket++[32]++Du r.amount++[32]++Cf r.coupons++[32]++B7 r.taxes:=by
 unfold Bu
 rw[if_pos hm,Kl h]
 simp only[F0,Lib.join_one,List.append_assoc,List.cons_append,List.nil_append]
theorem Km{r:Request}(h:r.kind=6)(hm:Ah r=true):Fp r.key=true∧Fy r.day=true∧Ee r.ticket=true∧(1≤r.coupon∧r.coupon≤4):=by
 rw[X0 h] at hm
 simp only[Gx,Gy,Gz,Kd,Bool.and_eq_true,decide_eq_true_eq] at hm
 simp only[hm,and_self]
theorem Kn{r:Request}(h:r.kind=6):Br r=[[97,115,107],r.key,Lib.itoa r.day,A7 r.ticket,Lib.itoa r.coupon]:=by unfold Br;rw[h];rfl
theorem Anu{r:Request}(h:r.kind=6)(hm:Ah r=true):Bu r=[97,115,107]++[32]++r.key++[32]++Lib.itoa r.day++[32]++A7 r.ticket++[32]++Lib.itoa r.coupon:=by
 unfold Bu
 rw[if_pos hm,Kn h]
 simp only[F0,Lib.join_one,List.append_assoc,List.cons_append,List.nil_append]
theorem Ko{r:Request}(h:r.kind=7)(hm:Ah r=true):Fp r.key=true∧Fy r.day=true∧Ee r.ticket=true∧(1≤r.coupon∧r.coupon≤4):=by
 rw[X1 h] at hm
 simp only[Gx,Gy,Gz,Kd,Bool.and_eq_true,decide_eq_true_eq] at hm
 simp only[hm,and_self]
theorem Kp{r:Request}(h:r.kind=7):Br r=[[114,101,116,117,114,110],r.key,Lib.itoa r.day,A7 r.ticket,Lib.itoa r.coupon]:=by unfold Br;rw[h];rfl
theorem Anv{r:Request}(h:r.kind=7)(hm:Ah r=true):Bu r=[114,101,116,117,114,110]++[32]++r.key++[32]++Lib.itoa r.day++[32]++A7 r.ticket++[32]++Lib.itoa r.coupon:=by
 unfold Bu
 rw[if_pos hm,Kp h]
 simp only[F0,Lib.join_one,List.append_assoc,List.cons_append,List.nil_append]
theorem Wk{r:Request}(h:r.kind=8)(hm:Ah r=true):Ee r.ticket=true:=by
 rw[X2 h] at hm
 simp only[Gz,Bool.and_eq_true,decide_eq_true_eq] at hm
 simp only[hm,and_self]
theorem Kq{r:Request}(h:r.kind=8):Br r=[[115,104,111,119],A7 r.ticket]:=by unfold Br;rw[h];rfl
theorem Anw{r:Request}(h:r.kind=8)(hm:Ah r=true):Bu r=[115,104,111,119]++[32]++A7 r.ticket:=by
 unfold Bu
 rw[if_pos hm,Kq h]
 simp only[F0,Lib.join_one,List.append_assoc,List.cons_append,List.nil_append]
theorem Kr{r:Request}(h:r.kind=9)(hm:Ah r=true):Fx r.locator=true:=by
 rw[X3 h] at hm
 simp only[Lr,Bool.and_eq_true,decide_eq_true_eq] at hm
 simp only[hm,and_self]
theorem Ks{r:Request}(h:r.kind=9):Br r=[[102,105,110,100],r.locator]:=by unfold Br;rw[h];rfl
theorem Anx{r:Request}(h:r.kind=9)(hm:Ah r=true):Bu r=[102,105,110,100]++[32]++r.locator:=by
 unfold Bu
 rw[if_pos hm,Ks h]
 simp only[F0,Lib.join_one,List.append_assoc,List.cons_append,List.nil_append]
theorem Td{r:Request}(h:r.kind=10)(hm:Ah r=true):(Fy r.frm=true∧Fy r.til=true):=by
 rw[Ug h] at hm
 simp only[Ng,Bool.and_eq_true,decide_eq_true_eq] at hm
 simp only[hm,and_self]
theorem Io{r:Request}(h:r.kind=10):Br r=[[114,101,112,111,114,116],Lib.itoa r.frm,Lib.itoa r.til]:=by unfold Br;rw[h];rfl
theorem Ahz{r:Request}(h:r.kind=10)(hm:Ah r=true):Bu r=[114,101,112,111,114,116]++[32]++Lib.itoa r.frm++[32]++Lib.itoa r.til:=by
 unfold Bu
 rw[if_pos hm,Io h]
 simp only[F0,Lib.join_one,List.append_assoc,List.cons_append,List.nil_append]
theorem Eu{s:List UInt8}(h:Fp s=true):s.length≤16:=by
 unfold Fp at h;simp only[Bool.and_eq_true,decide_eq_true_eq] at h;omega
theorem Ev{m:Int}{l:List Coupon}(h:E8 m l=true):1≤l.length∧(l.length:Int)≤m∧∀ c ∈ l,Hg c 0=true:=by
 unfold E8 at h;simp only[Bool.and_eq_true,decide_eq_true_eq,List.all_eq_true] at h
 exact⟨h.1.2,h.2,h.1.1⟩
theorem bN{c:Coupon}{s:Int}(h:Hg c s=true):Do c.value=true:=by
 unfold Hg at h
 simp only[Bool.and_eq_true] at h
 exact Es (by simp only[h])
theorem Q4{n:Int}(h:Ee n=true):A7 n=decDigits n.toNat:=by
 unfold Ee at h;unfold A7;rw[if_pos (by simpa using h)]
def gV:PC:=PC.of (fun r:Request=>[.agg r.enc]) (fun r=>Ah r=true) (fun r=>.str (sS (Bu r)))
def Ei:PT:=C2 [(49,fO),(75,Ahu),(80,Ahv),(81,Sm),(82,Xl),(83,fY),(84,qL),(85,Abv)]
theorem Hb{W:World}(hW:Tabs W):Cl (Fw W) Tryz.prog Ei:=(Ab Tryz.call49 (Gf hW) (Ab Tryz.call75 (I1 hW) (Ab Tryz.call80 (U8 hW) (Ab Tryz.call81 (K2 hW) (Ab Tryz.call82 (Sr hW) (Ab Tryz.call83 (M4 hW) (Ab Tryz.call84 (Rz hW) (Ab Tryz.call85 (U7 hW) As))))))))
def Ej:FuncId→Option Ctr:=Aw Ei []
theorem Nz{W:World}(hW:Tabs W):Ad (Fw W) Tryz.prog Ej:=(Au (Hb hW))
def N0:Request→Nat→Option LR:=fun r i=>cond (Nat.beq i 4) (some (.unroll 7)) (none)
set_option maxHeartbeats 4000000 in
theorem N1{W:World}(hW:Tabs W):GoodP (Fw W) Tryz.prog 27 gV:=by
 have hD:=Hb hW
 have hC0:∀ r:Request,Ad (Fw W) Tryz.prog Ej:=fun r=>(Nz hW)
 refine Ar (D:=Ei) (C:=fun r=>Ej) (wr:=(fun _=>false)) rfl Ap hD hC0 Tryz.func27 (N0) (fun _=>rfl) ?_
 rintro⟨key,kind,day,ticket,coupon,status,locator,coupons,taxes,amount,frm,til⟩ hf hp
 by_cases h:1≤kind∧kind≤10
 ·rcases kinds h with rfl|rfl|rfl|rfl|rfl|rfl|rfl|rfl|rfl|rfl
  ·have hw:=Ago (r:=⟨key,1,day,ticket,coupon,status,locator,coupons,taxes,amount,frm,til⟩) rfl hp
   have hm:=H9 (r:=⟨key,1,day,ticket,coupon,status,locator,coupons,taxes,amount,frm,til⟩) rfl hp
   dsimp only at hm hw
   obtain⟨mK,mD,mL,mJ,mX⟩:=hm
   have hfc:Ax [slE 6 Coupon.enc coupons]:=⟨hf.1.2.2.2.2.2.2.2.1,True.intro⟩
   have hft:Ax [slE 2 Tax.enc taxes]:=⟨hf.1.2.2.2.2.2.2.2.2.1,True.intro⟩
   simp only[Ax,Bh,Am,Go.Vc.lo,Go.Vc.hi,and_true] at hf
   have lK:=Eu mK
   have lD:=Bl day (by omega) (by omega)
   have lL:=Ub mL
   obtain⟨j1,j2,j3⟩:=Ev mJ
   have jW:(Cf coupons).length≤3000:=by unfold Cf;have:=X7 (l:=coupons) hfc (by omega) coupons.length;rwa[List.take_length] at this
   have lX:(B7 taxes).length≤1000:=Wd (G8 mX).1 (P0 hft)
   have nl:(D2.getD (Int.toNat ((1:Int) - 1)) []).length=5:=rfl
   clear hf hfc hft
   (conv=>whnf)
   (repeat' ((first
    |((with_reducible refine aI ?_ ?_);focus (refine⟨?_,?_⟩<;>exact of_decide_eq_true rfl))
    |((with_reducible refine aI ?_ ?_);focus (first|with_reducible exact⟨⟩|exact tO|exact tK|(simp only[List.length_append,bytesOf_length,List.toList_toArray,List.length_cons,List.length_nil,List.length_take,List.length_drop,A0];omega)))
    |with_reducible refine lnI fun hln=>?_
    |fail)<;>(conv=>whnf)))
   refine⟨coupons,⟨by omega,fun c hc=>bN (j3 c hc)⟩,?_,?_⟩
   ·exact Ac _
   (conv=>whnf)
   (repeat' ((first
    |((with_reducible refine aI ?_ ?_);focus (refine⟨?_,?_⟩<;>exact of_decide_eq_true rfl))
    |((with_reducible refine aI ?_ ?_);focus (first|exact tK|(simp only[List.length_append,bytesOf_length,List.toList_toArray,List.length_cons,List.length_nil,List.length_take,List.length_drop,A0];omega)))
    |with_reducible refine lnI fun hln=>?_
    |fail)<;>(conv=>whnf)))
   refine⟨taxes,mX,?_,?_⟩
   ·exact Ac _
   (conv=>whnf)
   (repeat' ((first
    |((with_reducible refine aI ?_ ?_);focus (first|exact tK|(simp only[List.length_append,bytesOf_length,List.toList_toArray,List.length_cons,List.length_nil,List.length_take,List.length_drop,A0];omega)))
    |with_reducible refine lnI fun hln=>?_
    |fail)<;>(conv=>whnf)))
   all_goals (try (show _=_;simp only[wQ]))
   rw[hw];rfl
  ·have hw:=Anq (r:=⟨key,2,day,ticket,coupon,status,locator,coupons,taxes,amount,frm,til⟩) rfl hp
   have hm:=Kf (r:=⟨key,2,day,ticket,coupon,status,locator,coupons,taxes,amount,frm,til⟩) rfl hp
   dsimp only at hm hw
   obtain⟨mK,mD,mT,mN,mS⟩:=hm
   have hfc:Ax [slE 6 Coupon.enc coupons]:=⟨hf.1.2.2.2.2.2.2.2.1,True.intro⟩
   have hft:Ax [slE 2 Tax.enc taxes]:=⟨hf.1.2.2.2.2.2.2.2.2.1,True.intro⟩
   simp only[Ax,Bh,Am,Go.Vc.lo,Go.Vc.hi,and_true] at hf
   have lK:=Eu mK
   have lD:=Bl day (by omega) (by omega)
   have lT:=Fi ticket
   have eT:=Q4 mT
   have lU:(decDigits ticket.toNat).length≤32:=by rw[←eT];omega
   have lN:=Bl coupon (by omega) (by omega)
   have lS:=bH status
   have nl:(D2.getD (Int.toNat ((2:Int) - 1)) []).length=4:=rfl
   clear hf hfc hft
   (conv=>whnf)
   (repeat' ((first
    |((with_reducible refine aI ?_ ?_);focus (refine⟨?_,?_⟩<;>exact of_decide_eq_true rfl))
    |((with_reducible refine aI ?_ ?_);focus (first|with_reducible exact⟨⟩|exact tO|exact tK|(simp only[List.length_append,bytesOf_length,List.toList_toArray,List.length_cons,List.length_nil,List.length_take,List.length_drop,A0];omega)))
    |with_reducible refine lnI fun hln=>?_
    |fail)<;>(conv=>whnf)))
   all_goals (try (show _=_;simp only[wQ]))
   rw[hw,eT];rfl
  ·have hw:=Anr (r:=⟨key,3,day,ticket,coupon,status,locator,coupons,taxes,amount,frm,til⟩) rfl hp
   have hm:=Kh (r:=⟨key,3,day,ticket,coupon,status,locator,coupons,taxes,amount,frm,til⟩) rfl hp
   dsimp only at hm hw
   obtain⟨mK,mD,mT⟩:=hm
   have hfc:Ax [slE 6 Coupon.enc coupons]:=⟨hf.1.2.2.2.2.2.2.2.1,True.intro⟩
   have hft:Ax [slE 2 Tax.enc taxes]:=⟨hf.1.2.2.2.2.2.2.2.2.1,True.intro⟩
   simp only[Ax,Bh,Am,Go.Vc.lo,Go.Vc.hi,and_true] at hf
   have lK:=Eu mK
   have lD:=Bl day (by omega) (by omega)
   have lT:=Fi ticket
   have eT:=Q4 mT
   have lU:(decDigits ticket.toNat).length≤32:=by rw[←eT];omega
   have nl:(D2.getD (Int.toNat ((3:Int) - 1)) []).length=4:=rfl
   clear hf hfc hft
   (conv=>whnf)
   (repeat' ((first
    |((with_reducible refine aI ?_ ?_);focus (refine⟨?_,?_⟩<;>exact of_decide_eq_true rfl))
    |((with_reducible refine aI ?_ ?_);focus (first|with_reducible exact⟨⟩|exact tO|exact tK|(simp only[List.length_append,bytesOf_length,List.toList_toArray,List.length_cons,List.length_nil,List.length_take,List.length_drop,A0];omega)))
    |with_reducible refine lnI fun hln=>?_
    |fail)<;>(conv=>whnf)))
   all_goals (try (show _=_;simp only[wQ]))
   rw[hw,eT];rfl
  ·have hw:=Ans (r:=⟨key,4,day,ticket,coupon,status,locator,coupons,taxes,amount,frm,til⟩) rfl hp
   have hm:=Kj (r:=⟨key,4,day,ticket,coupon,status,locator,coupons,taxes,amount,frm,til⟩) rfl hp
   dsimp only at hm hw
   obtain⟨mK,mD,mT,mA⟩:=hm
   have hfc:Ax [slE 6 Coupon.enc coupons]:=⟨hf.1.2.2.2.2.2.2.2.1,True.intro⟩
   have hft:Ax [slE 2 Tax.enc taxes]:=⟨hf.1.2.2.2.2.2.2.2.2.1,True.intro⟩
   simp only[Ax,Bh,Am,Go.Vc.lo,Go.Vc.hi,and_true] at hf
   have lK:=Eu mK
   have lD:=Bl day (by omega) (by omega)
   have lT:=Fi ticket
   have eT:=Q4 mT
   have lU:(decDigits ticket.toNat).length≤32:=by rw[←eT];omega
   have eA:=G7 (Es mA)
   have lA:=G5 amount
   have lM:(Gu amount).length≤31:=by rw[eA];exact lA
   have oA:=Z0 (Es mA)
   have nl:(D2.getD (Int.toNat ((4:Int) - 1)) []).length=6:=rfl
   clear hf hfc hft
   (conv=>whnf)
   (repeat' ((first
    |((with_reducible refine aI ?_ ?_);focus (refine⟨?_,?_⟩<;>exact of_decide_eq_true rfl))
    |((with_reducible refine aI ?_ ?_);focus (first|with_reducible exact⟨⟩|with_reducible assumption|exact tO|exact tK|(simp only[List.length_append,bytesOf_length,List.toList_toArray,List.length_cons,List.length_nil,List.length_take,List.length_drop,A0];omega)))
    |with_reducible refine lnI fun hln=>?_
    |fail)<;>(conv=>whnf)))
   all_goals (try (show _=_;simp only[wQ]))
   rw[hw,eT,eA];rfl
  ·have hw:=Ant (r:=⟨key,5,day,ticket,coupon,status,locator,coupons,taxes,amount,frm,til⟩) rfl hp
   have hm:=Ia (r:=⟨key,5,day,ticket,coupon,status,locator,coupons,taxes,amount,frm,til⟩) rfl hp
   dsimp only at hm hw
   obtain⟨mK,mD,mT,mA,mC,mX⟩:=hm
   have hfc:Ax [slE 6 Coupon.enc coupons]:=⟨hf.1.2.2.2.2.2.2.2.1,True.intro⟩
   have hft:Ax [slE 2 Tax.enc taxes]:=⟨hf.1.2.2.2.2.2.2.2.2.1,True.intro⟩
   simp only[Ax,Bh,Am,Go.Vc.lo,Go.Vc.hi,and_true] at hf
   have lK:=Eu mK
   have lD:=Bl day (by omega) (by omega)
   have lT:=Fi ticket
   have eT:=Q4 mT
   have lU:(decDigits ticket.toNat).length≤32:=by rw[←eT];omega
   have eA:=G7 (Es mA)
   have lA:=G5 amount
   have lM:(Gu amount).length≤31:=by rw[eA];exact lA
   have oA:=Z0 (Es mA)
   obtain⟨j1,j2,j3⟩:=Ev mC
   have jW:(Cf coupons).length≤3000:=by unfold Cf;have:=X7 (l:=coupons) hfc (by omega) coupons.length;rwa[List.take_length] at this
   have lX:(B7 taxes).length≤1000:=Wd (G8 mX).1 (P0 hft)
   have nl:(D2.getD (Int.toNat ((5:Int) - 1)) []).length=8:=rfl
   clear hf hfc hft
   (conv=>whnf)
   (repeat' ((first
    |((with_reducible refine aI ?_ ?_);focus (refine⟨?_,?_⟩<;>exact of_decide_eq_true rfl))
    |((with_reducible refine aI ?_ ?_);focus (first|with_reducible exact⟨⟩|with_reducible assumption|exact tO|exact tK|(simp only[List.length_append,bytesOf_length,List.toList_toArray,List.length_cons,List.length_nil,List.length_take,List.length_drop,A0];omega)))
    |with_reducible refine lnI fun hln=>?_
    |fail)<;>(conv=>whnf)))
   refine⟨coupons,⟨by omega,fun c hc=>bN (j3 c hc)⟩,?_,?_⟩
   ·exact Ac _
   (conv=>whnf)
   (repeat' ((first
    |((with_reducible refine aI ?_ ?_);focus (refine⟨?_,?_⟩<;>exact of_decide_eq_true rfl))
    |((with_reducible refine aI ?_ ?_);focus (first|exact tK|(simp only[List.length_append,bytesOf_length,List.toList_toArray,List.length_cons,List.length_nil,List.length_take,List.length_drop,A0];omega)))
    |with_reducible refine lnI fun hln=>?_
    |fail)<;>(conv=>whnf)))
   refine⟨taxes,mX,?_,?_⟩
   ·exact Ac _
   (conv=>whnf)
   (repeat' ((first
    |((with_reducible refine aI ?_ ?_);focus (first|exact tK|(simp only[List.length_append,bytesOf_length,List.toList_toArray,List.length_cons,List.length_nil,List.length_take,List.length_drop,A0];omega)))
    |with_reducible refine lnI fun hln=>?_
    |fail)<;>(conv=>whnf)))
   all_goals (try (show _=_;simp only[wQ]))
   rw[hw,eT,eA];rfl
  ·have hw:=Anu (r:=⟨key,6,day,ticket,coupon,status,locator,coupons,taxes,amount,frm,til⟩) rfl hp
   have hm:=Km (r:=⟨key,6,day,ticket,coupon,status,locator,coupons,taxes,amount,frm,til⟩) rfl hp
   dsimp only at hm hw
   obtain⟨mK,mD,mT,mN⟩:=hm
   have hfc:Ax [slE 6 Coupon.enc coupons]:=⟨hf.1.2.2.2.2.2.2.2.1,True.intro⟩
   have hft:Ax [slE 2 Tax.enc taxes]:=⟨hf.1.2.2.2.2.2.2.2.2.1,True.intro⟩
   simp only[Ax,Bh,Am,Go.Vc.lo,Go.Vc.hi,and_true] at hf
   have lK:=Eu mK
   have lD:=Bl day (by omega) (by omega)
   have lT:=Fi ticket
   have eT:=Q4 mT
   have lU:(decDigits ticket.toNat).length≤32:=by rw[←eT];omega
   have lN:=Bl coupon (by omega) (by omega)
   have nl:(D2.getD (Int.toNat ((6:Int) - 1)) []).length=3:=rfl
   clear hf hfc hft
   (conv=>whnf)
   (repeat' ((first
    |((with_reducible refine aI ?_ ?_);focus (refine⟨?_,?_⟩<;>exact of_decide_eq_true rfl))
    |((with_reducible refine aI ?_ ?_);focus (first|with_reducible exact⟨⟩|exact tO|exact tK|(simp only[List.length_append,bytesOf_length,List.toList_toArray,List.length_cons,List.length_nil,List.length_take,List.length_drop,A0];omega)))
    |with_reducible refine lnI fun hln=>?_
    |fail)<;>(conv=>whnf)))
   all_goals (try (show _=_;simp only[wQ]))
   rw[hw,eT];rfl
  ·have hw:=Anv (r:=⟨key,7,day,ticket,coupon,status,locator,coupons,taxes,amount,frm,til⟩) rfl hp
   have hm:=Ko (r:=⟨key,7,day,ticket,coupon,status,locator,coupons,taxes,amount,frm,til⟩) rfl hp
   dsimp only at hm hw
   obtain⟨mK,mD,mT,mN⟩:=hm
   have hfc:Ax [slE 6 Coupon.enc coupons]:=⟨hf.1.2.2.2.2.2.2.2.1,True.intro⟩
   have hft:Ax [slE 2 Tax.enc taxes]:=⟨hf.1.2.2.2.2.2.2.2.2.1,True.intro⟩
   simp only[Ax,Bh,Am,Go.Vc.lo,Go.Vc.hi,and_true] at hf
   have lK:=Eu mK
   have lD:=Bl day (by omega) (by omega)
   have lT:=Fi ticket
   have eT:=Q4 mT
   have lU:(decDigits ticket.toNat).length≤32:=by rw[←eT];omega
   have lN:=Bl coupon (by omega) (by omega)
   have nl:(D2.getD (Int.toNat ((7:Int) - 1)) []).length=6:=rfl
   clear hf hfc hft
   (conv=>whnf)
   (repeat' ((first
    |((with_reducible refine aI ?_ ?_);focus (refine⟨?_,?_⟩<;>exact of_decide_eq_true rfl))
    |((with_reducible refine aI ?_ ?_);focus (first|with_reducible exact⟨⟩|exact tO|exact tK|(simp only[List.length_append,bytesOf_length,List.toList_toArray,List.length_cons,List.length_nil,List.length_take,List.length_drop,A0];omega)))
    |with_reducible refine lnI fun hln=>?_
    |fail)<;>(conv=>whnf)))
   all_goals (try (show _=_;simp only[wQ]))
   rw[hw,eT];rfl
  ·have hw:=Anw (r:=⟨key,8,day,ticket,coupon,status,locator,coupons,taxes,amount,frm,til⟩) rfl hp
   have hm:=Wk (r:=⟨key,8,day,ticket,coupon,status,locator,coupons,taxes,amount,frm,til⟩) rfl hp
   dsimp only at hm hw
   have mT:=hm
   have hfc:Ax [slE 6 Coupon.enc coupons]:=⟨hf.1.2.2.2.2.2.2.2.1,True.intro⟩
   have hft:Ax [slE 2 Tax.enc taxes]:=⟨hf.1.2.2.2.2.2.2.2.2.1,True.intro⟩
   simp only[Ax,Bh,Am,Go.Vc.lo,Go.Vc.hi,and_true] at hf
   have lT:=Fi ticket
   have eT:=Q4 mT
   have lU:(decDigits ticket.toNat).length≤32:=by rw[←eT];omega
   have nl:(D2.getD (Int.toNat ((8:Int) - 1)) []).length=4:=rfl
   clear hf hfc hft
   (conv=>whnf)
   (repeat' ((first
    |((with_reducible refine aI ?_ ?_);focus (refine⟨?_,?_⟩<;>exact of_decide_eq_true rfl))
    |((with_reducible refine aI ?_ ?_);focus (first|with_reducible exact⟨⟩|exact tO|exact tK|(simp only[List.length_append,bytesOf_length,List.toList_toArray,List.length_cons,List.length_nil,List.length_take,List.length_drop,A0];omega)))
    |with_reducible refine lnI fun hln=>?_
    |fail)<;>(conv=>whnf)))
   all_goals (try (show _=_;simp only[wQ]))
   rw[hw,eT];rfl
  ·have hw:=Anx (r:=⟨key,9,day,ticket,coupon,status,locator,coupons,taxes,amount,frm,til⟩) rfl hp
   have hm:=Kr (r:=⟨key,9,day,ticket,coupon,status,locator,coupons,taxes,amount,frm,til⟩) rfl hp
   dsimp only at hm hw
   have mL:=hm
   have hfc:Ax [slE 6 Coupon.enc coupons]:=⟨hf.1.2.2.2.2.2.2.2.1,True.intro⟩
   have hft:Ax [slE 2 Tax.enc taxes]:=⟨hf.1.2.2.2.2.2.2.2.2.1,True.intro⟩
   simp only[Ax,Bh,Am,Go.Vc.lo,Go.Vc.hi,and_true] at hf
   have lL:=Ub mL
   have nl:(D2.getD (Int.toNat ((9:Int) - 1)) []).length=4:=rfl
   clear hf hfc hft
   (conv=>whnf)
   (repeat' ((first
    |((with_reducible refine aI ?_ ?_);focus (refine⟨?_,?_⟩<;>exact of_decide_eq_true rfl))
    |((with_reducible refine aI ?_ ?_);focus (first|with_reducible exact⟨⟩|exact tO|exact tK|(simp only[List.length_append,bytesOf_length,List.toList_toArray,List.length_cons,List.length_nil,List.length_take,List.length_drop,A0];omega)))
    |with_reducible refine lnI fun hln=>?_
    |fail)<;>(conv=>whnf)))
   all_goals (try (show _=_;simp only[wQ]))
   rw[hw];rfl
  ·have hw:=Ahz (r:=⟨key,10,day,ticket,coupon,status,locator,coupons,taxes,amount,frm,til⟩) rfl hp
   have hm:=Td (r:=⟨key,10,day,ticket,coupon,status,locator,coupons,taxes,amount,frm,til⟩) rfl hp
   dsimp only at hm hw
   have mR:=hm
   have hfc:Ax [slE 6 Coupon.enc coupons]:=⟨hf.1.2.2.2.2.2.2.2.1,True.intro⟩
   have hft:Ax [slE 2 Tax.enc taxes]:=⟨hf.1.2.2.2.2.2.2.2.2.1,True.intro⟩
   simp only[Ax,Bh,Am,Go.Vc.lo,Go.Vc.hi,and_true] at hf
   have lR:=Bl frm (by omega) (by omega)
   have lQ:=Bl til (by omega) (by omega)
   have nl:(D2.getD (Int.toNat ((10:Int) - 1)) []).length=6:=rfl
   clear hf hfc hft
   (conv=>whnf)
   (repeat' ((first
    |((with_reducible refine aI ?_ ?_);focus (refine⟨?_,?_⟩<;>exact of_decide_eq_true rfl))
    |((with_reducible refine aI ?_ ?_);focus (first|with_reducible exact⟨⟩|exact tO|exact tK|(simp only[List.length_append,bytesOf_length,List.toList_toArray,List.length_cons,List.length_nil,List.length_take,List.length_drop,A0];omega)))
    |with_reducible refine lnI fun hln=>?_
    |fail)<;>(conv=>whnf)))
   all_goals (try (show _=_;simp only[wQ]))
   rw[hw];rfl
 ·exact absurd (P9 (r:=⟨key,kind,day,ticket,coupon,status,locator,coupons,taxes,amount,frm,til⟩) h) (by rw[hp];exact Bool.false_ne_true.symm)
end
end Go.Vc.Z
