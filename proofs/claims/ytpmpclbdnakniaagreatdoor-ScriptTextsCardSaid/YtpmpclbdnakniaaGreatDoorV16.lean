/- The line of a request, the document's. -/
import Derived.Test.YtpmpclbdnakniaaGreatDoorV14
import Derived.Test.YtpmpclbdnakniaaGreatDoorV15
set_option linter.all false
namespace Go.Vc.Z
open Go Go.Vc Go.Proofs Go.RowKit Go.Pl Go.Lib
noncomputable section
set_option maxRecDepth 100000
attribute [local irreducible] inK Utf8.decode Utf8.encode Lib.itoa Pl.worth Pl.allDig
attribute [local irreducible] Lib.join
@[irreducible] def Bu(l:List Coupon):List UInt8:=Lib.join (l.map Bi) [44]
def uD:PC:=PC.of (fun l:List Coupon=>[slE 6 Coupon.enc l]) (fun l=>l.length≤12∧∀ c ∈ l,C4 c.value=true) (fun l=>.str (sS (Bu l)))
def LFl(l:List Coupon):LoopSpec:={
 α:=Nat
 keep:=[0,3,4]
 vals i:=[slE 6 Coupon.enc l,.str (sS (Lib.join ((l.take i).map Bi) [44])),.int .i64 i]
 heap _:=[]
 ok i:=i≤l.length
 μ i:=l.length - i }
theorem Ae3{α:Type}[Inhabited α]{l:List α}{i:Nat}(h:i<l.length):l.getD (Int.toNat (i:Int)) default ∈ l:=by
 rw[show Int.toNat (i:Int)=i from rfl,List.getD_eq_getElem?_getD,List.getElem?_eq_getElem h];exact List.getElem_mem h
theorem U0{l:List Coupon}(h:Az [slE 6 Coupon.enc l]):∀ c ∈ l,(Bi c).length≤200:=by
 intro c hc;obtain⟨i,hi,rfl⟩:=List.getElem_of_mem hc;simp only[Az,Bd] at h;have h1:=h.1.2 i hi;rw[List.getD_eq_getElem?_getD,List.getElem?_eq_getElem hi] at h1;simp only[Option.getD_some] at h1;have l1:=Aev (c:=l[i]) (Aw.1 h1.2.1) (Aw.1 h1.2.2.1);omega
theorem Z5{l:List Coupon}(h:Az [slE 6 Coupon.enc l])(hl:l.length≤12)(i:Nat):(Lib.join ((l.take i).map Bi) [44]).length≤3000:=by
 have hw:=U0 h;have hj:=Lp [44] 200 ((l.take i).map Bi) (fun s hs=>by
  obtain⟨c,hc,rfl⟩:=List.mem_map.1 hs;exact hw c (List.mem_of_mem_take hc))
 have h4:((l.take i).map Bi).length≤12:=by simp;omega
 have:=Nat.mul_le_mul_right (200+[(44:UInt8)].length) h4;simp only[List.length_cons,List.length_nil] at this hj;omega
def Gm:PT:=Cg [(171,uB)]
theorem Kk{W:World}(hW:Tabs W):Cb (Fw W) Tryz.prog Gm:=(Ab Tryz.call171 (Uu hW) Aq)
def Gn:FuncId→Option Ctr:=Av Gm []
theorem Tu{W:World}(hW:Tabs W):Ad (Fw W) Tryz.prog Gn:=(Ar (Kk hW))
def Tv:List Coupon→Nat→Option LR:=fun l i=>cond (Nat.beq i 3) (some (.inv (LFl l))) (none)
set_option maxHeartbeats 2000000 in
theorem Tw{W:World}(hW:Tabs W):GoodP (Fw W) Tryz.prog 84 uD:=by
 have hD:=Kk hW;have hC0:∀ l:List Coupon,Ad (Fw W) Tryz.prog Gn:=fun l=>(Tu hW);refine As (D:=Gm) (C:=fun l=>Gn) (wr:=(fun _=>false)) rfl Ao hD hC0 Tryz.func84 (Tv) (fun _=>rfl) ?_;intro l hf hp;obtain⟨p1,p2⟩:=hp;have hj:=Z5 hf p1;have hw:=U0 hf;clear hf
 (conv=>whnf)
 refine⟨?_,fun(i:Nat) (hi:i≤l.length)=>?_⟩
 ·(conv=>whnf)
  refine⟨(0:Nat),[],?_,⟨⟨rfl,(nB rfl),rfl⟩,?_,?_⟩⟩
  ·exact Nat.zero_le _
  ·(conv=>whnf)
   (repeat' (first|with_reducible exact⟨⟩|refine tuA ?_|with_reducible refine iA ?_ ?_)<;>conv=>whnf)
   all_goals try simp only[wQ]
   all_goals (try first|omega|exact⟨fun h=>h,fun _ _=>True.intro⟩)
   simp[Lib.join_nil]
  ·exact tL
 ·have hj2:=hj i;have q2:i<l.length→(Bi ⟨(l.getD (Int.toNat (i:Int)) default).flight,(l.getD (Int.toNat (i:Int)) default).day,(l.getD (Int.toNat (i:Int)) default).value,(l.getD (Int.toNat (i:Int)) default).status,(l.getD (Int.toNat (i:Int)) default).holder,(l.getD (Int.toNat (i:Int)) default).next⟩).length≤200:=fun h=>hw _ (Ae3 h);have q3:i<l.length→C4 (l.getD (Int.toNat (i:Int)) default).value=true:=fun h=>p2 _ (Ae3 h)
  (conv=>whnf)
  (repeat' (first|((with_reducible refine aI ?_ ?_);focus (exact q3 (by omega)))|refine tuU ?_|split<;>rename_i hh<;>try simp only[wS] at hh|with_reducible refine lnI fun hln=>?_)<;>conv=>whnf)
  all_goals try(show _=_;simp only[wQ])
  ·(conv=>whnf)
   refine⟨(i+1:Nat),[],?_,⟨⟨rfl,(nB rfl),rfl⟩,?_,?_⟩⟩
   ·exact⟨show i+1≤l.length by omega,show l.length - (i+1)<l.length - i by omega⟩
   ·(conv=>whnf)
    (repeat' (first|with_reducible exact⟨⟩|refine tuA ?_|with_reducible refine iA ?_ ?_)<;>conv=>whnf)
    all_goals try simp only[wQ]
    all_goals (try first|omega|exact⟨fun h=>h,fun _ _=>True.intro⟩)
    rw[Wc (by omega),if_neg (by omega)]
   ·exact tL
  ·(conv=>whnf)
   refine⟨(i+1:Nat),[],?_,⟨⟨rfl,(nB rfl),rfl⟩,?_,?_⟩⟩
   ·exact⟨show i+1≤l.length by omega,show l.length - (i+1)<l.length - i by omega⟩
   ·(conv=>whnf)
    (repeat' (first|with_reducible exact⟨⟩|refine tuA ?_|with_reducible refine iA ?_ ?_)<;>conv=>whnf)
    all_goals try simp only[wQ]
    all_goals (try first|omega|exact⟨fun h=>h,fun _ _=>True.intro⟩)
    obtain rfl:i=0:=by omega
    rw[Wc (by omega),if_pos rfl];simp[Lib.join_nil]
   ·exact tL
  ·unfold Bu;rw[List.take_of_length_le (by omega)]
theorem G7(r:Request):Bb r 75=F3 r.key:=by unfold Bb;rw[if_pos rfl]
theorem G8(r:Request):Bb r 68=F0 r.day:=by unfold Bb;rw[if_neg (by decide),if_pos rfl]
theorem Mo(r:Request):Bb r 76=Gb r.locator:=by unfold Bb;rw[if_neg (by decide),if_neg (by decide),if_pos rfl]
theorem G9(r:Request):Bb r 84=Ed r.ticket:=by unfold Bb;rw[if_neg (by decide),if_neg (by decide),if_neg (by decide),if_pos rfl]
theorem K6(r:Request):Bb r 78=(decide (1≤r.coupon)&&decide (r.coupon≤4)):=by unfold Bb;rw[if_neg (by decide),if_neg (by decide),if_neg (by decide),if_neg (by decide),if_pos rfl]
theorem Oi(r:Request):Bb r 83=Ji r.status:=by unfold Bb;rw[if_neg (by decide),if_neg (by decide),if_neg (by decide),if_neg (by decide),if_neg (by decide),if_pos rfl]
theorem Mp(r:Request):Bb r 65=C2 r.amount:=by unfold Bb;rw[if_neg (by decide),if_neg (by decide),if_neg (by decide),if_neg (by decide),if_neg (by decide),if_neg (by decide),if_pos rfl]
theorem Oj(r:Request):Bb r 74=E5 12 r.coupons:=by unfold Bb;rw[if_neg (by decide),if_neg (by decide),if_neg (by decide),if_neg (by decide),if_neg (by decide),if_neg (by decide),if_neg (by decide),if_pos rfl]
theorem Ol(r:Request):Bb r 67=E5 4 r.coupons:=by unfold Bb;rw[if_neg (by decide),if_neg (by decide),if_neg (by decide),if_neg (by decide),if_neg (by decide),if_neg (by decide),if_neg (by decide),if_neg (by decide),if_pos rfl]
theorem Mq(r:Request):Bb r 88=C0 r.taxes:=by unfold Bb;rw[if_neg (by decide),if_neg (by decide),if_neg (by decide),if_neg (by decide),if_neg (by decide),if_neg (by decide),if_neg (by decide),if_neg (by decide),if_neg (by decide),if_pos rfl]
theorem Om(r:Request):Bb r 82=(F0 r.frm&&F0 r.til):=by unfold Bb;rw[if_neg (by decide),if_neg (by decide),if_neg (by decide),if_neg (by decide),if_neg (by decide),if_neg (by decide),if_neg (by decide),if_neg (by decide),if_neg (by decide),if_neg (by decide)]
def Bn(r:Request):List (List UInt8):=cond (eqI r.kind 1) [[105,115,115,117,101],r.key,Lib.itoa r.day,r.locator,Bu r.coupons,Bm r.taxes] (cond (eqI r.kind 2) [[109,111,118,101],r.key,Lib.itoa r.day,A6 r.ticket,Lib.itoa r.coupon,Cr r.status] (cond (eqI r.kind 3) [[118,111,105,100],r.key,Lib.itoa r.day,A6 r.ticket] (cond (eqI r.kind 4) [[114,101,102,117,110,100],r.key,Lib.itoa r.day,A6 r.ticket,Cp r.amount] (cond (eqI r.kind 5) [[101,120,99,104,97,110,103,101],r.key,Lib.itoa r.day,A6 r.ticket,Cp r.amount,Bu r.coupons,Bm r.taxes] (cond (eqI r.kind 6) [[97,115,107],r.key,Lib.itoa r.day,A6 r.ticket,Lib.itoa r.coupon] (cond (eqI r.kind 7) [[114,101,116,117,114,110],r.key,Lib.itoa r.day,A6 r.ticket,Lib.itoa r.coupon] (cond (eqI r.kind 8) [[115,104,111,119],A6 r.ticket] (cond (eqI r.kind 9) [[102,105,110,100],r.locator] (cond (eqI r.kind 10) [[114,101,112,111,114,116],Lib.itoa r.frm,Lib.itoa r.til] ([]))))))))))
@[irreducible] def Be(r:Request):List UInt8:=if Af r=true then Lib.join (Bn r) [32] else []
theorem Aub{r:Request}(h:Af r=false):Be r=[]:=by unfold Be;rw[h];rfl
theorem Ha{r:Request}(h:r.kind=1)(hm:Af r=true):F3 r.key=true∧F0 r.day=true∧Gb r.locator=true∧E5 12 r.coupons=true∧C0 r.taxes=true:=by
 rw[Uz h] at hm;simp only[G7,G8,Mo,Oj,Mq,Bool.and_eq_true,decide_eq_true_eq] at hm;simp only[hm,and_self]
theorem K7{r:Request}(h:r.kind=1):Bn r=[[105,115,115,117,101],r.key,Lib.itoa r.day,r.locator,Bu r.coupons,Bm r.taxes]:=by unfold Bn;rw[h];rfl
theorem Ajo{r:Request}(h:r.kind=1)(hm:Af r=true):Be r=[105,115,115,117,101]++[32]++r.key++[32]++Lib.itoa r.day++[32]++r.locator++[32]++Bu r.coupons++[32]++Bm r.taxes:=by
 unfold Be;rw[if_pos hm,K7 h];simp only[Eu,Lib.join_one,List.append_assoc,List.cons_append,List.nil_append]
theorem Iw{r:Request}(h:r.kind=2)(hm:Af r=true):F3 r.key=true∧F0 r.day=true∧Ed r.ticket=true∧(1≤r.coupon∧r.coupon≤4)∧Ji r.status=true:=by
 rw[Zv h] at hm;simp only[G7,G8,G9,K6,Oi,Bool.and_eq_true,decide_eq_true_eq] at hm;simp only[hm,and_self]
theorem K8{r:Request}(h:r.kind=2):Bn r=[[109,111,118,101],r.key,Lib.itoa r.day,A6 r.ticket,Lib.itoa r.coupon,Cr r.status]:=by unfold Bn;rw[h];rfl
theorem Aqp{r:Request}(h:r.kind=2)(hm:Af r=true):Be r=[109,111,118,101]++[32]++r.key++[32]++Lib.itoa r.day++[32]++A6 r.ticket++[32]++Lib.itoa r.coupon++[32]++Cr r.status:=by
 unfold Be;rw[if_pos hm,K8 h];simp only[Eu,Lib.join_one,List.append_assoc,List.cons_append,List.nil_append]
theorem Ix{r:Request}(h:r.kind=3)(hm:Af r=true):F3 r.key=true∧F0 r.day=true∧Ed r.ticket=true:=by
 rw[Zw h] at hm;simp only[G7,G8,G9,Bool.and_eq_true,decide_eq_true_eq] at hm;simp only[hm,and_self]
theorem K9{r:Request}(h:r.kind=3):Bn r=[[118,111,105,100],r.key,Lib.itoa r.day,A6 r.ticket]:=by unfold Bn;rw[h];rfl
theorem Aqq{r:Request}(h:r.kind=3)(hm:Af r=true):Be r=[118,111,105,100]++[32]++r.key++[32]++Lib.itoa r.day++[32]++A6 r.ticket:=by
 unfold Be;rw[if_pos hm,K9 h];simp only[Eu,Lib.join_one,List.append_assoc,List.cons_append,List.nil_append]
theorem Iy{r:Request}(h:r.kind=4)(hm:Af r=true):F3 r.key=true∧F0 r.day=true∧Ed r.ticket=true∧C2 r.amount=true:=by
 rw[Zx h] at hm;simp only[G7,G8,G9,Mp,Bool.and_eq_true,decide_eq_true_eq] at hm;simp only[hm,and_self]
theorem La{r:Request}(h:r.kind=4):Bn r=[[114,101,102,117,110,100],r.key,Lib.itoa r.day,A6 r.ticket,Cp r.amount]:=by unfold Bn;rw[h];rfl
theorem Aqr{r:Request}(h:r.kind=4)(hm:Af r=true):Be r=[114,101,102,117,110,100]++[32]++r.key++[32]++Lib.itoa r.day++[32]++A6 r.ticket++[32]++Cp r.amount:=by
 unfold Be;rw[if_pos hm,La h];simp only[Eu,Lib.join_one,List.append_assoc,List.cons_append,List.nil_append]
theorem Hb{r:Request}(h:r.kind=5)(hm:Af r=true):F3 r.key=true∧F0 r.day=true∧Ed r.ticket=true∧C2 r.amount=true∧E5 4 r.coupons=true∧C0 r.taxes=true:=by
 rw[Zy h] at hm;simp only[G7,G8,G9,Mp,Ol,Mq,Bool.and_eq_true,decide_eq_true_eq] at hm;simp only[hm,and_self]
theorem Lb{r:Request}(h:r.kind=5):Bn r=[[101,120,99,104,97,110,103,101],r.key,Lib.itoa r.day,A6 r.ticket,Cp r.amount,Bu r.coupons,Bm r.taxes]:=by unfold Bn;rw[h];rfl
theorem Aqs{r:Request}(h:r.kind=5)(hm:Af r=true):Be r=[101,120,99,104,97,110,103,101]++[32]++r.key++[32]++Lib.itoa r.day++[32]++A6 r.ticket++[32]++Cp r.amount++[32]++Bu r.coupons++[32]++Bm r.taxes:=by
 unfold Be;rw[if_pos hm,Lb h];simp only[Eu,Lib.join_one,List.append_assoc,List.cons_append,List.nil_append]
theorem Iz{r:Request}(h:r.kind=6)(hm:Af r=true):F3 r.key=true∧F0 r.day=true∧Ed r.ticket=true∧(1≤r.coupon∧r.coupon≤4):=by
 rw[Zz h] at hm;simp only[G7,G8,G9,K6,Bool.and_eq_true,decide_eq_true_eq] at hm;simp only[hm,and_self]
theorem Lc{r:Request}(h:r.kind=6):Bn r=[[97,115,107],r.key,Lib.itoa r.day,A6 r.ticket,Lib.itoa r.coupon]:=by unfold Bn;rw[h];rfl
theorem Aqt{r:Request}(h:r.kind=6)(hm:Af r=true):Be r=[97,115,107]++[32]++r.key++[32]++Lib.itoa r.day++[32]++A6 r.ticket++[32]++Lib.itoa r.coupon:=by
 unfold Be;rw[if_pos hm,Lc h];simp only[Eu,Lib.join_one,List.append_assoc,List.cons_append,List.nil_append]
theorem I0{r:Request}(h:r.kind=7)(hm:Af r=true):F3 r.key=true∧F0 r.day=true∧Ed r.ticket=true∧(1≤r.coupon∧r.coupon≤4):=by
 rw[Z0 h] at hm;simp only[G7,G8,G9,K6,Bool.and_eq_true,decide_eq_true_eq] at hm;simp only[hm,and_self]
theorem Ld{r:Request}(h:r.kind=7):Bn r=[[114,101,116,117,114,110],r.key,Lib.itoa r.day,A6 r.ticket,Lib.itoa r.coupon]:=by unfold Bn;rw[h];rfl
theorem Aqu{r:Request}(h:r.kind=7)(hm:Af r=true):Be r=[114,101,116,117,114,110]++[32]++r.key++[32]++Lib.itoa r.day++[32]++A6 r.ticket++[32]++Lib.itoa r.coupon:=by
 unfold Be;rw[if_pos hm,Ld h];simp only[Eu,Lib.join_one,List.append_assoc,List.cons_append,List.nil_append]
theorem Sq{r:Request}(h:r.kind=8)(hm:Af r=true):Ed r.ticket=true:=by
 rw[Z1 h] at hm;simp only[G9,Bool.and_eq_true,decide_eq_true_eq] at hm;simp only[hm,and_self]
theorem Le{r:Request}(h:r.kind=8):Bn r=[[115,104,111,119],A6 r.ticket]:=by unfold Bn;rw[h];rfl
theorem Aqv{r:Request}(h:r.kind=8)(hm:Af r=true):Be r=[115,104,111,119]++[32]++A6 r.ticket:=by
 unfold Be;rw[if_pos hm,Le h];simp only[Eu,Lib.join_one,List.append_assoc,List.cons_append,List.nil_append]
theorem I1{r:Request}(h:r.kind=9)(hm:Af r=true):Gb r.locator=true:=by
 rw[Z2 h] at hm;simp only[Mo,Bool.and_eq_true,decide_eq_true_eq] at hm;simp only[hm,and_self]
theorem Lf{r:Request}(h:r.kind=9):Bn r=[[102,105,110,100],r.locator]:=by unfold Bn;rw[h];rfl
theorem Aqw{r:Request}(h:r.kind=9)(hm:Af r=true):Be r=[102,105,110,100]++[32]++r.locator:=by
 unfold Be;rw[if_pos hm,Lf h];simp only[Eu,Lib.join_one,List.append_assoc,List.cons_append,List.nil_append]
theorem Px{r:Request}(h:r.kind=10)(hm:Af r=true):(F0 r.frm=true∧F0 r.til=true):=by
 rw[Wd h] at hm;simp only[Om,Bool.and_eq_true,decide_eq_true_eq] at hm;simp only[hm,and_self]
theorem Jc{r:Request}(h:r.kind=10):Bn r=[[114,101,112,111,114,116],Lib.itoa r.frm,Lib.itoa r.til]:=by unfold Bn;rw[h];rfl
theorem Ak2{r:Request}(h:r.kind=10)(hm:Af r=true):Be r=[114,101,112,111,114,116]++[32]++Lib.itoa r.frm++[32]++Lib.itoa r.til:=by
 unfold Be;rw[if_pos hm,Jc h];simp only[Eu,Lib.join_one,List.append_assoc,List.cons_append,List.nil_append]
theorem Ev{s:List UInt8}(h:F3 s=true):s.length≤16:=by
 unfold F3 at h;simp only[Bool.and_eq_true,decide_eq_true_eq] at h;omega
theorem D7{m:Int}{l:List Coupon}(h:E5 m l=true):1≤l.length∧(l.length:Int)≤m∧∀ c ∈ l,Gg c 0=true:=by
 unfold E5 at h;simp only[Bool.and_eq_true,decide_eq_true_eq,List.all_eq_true] at h;exact⟨h.1.2,h.2,h.1.1⟩
theorem eH{c:Coupon}{s:Int}(h:Gg c s=true):C4 c.value=true:=by
 unfold Gg at h;simp only[Bool.and_eq_true] at h;exact Db (by simp only[h])
theorem Sr{n:Int}(h:Ed n=true):A6 n=decDigits n.toNat:=by
 unfold Ed at h;unfold A6;rw[if_pos (by simpa using h)]
def Yl:PC:=PC.of (fun r:Request=>[.agg r.enc]) (fun r=>Af r=true) (fun r=>.str (sS (Be r)))
def Ej:PT:=Cg [(49,kL),(75,Ae0),(80,Acj),(81,Ul),(82,Un),(83,kU),(84,uD),(85,Aew)]
theorem Hs{W:World}(hW:Tabs W):Cb (Fw W) Tryz.prog Ej:=(Ab Tryz.call49 (Gu hW) (Ab Tryz.call75 (Gv hW) (Ab Tryz.call80 (M4 hW) (Ab Tryz.call81 (Lu hW) (Ab Tryz.call82 (Lw hW) (Ab Tryz.call83 (Oc hW) (Ab Tryz.call84 (Tw hW) (Ab Tryz.call85 (W8 hW) Aq))))))))
def Ek:FuncId→Option Ctr:=Av Ej []
theorem O9{W:World}(hW:Tabs W):Ad (Fw W) Tryz.prog Ek:=(Ar (Hs hW))
def Pb:Request→Nat→Option LR:=fun r i=>cond (Nat.beq i 4) (some (.unroll 7)) (none)
set_option maxHeartbeats 4000000 in
theorem Ht{W:World}(hW:Tabs W):GoodP (Fw W) Tryz.prog 27 Yl:=by
 have hD:=Hs hW;have hC0:∀ r:Request,Ad (Fw W) Tryz.prog Ek:=fun r=>(O9 hW);refine As (D:=Ej) (C:=fun r=>Ek) (wr:=(fun _=>false)) rfl Ao hD hC0 Tryz.func27 (Pb) (fun _=>rfl) ?_;rintro⟨key,kind,day,ticket,coupon,status,locator,coupons,taxes,amount,frm,til⟩ hf hp;by_cases h:1≤kind∧kind≤10
 ·rcases kinds h with rfl|rfl|rfl|rfl|rfl|rfl|rfl|rfl|rfl|rfl
  ·have hw:=Ajo (r:=⟨key,1,day,ticket,coupon,status,locator,coupons,taxes,amount,frm,til⟩) rfl hp;have hm:=Ha (r:=⟨key,1,day,ticket,coupon,status,locator,coupons,taxes,amount,frm,til⟩) rfl hp;dsimp only at hm hw;obtain⟨mK,mD,mL,mJ,mX⟩:=hm;have hfc:Az [slE 6 Coupon.enc coupons]:=⟨hf.1.2.2.2.2.2.2.2.1,True.intro⟩;have hft:Az [slE 2 Tax.enc taxes]:=⟨hf.1.2.2.2.2.2.2.2.2.1,True.intro⟩;simp only[Az,Bd,Aw,Go.Vc.lo,Go.Vc.hi,and_true] at hf;have lK:=Ev mK;have lD:=Bj day (by omega) (by omega)
   have lL:=Wb mL;obtain⟨j1,j2,j3⟩:=D7 mJ;have jW:(Bu coupons).length≤3000:=(by unfold Bu;have:=Z5 (l:=coupons) hfc (by omega) coupons.length;rwa[List.take_length] at this);have lX:(Bm taxes).length≤1000:=Yg (Hp mX).1 (Q8 hft);have nl:(Dd.getD (Int.toNat ((1:Int) - 1)) []).length=5:=rfl;clear hf hfc hft
   (conv=>whnf)
   (repeat' (first|((with_reducible refine aI ?_ ?_);focus (refine⟨?_,?_⟩<;>exact of_decide_eq_true rfl))|refine tuU ?_|with_reducible refine lnI fun hln=>?_)<;>conv=>whnf)
   refine⟨coupons,⟨by omega,fun c hc=>eH (j3 c hc)⟩,?_,?_⟩
   ·exact Ac _
   (conv=>whnf)
   (repeat' (first|((with_reducible refine aI ?_ ?_);focus (refine⟨?_,?_⟩<;>exact of_decide_eq_true rfl))|refine tuU ?_|with_reducible refine lnI fun hln=>?_)<;>conv=>whnf)
   refine⟨taxes,mX,?_,?_⟩
   ·exact Ac _
   (conv=>whnf)
   (repeat' (first|refine tuU ?_|with_reducible refine lnI fun hln=>?_)<;>conv=>whnf)
   all_goals try(show _=_;simp only[wQ])
   rw[hw];rfl
  ·have hw:=Aqp (r:=⟨key,2,day,ticket,coupon,status,locator,coupons,taxes,amount,frm,til⟩) rfl hp;have hm:=Iw (r:=⟨key,2,day,ticket,coupon,status,locator,coupons,taxes,amount,frm,til⟩) rfl hp;dsimp only at hm hw;obtain⟨mK,mD,mT,mN,mS⟩:=hm;have hfc:Az [slE 6 Coupon.enc coupons]:=⟨hf.1.2.2.2.2.2.2.2.1,True.intro⟩;have hft:Az [slE 2 Tax.enc taxes]:=⟨hf.1.2.2.2.2.2.2.2.2.1,True.intro⟩;simp only[Az,Bd,Aw,Go.Vc.lo,Go.Vc.hi,and_true] at hf;have lK:=Ev mK;have lD:=Bj day (by omega) (by omega)
   have lT:=Fz ticket;have eT:=Sr mT;have lU:(decDigits ticket.toNat).length≤32:=(by rw[←eT];omega);have lN:=Bj coupon (by omega) (by omega)
   have lS:=eG status;have nl:(Dd.getD (Int.toNat ((2:Int) - 1)) []).length=4:=rfl;clear hf hfc hft
   (conv=>whnf)
   (repeat' (first|((with_reducible refine aI ?_ ?_);focus (refine⟨?_,?_⟩<;>exact of_decide_eq_true rfl))|refine tuU ?_|with_reducible refine lnI fun hln=>?_)<;>conv=>whnf)
   all_goals try(show _=_;simp only[wQ])
   rw[hw,eT];rfl
  ·have hw:=Aqq (r:=⟨key,3,day,ticket,coupon,status,locator,coupons,taxes,amount,frm,til⟩) rfl hp;have hm:=Ix (r:=⟨key,3,day,ticket,coupon,status,locator,coupons,taxes,amount,frm,til⟩) rfl hp;dsimp only at hm hw;obtain⟨mK,mD,mT⟩:=hm;have hfc:Az [slE 6 Coupon.enc coupons]:=⟨hf.1.2.2.2.2.2.2.2.1,True.intro⟩;have hft:Az [slE 2 Tax.enc taxes]:=⟨hf.1.2.2.2.2.2.2.2.2.1,True.intro⟩;simp only[Az,Bd,Aw,Go.Vc.lo,Go.Vc.hi,and_true] at hf;have lK:=Ev mK;have lD:=Bj day (by omega) (by omega)
   have lT:=Fz ticket;have eT:=Sr mT;have lU:(decDigits ticket.toNat).length≤32:=(by rw[←eT];omega);have nl:(Dd.getD (Int.toNat ((3:Int) - 1)) []).length=4:=rfl;clear hf hfc hft
   (conv=>whnf)
   (repeat' (first|((with_reducible refine aI ?_ ?_);focus (refine⟨?_,?_⟩<;>exact of_decide_eq_true rfl))|refine tuU ?_|with_reducible refine lnI fun hln=>?_)<;>conv=>whnf)
   all_goals try(show _=_;simp only[wQ])
   rw[hw,eT];rfl
  ·have hw:=Aqr (r:=⟨key,4,day,ticket,coupon,status,locator,coupons,taxes,amount,frm,til⟩) rfl hp;have hm:=Iy (r:=⟨key,4,day,ticket,coupon,status,locator,coupons,taxes,amount,frm,til⟩) rfl hp;dsimp only at hm hw;obtain⟨mK,mD,mT,mA⟩:=hm;have hfc:Az [slE 6 Coupon.enc coupons]:=⟨hf.1.2.2.2.2.2.2.2.1,True.intro⟩;have hft:Az [slE 2 Tax.enc taxes]:=⟨hf.1.2.2.2.2.2.2.2.2.1,True.intro⟩;simp only[Az,Bd,Aw,Go.Vc.lo,Go.Vc.hi,and_true] at hf;have lK:=Ev mK;have lD:=Bj day (by omega) (by omega)
   have lT:=Fz ticket;have eT:=Sr mT;have lU:(decDigits ticket.toNat).length≤32:=(by rw[←eT];omega);have eA:=Ho (Db mA);have lA:=Hm amount;have lM:(Gj amount).length≤31:=(by rw[eA];exact lA);have oA:=cK (Db mA);have nl:(Dd.getD (Int.toNat ((4:Int) - 1)) []).length=6:=rfl;clear hf hfc hft
   (conv=>whnf)
   (repeat' (first|((with_reducible refine aI ?_ ?_);focus (refine⟨?_,?_⟩<;>exact of_decide_eq_true rfl))|refine tuU ?_|with_reducible refine lnI fun hln=>?_)<;>conv=>whnf)
   all_goals try(show _=_;simp only[wQ])
   rw[hw,eT,eA];rfl
  ·have hw:=Aqs (r:=⟨key,5,day,ticket,coupon,status,locator,coupons,taxes,amount,frm,til⟩) rfl hp;have hm:=Hb (r:=⟨key,5,day,ticket,coupon,status,locator,coupons,taxes,amount,frm,til⟩) rfl hp;dsimp only at hm hw;obtain⟨mK,mD,mT,mA,mC,mX⟩:=hm;have hfc:Az [slE 6 Coupon.enc coupons]:=⟨hf.1.2.2.2.2.2.2.2.1,True.intro⟩;have hft:Az [slE 2 Tax.enc taxes]:=⟨hf.1.2.2.2.2.2.2.2.2.1,True.intro⟩;simp only[Az,Bd,Aw,Go.Vc.lo,Go.Vc.hi,and_true] at hf;have lK:=Ev mK;have lD:=Bj day (by omega) (by omega)
   have lT:=Fz ticket;have eT:=Sr mT;have lU:(decDigits ticket.toNat).length≤32:=(by rw[←eT];omega);have eA:=Ho (Db mA);have lA:=Hm amount;have lM:(Gj amount).length≤31:=(by rw[eA];exact lA);have oA:=cK (Db mA);obtain⟨j1,j2,j3⟩:=D7 mC;have jW:(Bu coupons).length≤3000:=(by unfold Bu;have:=Z5 (l:=coupons) hfc (by omega) coupons.length;rwa[List.take_length] at this);have lX:(Bm taxes).length≤1000:=Yg (Hp mX).1 (Q8 hft);have nl:(Dd.getD (Int.toNat ((5:Int) - 1)) []).length=8:=rfl;clear hf hfc hft
   (conv=>whnf)
   (repeat' (first|((with_reducible refine aI ?_ ?_);focus (refine⟨?_,?_⟩<;>exact of_decide_eq_true rfl))|refine tuU ?_|with_reducible refine lnI fun hln=>?_)<;>conv=>whnf)
   refine⟨coupons,⟨by omega,fun c hc=>eH (j3 c hc)⟩,?_,?_⟩
   ·exact Ac _
   (conv=>whnf)
   (repeat' (first|((with_reducible refine aI ?_ ?_);focus (refine⟨?_,?_⟩<;>exact of_decide_eq_true rfl))|refine tuU ?_|with_reducible refine lnI fun hln=>?_)<;>conv=>whnf)
   refine⟨taxes,mX,?_,?_⟩
   ·exact Ac _
   (conv=>whnf)
   (repeat' (first|refine tuU ?_|with_reducible refine lnI fun hln=>?_)<;>conv=>whnf)
   all_goals try(show _=_;simp only[wQ])
   rw[hw,eT,eA];rfl
  ·have hw:=Aqt (r:=⟨key,6,day,ticket,coupon,status,locator,coupons,taxes,amount,frm,til⟩) rfl hp;have hm:=Iz (r:=⟨key,6,day,ticket,coupon,status,locator,coupons,taxes,amount,frm,til⟩) rfl hp;dsimp only at hm hw;obtain⟨mK,mD,mT,mN⟩:=hm;have hfc:Az [slE 6 Coupon.enc coupons]:=⟨hf.1.2.2.2.2.2.2.2.1,True.intro⟩;have hft:Az [slE 2 Tax.enc taxes]:=⟨hf.1.2.2.2.2.2.2.2.2.1,True.intro⟩;simp only[Az,Bd,Aw,Go.Vc.lo,Go.Vc.hi,and_true] at hf;have lK:=Ev mK;have lD:=Bj day (by omega) (by omega)
   have lT:=Fz ticket;have eT:=Sr mT;have lU:(decDigits ticket.toNat).length≤32:=(by rw[←eT];omega);have lN:=Bj coupon (by omega) (by omega)
   have nl:(Dd.getD (Int.toNat ((6:Int) - 1)) []).length=3:=rfl;clear hf hfc hft
   (conv=>whnf)
   (repeat' (first|((with_reducible refine aI ?_ ?_);focus (refine⟨?_,?_⟩<;>exact of_decide_eq_true rfl))|refine tuU ?_|with_reducible refine lnI fun hln=>?_)<;>conv=>whnf)
   all_goals try(show _=_;simp only[wQ])
   rw[hw,eT];rfl
  ·have hw:=Aqu (r:=⟨key,7,day,ticket,coupon,status,locator,coupons,taxes,amount,frm,til⟩) rfl hp;have hm:=I0 (r:=⟨key,7,day,ticket,coupon,status,locator,coupons,taxes,amount,frm,til⟩) rfl hp;dsimp only at hm hw;obtain⟨mK,mD,mT,mN⟩:=hm;have hfc:Az [slE 6 Coupon.enc coupons]:=⟨hf.1.2.2.2.2.2.2.2.1,True.intro⟩;have hft:Az [slE 2 Tax.enc taxes]:=⟨hf.1.2.2.2.2.2.2.2.2.1,True.intro⟩;simp only[Az,Bd,Aw,Go.Vc.lo,Go.Vc.hi,and_true] at hf;have lK:=Ev mK;have lD:=Bj day (by omega) (by omega)
   have lT:=Fz ticket;have eT:=Sr mT;have lU:(decDigits ticket.toNat).length≤32:=(by rw[←eT];omega);have lN:=Bj coupon (by omega) (by omega)
   have nl:(Dd.getD (Int.toNat ((7:Int) - 1)) []).length=6:=rfl;clear hf hfc hft
   (conv=>whnf)
   (repeat' (first|((with_reducible refine aI ?_ ?_);focus (refine⟨?_,?_⟩<;>exact of_decide_eq_true rfl))|refine tuU ?_|with_reducible refine lnI fun hln=>?_)<;>conv=>whnf)
   all_goals try(show _=_;simp only[wQ])
   rw[hw,eT];rfl
  ·have hw:=Aqv (r:=⟨key,8,day,ticket,coupon,status,locator,coupons,taxes,amount,frm,til⟩) rfl hp;have hm:=Sq (r:=⟨key,8,day,ticket,coupon,status,locator,coupons,taxes,amount,frm,til⟩) rfl hp;dsimp only at hm hw;have mT:=hm;have hfc:Az [slE 6 Coupon.enc coupons]:=⟨hf.1.2.2.2.2.2.2.2.1,True.intro⟩;have hft:Az [slE 2 Tax.enc taxes]:=⟨hf.1.2.2.2.2.2.2.2.2.1,True.intro⟩;simp only[Az,Bd,Aw,Go.Vc.lo,Go.Vc.hi,and_true] at hf;have lT:=Fz ticket;have eT:=Sr mT;have lU:(decDigits ticket.toNat).length≤32:=(by rw[←eT];omega);have nl:(Dd.getD (Int.toNat ((8:Int) - 1)) []).length=4:=rfl;clear hf hfc hft
   (conv=>whnf)
   (repeat' (first|((with_reducible refine aI ?_ ?_);focus (refine⟨?_,?_⟩<;>exact of_decide_eq_true rfl))|refine tuU ?_|with_reducible refine lnI fun hln=>?_)<;>conv=>whnf)
   all_goals try(show _=_;simp only[wQ])
   rw[hw,eT];rfl
  ·have hw:=Aqw (r:=⟨key,9,day,ticket,coupon,status,locator,coupons,taxes,amount,frm,til⟩) rfl hp;have hm:=I1 (r:=⟨key,9,day,ticket,coupon,status,locator,coupons,taxes,amount,frm,til⟩) rfl hp;dsimp only at hm hw;have mL:=hm;have hfc:Az [slE 6 Coupon.enc coupons]:=⟨hf.1.2.2.2.2.2.2.2.1,True.intro⟩;have hft:Az [slE 2 Tax.enc taxes]:=⟨hf.1.2.2.2.2.2.2.2.2.1,True.intro⟩;simp only[Az,Bd,Aw,Go.Vc.lo,Go.Vc.hi,and_true] at hf;have lL:=Wb mL;have nl:(Dd.getD (Int.toNat ((9:Int) - 1)) []).length=4:=rfl;clear hf hfc hft
   (conv=>whnf)
   (repeat' (first|((with_reducible refine aI ?_ ?_);focus (refine⟨?_,?_⟩<;>exact of_decide_eq_true rfl))|refine tuU ?_|with_reducible refine lnI fun hln=>?_)<;>conv=>whnf)
   all_goals try(show _=_;simp only[wQ])
   rw[hw];rfl
  ·have hw:=Ak2 (r:=⟨key,10,day,ticket,coupon,status,locator,coupons,taxes,amount,frm,til⟩) rfl hp;have hm:=Px (r:=⟨key,10,day,ticket,coupon,status,locator,coupons,taxes,amount,frm,til⟩) rfl hp;dsimp only at hm hw;have mR:=hm;have hfc:Az [slE 6 Coupon.enc coupons]:=⟨hf.1.2.2.2.2.2.2.2.1,True.intro⟩;have hft:Az [slE 2 Tax.enc taxes]:=⟨hf.1.2.2.2.2.2.2.2.2.1,True.intro⟩;simp only[Az,Bd,Aw,Go.Vc.lo,Go.Vc.hi,and_true] at hf;have lR:=Bj frm (by omega) (by omega)
   have lQ:=Bj til (by omega) (by omega)
   have nl:(Dd.getD (Int.toNat ((10:Int) - 1)) []).length=6:=rfl;clear hf hfc hft
   (conv=>whnf)
   (repeat' (first|((with_reducible refine aI ?_ ?_);focus (refine⟨?_,?_⟩<;>exact of_decide_eq_true rfl))|refine tuU ?_|with_reducible refine lnI fun hln=>?_)<;>conv=>whnf)
   all_goals try(show _=_;simp only[wQ])
   rw[hw];rfl
 ·exact absurd (Rf (r:=⟨key,kind,day,ticket,coupon,status,locator,coupons,taxes,amount,frm,til⟩) h) (by rw[hp];exact Bool.false_ne_true.symm)
end
end Go.Vc.Z
