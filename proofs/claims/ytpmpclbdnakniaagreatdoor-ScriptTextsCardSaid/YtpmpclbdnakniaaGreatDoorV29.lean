/- The reference's words, as they are read. -/
import Derived.Test.YtpmpclbdnakniaaGreatDoorV28
set_option linter.all false
set_option maxHeartbeats 8000000
namespace Go.Vc.Z
open Go Go.Vc Go.Proofs Go.RowKit Go.Pl Go.Lib
noncomputable section
set_option maxRecDepth 100000
attribute [local irreducible] inK Utf8.decode Utf8.encode Lib.itoa Pl.worth Pl.allDig
attribute [local irreducible] Lib.join Bp Aa
def Ac3:PC:=PC.fun fun|[.str s]=>some (True,.int .i64 (sI (Gp s)))|_=>none
def H8:PT:=Cg [(175,Azo)]
theorem M5{W:World}(hW:Tabs W):Cb (Fw W) Tryz.prog H8:=(Ab Tryz.call175 (dE hW) Aq)
def H9:FuncId→Option Ctr:=Av H8 []
theorem Xb{W:World}(hW:Tabs W):Ad (Fw W) Tryz.prog H9:=(Ar (M5 hW))
theorem M6{W:World}(hW:Tabs W):GoodP (Fw W) Tryz.prog 90 Ac3:=by
 have hD:=M5 hW;have hC0:Ad (Fw W) Tryz.prog H9:=(Xb hW);refine Au (D:=H8) (C:=H9) (wr:=(fun _=>false)) rfl Ao hD hC0 Tryz.func90 (fun _ _=>none) ?_;clear hC0 hD hW;intro cs p r h hf hp;split at h
 case h_2=>cases h
 rename_i s;cases h;try simp only[Az,Bd,Aw,Go.Vc.lo,Go.Vc.hi,and_true] at hf
 (conv=>whnf)
 (repeat' (first|refine tuU ?_|split<;>rename_i hh<;>try simp only[wS] at hh)<;>conv=>whnf)
 all_goals try(show _=_;simp only[wQ])
 all_goals (unfold Gp;first|(rw[if_neg (by assumption)];done)|(rw[if_pos (by assumption)];done))
def Al7:PC:=PC.fun fun|[.str s]=>some (True,.int .i64 (sI (statOf s)))|_=>none
def A04(s:List UInt8):LoopSpec:={
 α:=Int
 keep:=[0,3]
 vals k:=[.str s,.int .i64 k]
 heap _:=[]
 ok k:=1≤k∧k≤10∧∀ j,1≤j→j<k→Cr j≠s
 μ k:=(10 - k).toNat }
def Hf:PT:=Cg [(82,Un)]
theorem L8{W:World}(hW:Tabs W):Cb (Fw W) Tryz.prog Hf:=(Ab Tryz.call82 (Lw hW) Aq)
def Hg:FuncId→Option Ctr:=Av Hf []
theorem Vg{W:World}(hW:Tabs W):Ad (Fw W) Tryz.prog Hg:=(Ar (L8 hW))
def Vh:List AV→Nat→Option LR:=fun cs i=>match cs with|[.str s]=>cond (Nat.beq i 2) (some (.inv (A04 s))) (none)|_=>none
theorem Vi{W:World}(hW:Tabs W):GoodP (Fw W) Tryz.prog 89 Al7:=by
 have hD:=L8 hW;have hC0:Ad (Fw W) Tryz.prog Hg:=(Vg hW);refine Au (D:=Hf) (C:=Hg) (wr:=(fun _=>false)) rfl Ao hD hC0 Tryz.func89 (Vh) ?_;clear hC0 hD hW;intro cs p r h hf hp;split at h
 case h_2=>cases h
 rename_i s;cases h;try simp only[Az,Bd,Aw,Go.Vc.lo,Go.Vc.hi,and_true] at hf
 (conv=>whnf)
 refine⟨?_,fun(k:Int) hk=>?_⟩
 ·(conv=>whnf)
  refine⟨(1:Int),[],?_,⟨⟨rfl,(nB rfl),rfl⟩,?_,?_⟩⟩
  ·exact⟨by decide,by decide,fun j h1 h2=>absurd h1 (by omega)⟩
  ·exact Ac _
  ·exact tL
 ·obtain⟨k1,k2,k3⟩:=hk
  (conv=>whnf)
  (repeat' (first|refine tuU ?_|split<;>rename_i hh<;>try simp only[wS] at hh)<;>conv=>whnf)
  all_goals try(show _=_;simp only[wQ])
  ·have h:=Xp (N5.2 ⟨k1,by omega⟩)
   rw[show Cr k=s by assumption] at h
   exact h.symm
  ·(conv=>whnf)
   refine⟨(k+1:Int),[],?_,⟨⟨rfl,(nB rfl),rfl⟩,?_,?_⟩⟩
   ·exact⟨⟨by omega,by omega,fun j h1 h2=>by
     by_cases e:j=k
     ·subst e;assumption
     ·exact k3 j h1 (by omega)⟩,show(10 - (k+1)).toNat<(10 - k).toNat by omega⟩
   ·exact Ac _
   ·exact tL
  ·by_cases h:statOf s=0
   ·exact h.symm
   ·have hm:=N5.1 ((Yn (s:=s)).resolve_left h);exact absurd (Aok h) (k3 _ hm.1 (by omega))
def A53(l:List Coupon):Blk:=match l with
 |[]=>.dead
 |c::l=>.row 6 (l.length+1) (fun e=>((c::l).getD e default).enc)
def A54:List Coupon→AV
 |[]=>.nilsl
 |_::l=>.osl 0 6 0 (l.length+1) none
def A8t(s:List UInt8):LoopSpec:={
 α:=List Coupon
 keep:=[3,4,5]
 vals L:=[A54 L,slS (sL (Aa 44 s)),.int .i64 L.length]
 heap L:=[A53 L]
 ok L:=L.length≤(sL (Aa 44 s)).length∧L=((sL (Aa 44 s)).take L.length).map Gq
 μ L:=(sL (Aa 44 s)).length - L.length }
def Azp:PC:=PC.of (fun s:List UInt8=>[.str s]) (fun s=>s.length≤1000000) (fun s=>slE 6 Coupon.enc (Rs s))
def Do:PT:=Cg [(86,Aj1),(87,Zq),(90,Ac3)]
theorem El{W:World}(hW:Tabs W):Cb (Fw W) Tryz.prog Do:=(Ab Tryz.call86 (Ka hW) (Ab Tryz.call87 (E9 hW) (Ab Tryz.call90 (M6 hW) Aq)))
def C3:FuncId→Option Ctr:=Av Do []
theorem Hu{W:World}(hW:Tabs W):Ad (Fw W) Tryz.prog C3:=(Ar (El hW))
def Pd:List UInt8→Nat→Option LR:=fun s i=>cond (Nat.beq i 4) (some (.inv (A8t s))) (none)
theorem Pe{W:World}(hW:Tabs W):GoodP (Fw W) Tryz.prog 91 Azp:=by
 have hD:=El hW;have hC0:∀ s:List UInt8,Ad (Fw W) Tryz.prog C3:=fun s=>(Hu hW);refine As (D:=Do) (C:=fun s=>C3) (wr:=(fun _=>false)) rfl Ao hD hC0 Tryz.func91 (Pd) (fun _=>rfl) ?_;intro s hf hp;clear hf;have hm44:∀ i,((sL (Aa 44 s)).getD i []).length≤100000000:=fun i=>Fo (Nat.le_trans hp (by decide)) i
 have hb44:(sL (Aa 44 s)).length≤1000001:=by rw[Ck];exact Nat.le_trans (Gw _ _) (Nat.succ_le_succ hp)
 have hm61:∀ {i j:Nat},((sL (Aa 61 ((sL (Aa 44 s)).getD i []))).getD j []).length≤100000000:=fun {i} {j}=>Fo (hm44 i) j;have hl61:∀ i:Nat,1≤(sL (Aa 61 ((sL (Aa 44 s)).getD i []))).length:=fun i=>by rw[Ck];exact Di _ _
 have hl44:1≤(sL (Aa 44 s)).length:=by rw[Ck];exact Di _ _
 have hw2:∀ i:Nat,Gq ((sL (Aa 44 s)).getD i [])=if (sL (Aa 61 ((sL (Aa 44 s)).getD i []))).length=2∧(sL (Aa 64 ((sL (Aa 61 ((sL (Aa 44 s)).getD i []))).getD 0 []))).length=2 then⟨Ay ((sL (Aa 64 ((sL (Aa 61 ((sL (Aa 44 s)).getD i []))).getD 0 []))).getD 0 []),Ay ((sL (Aa 64 ((sL (Aa 61 ((sL (Aa 44 s)).getD i []))).getD 0 []))).getD 1 []),Gp ((sL (Aa 61 ((sL (Aa 44 s)).getD i []))).getD 1 []),0,0,0⟩ else⟨-1,0,0,0,0,0⟩:=fun i=>by
  simp only[Ck];unfold Gq;rfl
 refine⟨((s,44):List UInt8 × UInt8),Nat.le_trans hp (by decide),?_,?_⟩
 ·exact Ac _
 (conv=>whnf)
 refine⟨?_,fun(L:List Coupon) hL=>?_⟩
 ·(conv=>whnf)
  refine⟨([]:List Coupon),[],?_,⟨⟨rfl,(nB rfl),rfl⟩,?_,?_⟩⟩
  ·exact⟨Nat.zero_le _,rfl⟩
  ·exact Ac _
  ·exact tL
 ·obtain⟨q1,q2⟩:=hL;change L.length≤(sL (Aa 44 s)).length at q1;change L=((sL (Aa 44 s)).take L.length).map Gq at q2;rcases L with _|⟨c,L⟩
  ·(conv=>whnf)
   (repeat' (first|refine tuU ?_|split<;>rename_i hh<;>try simp only[wS] at hh|with_reducible refine lnI fun hln=>?_)<;>conv=>whnf)
   ·have hi2:([]:List Coupon).length<(sL (Aa 44 s)).length:=Int.ofNat_lt.1 (by assumption)
    refine⟨((((sL (Aa 44 s)).getD 0 []),61):List UInt8 × UInt8),hm44 _,?_,?_⟩
    ·exact Ac _
    (conv=>whnf)
    refine⟨⟨by decide,Int.ofNat_lt.2 (hl61 _)⟩,?_⟩
    refine⟨(((sL (Aa 61 ((sL (Aa 44 s)).getD 0 []))).getD 0 [],64):List UInt8 × UInt8),hm61,?_,?_⟩
    ·exact Ac _
    (conv=>whnf)
    (repeat' (first|refine tuU ?_|split<;>rename_i hh<;>try simp only[wS] at hh|with_reducible refine lnI fun hln=>?_)<;>conv=>whnf)
    ·have h61:(((sL (Aa 61 ((sL (Aa 44 s)).getD 0 []))).length:Nat):Int)=2:=(by assumption);have h64:(((sL (Aa 64 ((sL (Aa 61 ((sL (Aa 44 s)).getD 0 []))).getD 0 []))).length:Nat):Int)=2:=(by assumption);have hv:=(hw2 0).trans (if_pos ⟨by omega,by omega⟩)
     have g1:=Cj (f:=fun w=>(Gq w,true)) q2 hi2
     (conv=>whnf)
     refine⟨((([]:List Coupon)++[Gq ((sL (Aa 44 s)).getD ([]:List Coupon).length [])]):List Coupon),[14],?_,⟨⟨rfl,(nB rfl),rfl⟩,?_,?_⟩⟩
     ·refine⟨⟨?_,g1⟩,?_⟩
      ·show(([]:List Coupon)++[Gq ((sL (Aa 44 s)).getD ([]:List Coupon).length [])]).length≤(sL (Aa 44 s)).length;rw[List.length_append];exact hi2
      ·show(sL (Aa 44 s)).length - (([]:List Coupon)++[Gq ((sL (Aa 44 s)).getD ([]:List Coupon).length [])]).length<(sL (Aa 44 s)).length - ([]:List Coupon).length;rw[List.length_append,List.length_singleton];omega
     ·(conv=>whnf)
      (repeat' (first|with_reducible exact⟨⟩|((with_reducible refine Or.inr ?_);rfl)|refine tuA ?_|with_reducible refine iA ?_ ?_)<;>conv=>whnf)
      all_goals try simp only[wQ]
      all_goals (try first|rfl|exact⟨fun h=>h,fun _ _=>True.intro⟩)
      all_goals try exact⟨rfl,rfl⟩
      all_goals (try simp)
     ·(conv=>whnf)
      (repeat' (first|with_reducible exact⟨⟩|refine tuA ?_|with_reducible refine iB ?_ ?_)<;>conv=>whnf)
      all_goals try simp only[wQ]
      all_goals try rfl
      intro e he;have he:e<1:=he;obtain rfl:e=0:=by omega
      refine⟨?_,rfl⟩;show _=(Gq ((sL (Aa 44 s)).getD 0 [])).enc;rw[hv];rfl
    ·have h61:(((sL (Aa 61 ((sL (Aa 44 s)).getD 0 []))).length:Nat):Int)=2:=(by assumption);have h64: ¬(((sL (Aa 64 ((sL (Aa 61 ((sL (Aa 44 s)).getD 0 []))).getD 0 []))).length:Nat):Int)=2:=(by assumption);have hv:=(hw2 0).trans (if_neg (fun h=>by omega))
     have g1:=Cj (f:=fun w=>(Gq w,true)) q2 hi2
     (conv=>whnf)
     refine⟨((([]:List Coupon)++[Gq ((sL (Aa 44 s)).getD ([]:List Coupon).length [])]):List Coupon),[3],?_,⟨⟨rfl,(nB rfl),rfl⟩,?_,?_⟩⟩
     ·refine⟨⟨?_,g1⟩,?_⟩
      ·show(([]:List Coupon)++[Gq ((sL (Aa 44 s)).getD ([]:List Coupon).length [])]).length≤(sL (Aa 44 s)).length;rw[List.length_append];exact hi2
      ·show(sL (Aa 44 s)).length - (([]:List Coupon)++[Gq ((sL (Aa 44 s)).getD ([]:List Coupon).length [])]).length<(sL (Aa 44 s)).length - ([]:List Coupon).length;rw[List.length_append,List.length_singleton];omega
     ·(conv=>whnf)
      (repeat' (first|with_reducible exact⟨⟩|((with_reducible refine Or.inr ?_);rfl)|refine tuA ?_|with_reducible refine iA ?_ ?_)<;>conv=>whnf)
      all_goals try simp only[wQ]
      all_goals (try first|rfl|exact⟨fun h=>h,fun _ _=>True.intro⟩)
      all_goals try exact⟨rfl,rfl⟩
      all_goals (try simp)
     ·(conv=>whnf)
      (repeat' (first|with_reducible exact⟨⟩|refine tuA ?_|with_reducible refine iB ?_ ?_)<;>conv=>whnf)
      all_goals try simp only[wQ]
      all_goals try rfl
      intro e he;have he:e<1:=he;obtain rfl:e=0:=by omega
      refine⟨?_,rfl⟩;show _=(Gq ((sL (Aa 44 s)).getD 0 [])).enc;rw[hv];rfl
    ·have h61: ¬(((sL (Aa 61 ((sL (Aa 44 s)).getD 0 []))).length:Nat):Int)=2:=(by assumption);have hv:=(hw2 0).trans (if_neg (fun h=>by omega))
     have g1:=Cj (f:=fun w=>(Gq w,true)) q2 hi2
     (conv=>whnf)
     refine⟨((([]:List Coupon)++[Gq ((sL (Aa 44 s)).getD ([]:List Coupon).length [])]):List Coupon),[3],?_,⟨⟨rfl,(nB rfl),rfl⟩,?_,?_⟩⟩
     ·refine⟨⟨?_,g1⟩,?_⟩
      ·show(([]:List Coupon)++[Gq ((sL (Aa 44 s)).getD ([]:List Coupon).length [])]).length≤(sL (Aa 44 s)).length;rw[List.length_append];exact hi2
      ·show(sL (Aa 44 s)).length - (([]:List Coupon)++[Gq ((sL (Aa 44 s)).getD ([]:List Coupon).length [])]).length<(sL (Aa 44 s)).length - ([]:List Coupon).length;rw[List.length_append,List.length_singleton];omega
     ·(conv=>whnf)
      (repeat' (first|with_reducible exact⟨⟩|((with_reducible refine Or.inr ?_);rfl)|refine tuA ?_|with_reducible refine iA ?_ ?_)<;>conv=>whnf)
      all_goals try simp only[wQ]
      all_goals (try first|rfl|exact⟨fun h=>h,fun _ _=>True.intro⟩)
      all_goals try exact⟨rfl,rfl⟩
      all_goals (try simp)
     ·(conv=>whnf)
      (repeat' (first|with_reducible exact⟨⟩|refine tuA ?_|with_reducible refine iB ?_ ?_)<;>conv=>whnf)
      all_goals try simp only[wQ]
      all_goals try rfl
      intro e he;have he:e<1:=he;obtain rfl:e=0:=by omega
      refine⟨?_,rfl⟩;show _=(Gq ((sL (Aa 44 s)).getD 0 [])).enc;rw[hv];rfl
   ·exfalso;have h:(_:Int)≤0:=‹(_:Int)≤((([]:List Coupon).length:Nat):Int)›;omega
  ·have q0:L.length+1≤1000001:=Nat.le_trans q1 hb44
   (conv=>whnf)
   (repeat' (first|refine tuU ?_|split<;>rename_i hh<;>try simp only[wS] at hh|with_reducible refine lnI fun hln=>?_)<;>conv=>whnf)
   ·have hi2:(c::L:List Coupon).length<(sL (Aa 44 s)).length:=Int.ofNat_lt.1 (by assumption)
    refine⟨((((sL (Aa 44 s)).getD (L.length+1) []),61):List UInt8 × UInt8),hm44 _,?_,?_⟩
    ·exact Ac _
    (conv=>whnf)
    refine⟨⟨by decide,Int.ofNat_lt.2 (hl61 _)⟩,?_⟩
    refine⟨(((sL (Aa 61 ((sL (Aa 44 s)).getD (L.length+1) []))).getD 0 [],64):List UInt8 × UInt8),hm61,?_,?_⟩
    ·exact Ac _
    (conv=>whnf)
    (repeat' (first|refine tuU ?_|split<;>rename_i hh<;>try simp only[wS] at hh|with_reducible refine lnI fun hln=>?_)<;>conv=>whnf)
    ·have h61:(((sL (Aa 61 ((sL (Aa 44 s)).getD (L.length+1) []))).length:Nat):Int)=2:=(by assumption);have h64:(((sL (Aa 64 ((sL (Aa 61 ((sL (Aa 44 s)).getD (L.length+1) []))).getD 0 []))).length:Nat):Int)=2:=(by assumption);have hv:=(hw2 (L.length+1)).trans (if_pos ⟨by omega,by omega⟩)
     have g1:=Cj (f:=fun w=>(Gq w,true)) q2 hi2
     (conv=>whnf)
     refine⟨(((c::L:List Coupon)++[Gq ((sL (Aa 44 s)).getD (c::L:List Coupon).length [])]):List Coupon),[14],?_,⟨⟨rfl,(nB rfl),rfl⟩,?_,?_⟩⟩
     ·refine⟨⟨?_,g1⟩,?_⟩
      ·show((c::L:List Coupon)++[Gq ((sL (Aa 44 s)).getD (c::L:List Coupon).length [])]).length≤(sL (Aa 44 s)).length;rw[List.length_append];exact hi2
      ·show(sL (Aa 44 s)).length - ((c::L:List Coupon)++[Gq ((sL (Aa 44 s)).getD (c::L:List Coupon).length [])]).length<(sL (Aa 44 s)).length - (c::L:List Coupon).length;rw[List.length_append,List.length_singleton];omega
     ·(conv=>whnf)
      (repeat' (first|with_reducible exact⟨⟩|refine tuA ?_|with_reducible refine iA ?_ ?_)<;>conv=>whnf)
      all_goals try simp only[wQ]
      all_goals (try first|exact⟨fun h=>h,fun _ _=>True.intro⟩)
      all_goals (try first|exact⟨by simp,Or.inl trivial⟩)
      all_goals try exact⟨rfl,rfl⟩
      all_goals (try simp)
     ·(conv=>whnf)
      (repeat' (first|with_reducible exact⟨⟩|refine tuA ?_|with_reducible refine iB ?_ ?_)<;>conv=>whnf)
      all_goals try simp only[wQ]
      all_goals try rfl
      exact⟨by simp,fun e he=>⟨Ey (enc:=Coupon.enc) (l:=(c::L:List Coupon)) rfl (fun _ _=>rfl) (by show _=(Gq ((sL (Aa 44 s)).getD (L.length+1) [])).enc;rw[hv];rfl) (by simpa using he),rfl⟩⟩
    ·have h61:(((sL (Aa 61 ((sL (Aa 44 s)).getD (L.length+1) []))).length:Nat):Int)=2:=(by assumption);have h64: ¬(((sL (Aa 64 ((sL (Aa 61 ((sL (Aa 44 s)).getD (L.length+1) []))).getD 0 []))).length:Nat):Int)=2:=(by assumption);have hv:=(hw2 (L.length+1)).trans (if_neg (fun h=>by omega))
     have g1:=Cj (f:=fun w=>(Gq w,true)) q2 hi2
     (conv=>whnf)
     refine⟨(((c::L:List Coupon)++[Gq ((sL (Aa 44 s)).getD (c::L:List Coupon).length [])]):List Coupon),[3],?_,⟨⟨rfl,(nB rfl),rfl⟩,?_,?_⟩⟩
     ·refine⟨⟨?_,g1⟩,?_⟩
      ·show((c::L:List Coupon)++[Gq ((sL (Aa 44 s)).getD (c::L:List Coupon).length [])]).length≤(sL (Aa 44 s)).length;rw[List.length_append];exact hi2
      ·show(sL (Aa 44 s)).length - ((c::L:List Coupon)++[Gq ((sL (Aa 44 s)).getD (c::L:List Coupon).length [])]).length<(sL (Aa 44 s)).length - (c::L:List Coupon).length;rw[List.length_append,List.length_singleton];omega
     ·(conv=>whnf)
      (repeat' (first|with_reducible exact⟨⟩|refine tuA ?_|with_reducible refine iA ?_ ?_)<;>conv=>whnf)
      all_goals try simp only[wQ]
      all_goals (try first|exact⟨fun h=>h,fun _ _=>True.intro⟩)
      all_goals (try first|exact⟨by simp,Or.inl trivial⟩)
      all_goals try exact⟨rfl,rfl⟩
      all_goals (try simp)
     ·(conv=>whnf)
      (repeat' (first|with_reducible exact⟨⟩|refine tuA ?_|with_reducible refine iB ?_ ?_)<;>conv=>whnf)
      all_goals try simp only[wQ]
      all_goals try rfl
      exact⟨by simp,fun e he=>⟨Ey (enc:=Coupon.enc) (l:=(c::L:List Coupon)) rfl (fun _ _=>rfl) (by show _=(Gq ((sL (Aa 44 s)).getD (L.length+1) [])).enc;rw[hv];rfl) (by simpa using he),rfl⟩⟩
    ·have h61: ¬(((sL (Aa 61 ((sL (Aa 44 s)).getD (L.length+1) []))).length:Nat):Int)=2:=(by assumption);have hv:=(hw2 (L.length+1)).trans (if_neg (fun h=>by omega))
     have g1:=Cj (f:=fun w=>(Gq w,true)) q2 hi2
     (conv=>whnf)
     refine⟨(((c::L:List Coupon)++[Gq ((sL (Aa 44 s)).getD (c::L:List Coupon).length [])]):List Coupon),[3],?_,⟨⟨rfl,(nB rfl),rfl⟩,?_,?_⟩⟩
     ·refine⟨⟨?_,g1⟩,?_⟩
      ·show((c::L:List Coupon)++[Gq ((sL (Aa 44 s)).getD (c::L:List Coupon).length [])]).length≤(sL (Aa 44 s)).length;rw[List.length_append];exact hi2
      ·show(sL (Aa 44 s)).length - ((c::L:List Coupon)++[Gq ((sL (Aa 44 s)).getD (c::L:List Coupon).length [])]).length<(sL (Aa 44 s)).length - (c::L:List Coupon).length;rw[List.length_append,List.length_singleton];omega
     ·(conv=>whnf)
      (repeat' (first|with_reducible exact⟨⟩|refine tuA ?_|with_reducible refine iA ?_ ?_)<;>conv=>whnf)
      all_goals try simp only[wQ]
      all_goals (try first|exact⟨fun h=>h,fun _ _=>True.intro⟩)
      all_goals (try first|exact⟨by simp,Or.inl trivial⟩)
      all_goals try exact⟨rfl,rfl⟩
      all_goals (try simp)
     ·(conv=>whnf)
      (repeat' (first|with_reducible exact⟨⟩|refine tuA ?_|with_reducible refine iB ?_ ?_)<;>conv=>whnf)
      all_goals try simp only[wQ]
      all_goals try rfl
      exact⟨by simp,fun e he=>⟨Ey (enc:=Coupon.enc) (l:=(c::L:List Coupon)) rfl (fun _ _=>rfl) (by show _=(Gq ((sL (Aa 44 s)).getD (L.length+1) [])).enc;rw[hv];rfl) (by simpa using he),rfl⟩⟩
   ·have hx2: ¬(c::L).length<(sL (Aa 44 s)).length:=Nat.not_lt.2 (Int.ofNat_le.1 (by assumption))
    have e1:c::L=Rs s:=by
     have e:(c::L).length=(sL (Aa 44 s)).length:=(by omega);rw[e,List.take_length,Ck] at q2;unfold Rs;exact q2
    rw[←e1];refine⟨⟨by omega,fun e he=>rfl⟩,?_⟩
    exact⟨rfl,rfl,fun h=>h,fun e he=>by simp only[Nat.zero_add]⟩
end
end Go.Vc.Z
namespace Go.Vc.Z
open Go Go.Vc Go.Proofs Go.RowKit Go.Pl Go.Lib
noncomputable section
set_option maxRecDepth 100000
attribute [local irreducible] inK Utf8.decode Utf8.encode Lib.itoa Pl.worth Pl.allDig
attribute [local irreducible] Lib.join Bp Aa
def A55(l:List Tax):Blk:=match l with
 |[]=>.dead
 |c::l=>.row 2 (l.length+1) (fun e=>((c::l).getD e default).enc)
def A56:List Tax→AV
 |[]=>.nilsl
 |_::l=>.osl 0 2 0 (l.length+1) none
def A8u(s:List UInt8):LoopSpec:={
 α:=List Tax
 keep:=[3,4,5]
 vals L:=[A56 L,slS (sL (Aa 44 s)),.int .i64 L.length]
 heap L:=[A55 L]
 ok L:=L.length≤(sL (Aa 44 s)).length∧L=((sL (Aa 44 s)).take L.length).map Ll
 μ L:=(sL (Aa 44 s)).length - L.length }
def Azq:PC:=PC.of (fun s:List UInt8=>[.str s]) (fun s=>s.length≤1000000) (fun s=>slE 2 Tax.enc (P8 s))
def Rt:List UInt8→Nat→Option LR:=fun s i=>cond (Nat.beq i 6) (some (.inv (A8u s))) (none)
theorem Ru{W:World}(hW:Tabs W):GoodP (Fw W) Tryz.prog 92 Azq:=by
 have hD:=El hW;have hC0:∀ s:List UInt8,Ad (Fw W) Tryz.prog C3:=fun s=>(Hu hW);refine As (D:=Do) (C:=fun s=>C3) (wr:=(fun _=>false)) rfl Ao hD hC0 Tryz.func92 (Rt) (fun _=>rfl) ?_;intro s hf hp;clear hf;have hm44:∀ i,((sL (Aa 44 s)).getD i []).length≤100000000:=fun i=>Fo (Nat.le_trans hp (by decide)) i
 have hb44:(sL (Aa 44 s)).length≤1000001:=by rw[Ck];exact Nat.le_trans (Gw _ _) (Nat.succ_le_succ hp)
 have hm61:∀ {i j:Nat},((sL (Aa 61 ((sL (Aa 44 s)).getD i []))).getD j []).length≤100000000:=fun {i} {j}=>Fo (hm44 i) j;have hl44:1≤(sL (Aa 44 s)).length:=by rw[Ck];exact Di _ _
 have hw2:∀ i:Nat,Ll ((sL (Aa 44 s)).getD i [])=if (sL (Aa 61 ((sL (Aa 44 s)).getD i []))).length=2 then⟨Ay ((sL (Aa 61 ((sL (Aa 44 s)).getD i []))).getD 0 []),Gp ((sL (Aa 61 ((sL (Aa 44 s)).getD i []))).getD 1 [])⟩ else⟨-1,0⟩:=fun i=>by
  simp only[Ck];unfold Ll;rfl
 (conv=>whnf)
 (repeat' (first|split<;>rename_i hh<;>try simp only[wS] at hh)<;>conv=>whnf)
 ·unfold P8;rw[if_pos (by assumption)];rfl
 refine⟨((s,44):List UInt8 × UInt8),Nat.le_trans hp (by decide),?_,?_⟩
 ·exact Ac _
 (conv=>whnf)
 refine⟨?_,fun(L:List Tax) hL=>?_⟩
 ·(conv=>whnf)
  refine⟨([]:List Tax),[],?_,⟨⟨rfl,(nB rfl),rfl⟩,?_,?_⟩⟩
  ·exact⟨Nat.zero_le _,rfl⟩
  ·exact Ac _
  ·exact tL
 ·obtain⟨q1,q2⟩:=hL;change L.length≤(sL (Aa 44 s)).length at q1;change L=((sL (Aa 44 s)).take L.length).map Ll at q2;rcases L with _|⟨c,L⟩
  ·(conv=>whnf)
   (repeat' (first|refine tuU ?_|split<;>rename_i hh<;>try simp only[wS] at hh|with_reducible refine lnI fun hln=>?_)<;>conv=>whnf)
   ·have hi2:([]:List Tax).length<(sL (Aa 44 s)).length:=Int.ofNat_lt.1 (by assumption)
    refine⟨((((sL (Aa 44 s)).getD 0 []),61):List UInt8 × UInt8),hm44 _,?_,?_⟩
    ·exact Ac _
    (conv=>whnf)
    (repeat' (first|refine tuU ?_|split<;>rename_i hh<;>try simp only[wS] at hh|with_reducible refine lnI fun hln=>?_)<;>conv=>whnf)
    ·have h61:(((sL (Aa 61 ((sL (Aa 44 s)).getD 0 []))).length:Nat):Int)=2:=(by assumption);have hv:=(hw2 0).trans (if_pos (by omega))
     have g1:=Cj (f:=fun w=>(Ll w,true)) q2 hi2
     (conv=>whnf)
     refine⟨((([]:List Tax)++[Ll ((sL (Aa 44 s)).getD ([]:List Tax).length [])]):List Tax),[10],?_,⟨⟨rfl,(nB rfl),rfl⟩,?_,?_⟩⟩
     ·refine⟨⟨?_,g1⟩,?_⟩
      ·show(([]:List Tax)++[Ll ((sL (Aa 44 s)).getD ([]:List Tax).length [])]).length≤(sL (Aa 44 s)).length;rw[List.length_append];exact hi2
      ·show(sL (Aa 44 s)).length - (([]:List Tax)++[Ll ((sL (Aa 44 s)).getD ([]:List Tax).length [])]).length<(sL (Aa 44 s)).length - ([]:List Tax).length;rw[List.length_append,List.length_singleton];omega
     ·(conv=>whnf)
      (repeat' (first|with_reducible exact⟨⟩|((with_reducible refine Or.inr ?_);rfl)|refine tuA ?_|with_reducible refine iA ?_ ?_)<;>conv=>whnf)
      all_goals try simp only[wQ]
      all_goals (try first|rfl|exact⟨fun h=>h,fun _ _=>True.intro⟩)
      all_goals try exact⟨rfl,rfl⟩
      all_goals (try simp)
     ·(conv=>whnf)
      (repeat' (first|with_reducible exact⟨⟩|refine tuA ?_|with_reducible refine iB ?_ ?_)<;>conv=>whnf)
      all_goals try simp only[wQ]
      all_goals try rfl
      intro e he;have he:e<1:=he;obtain rfl:e=0:=by omega
      refine⟨?_,rfl⟩;show _=(Ll ((sL (Aa 44 s)).getD 0 [])).enc;rw[hv];rfl
    ·have h61: ¬(((sL (Aa 61 ((sL (Aa 44 s)).getD 0 []))).length:Nat):Int)=2:=(by assumption);have hv:=(hw2 0).trans (if_neg (fun h=>by omega))
     have g1:=Cj (f:=fun w=>(Ll w,true)) q2 hi2
     (conv=>whnf)
     refine⟨((([]:List Tax)++[Ll ((sL (Aa 44 s)).getD ([]:List Tax).length [])]):List Tax),[3],?_,⟨⟨rfl,(nB rfl),rfl⟩,?_,?_⟩⟩
     ·refine⟨⟨?_,g1⟩,?_⟩
      ·show(([]:List Tax)++[Ll ((sL (Aa 44 s)).getD ([]:List Tax).length [])]).length≤(sL (Aa 44 s)).length;rw[List.length_append];exact hi2
      ·show(sL (Aa 44 s)).length - (([]:List Tax)++[Ll ((sL (Aa 44 s)).getD ([]:List Tax).length [])]).length<(sL (Aa 44 s)).length - ([]:List Tax).length;rw[List.length_append,List.length_singleton];omega
     ·(conv=>whnf)
      (repeat' (first|with_reducible exact⟨⟩|((with_reducible refine Or.inr ?_);rfl)|refine tuA ?_|with_reducible refine iA ?_ ?_)<;>conv=>whnf)
      all_goals try simp only[wQ]
      all_goals (try first|rfl|exact⟨fun h=>h,fun _ _=>True.intro⟩)
      all_goals try exact⟨rfl,rfl⟩
      all_goals (try simp)
     ·(conv=>whnf)
      (repeat' (first|with_reducible exact⟨⟩|refine tuA ?_|with_reducible refine iB ?_ ?_)<;>conv=>whnf)
      all_goals try simp only[wQ]
      all_goals try rfl
      intro e he;have he:e<1:=he;obtain rfl:e=0:=by omega
      refine⟨?_,rfl⟩;show _=(Ll ((sL (Aa 44 s)).getD 0 [])).enc;rw[hv];rfl
   ·exfalso;have h:(_:Int)≤0:=‹(_:Int)≤((([]:List Tax).length:Nat):Int)›;omega
  ·have q0:L.length+1≤1000001:=Nat.le_trans q1 hb44
   (conv=>whnf)
   (repeat' (first|refine tuU ?_|split<;>rename_i hh<;>try simp only[wS] at hh|with_reducible refine lnI fun hln=>?_)<;>conv=>whnf)
   ·have hi2:(c::L:List Tax).length<(sL (Aa 44 s)).length:=Int.ofNat_lt.1 (by assumption)
    refine⟨((((sL (Aa 44 s)).getD (L.length+1) []),61):List UInt8 × UInt8),hm44 _,?_,?_⟩
    ·exact Ac _
    (conv=>whnf)
    (repeat' (first|refine tuU ?_|split<;>rename_i hh<;>try simp only[wS] at hh|with_reducible refine lnI fun hln=>?_)<;>conv=>whnf)
    ·have h61:(((sL (Aa 61 ((sL (Aa 44 s)).getD (L.length+1) []))).length:Nat):Int)=2:=(by assumption);have hv:=(hw2 (L.length+1)).trans (if_pos (by omega))
     have g1:=Cj (f:=fun w=>(Ll w,true)) q2 hi2
     (conv=>whnf)
     refine⟨(((c::L:List Tax)++[Ll ((sL (Aa 44 s)).getD (c::L:List Tax).length [])]):List Tax),[10],?_,⟨⟨rfl,(nB rfl),rfl⟩,?_,?_⟩⟩
     ·refine⟨⟨?_,g1⟩,?_⟩
      ·show((c::L:List Tax)++[Ll ((sL (Aa 44 s)).getD (c::L:List Tax).length [])]).length≤(sL (Aa 44 s)).length;rw[List.length_append];exact hi2
      ·show(sL (Aa 44 s)).length - ((c::L:List Tax)++[Ll ((sL (Aa 44 s)).getD (c::L:List Tax).length [])]).length<(sL (Aa 44 s)).length - (c::L:List Tax).length;rw[List.length_append,List.length_singleton];omega
     ·(conv=>whnf)
      (repeat' (first|with_reducible exact⟨⟩|refine tuA ?_|with_reducible refine iA ?_ ?_)<;>conv=>whnf)
      all_goals try simp only[wQ]
      all_goals (try first|exact⟨fun h=>h,fun _ _=>True.intro⟩)
      all_goals (try first|exact⟨by simp,Or.inl trivial⟩)
      all_goals try exact⟨rfl,rfl⟩
      all_goals (try simp)
     ·(conv=>whnf)
      (repeat' (first|with_reducible exact⟨⟩|refine tuA ?_|with_reducible refine iB ?_ ?_)<;>conv=>whnf)
      all_goals try simp only[wQ]
      all_goals try rfl
      exact⟨by simp,fun e he=>⟨Ey (enc:=Tax.enc) (l:=(c::L:List Tax)) rfl (fun _ _=>rfl) (by show _=(Ll ((sL (Aa 44 s)).getD (L.length+1) [])).enc;rw[hv];rfl) (by simpa using he),rfl⟩⟩
    ·have h61: ¬(((sL (Aa 61 ((sL (Aa 44 s)).getD (L.length+1) []))).length:Nat):Int)=2:=(by assumption);have hv:=(hw2 (L.length+1)).trans (if_neg (fun h=>by omega))
     have g1:=Cj (f:=fun w=>(Ll w,true)) q2 hi2
     (conv=>whnf)
     refine⟨(((c::L:List Tax)++[Ll ((sL (Aa 44 s)).getD (c::L:List Tax).length [])]):List Tax),[3],?_,⟨⟨rfl,(nB rfl),rfl⟩,?_,?_⟩⟩
     ·refine⟨⟨?_,g1⟩,?_⟩
      ·show((c::L:List Tax)++[Ll ((sL (Aa 44 s)).getD (c::L:List Tax).length [])]).length≤(sL (Aa 44 s)).length;rw[List.length_append];exact hi2
      ·show(sL (Aa 44 s)).length - ((c::L:List Tax)++[Ll ((sL (Aa 44 s)).getD (c::L:List Tax).length [])]).length<(sL (Aa 44 s)).length - (c::L:List Tax).length;rw[List.length_append,List.length_singleton];omega
     ·(conv=>whnf)
      (repeat' (first|with_reducible exact⟨⟩|refine tuA ?_|with_reducible refine iA ?_ ?_)<;>conv=>whnf)
      all_goals try simp only[wQ]
      all_goals (try first|exact⟨fun h=>h,fun _ _=>True.intro⟩)
      all_goals (try first|exact⟨by simp,Or.inl trivial⟩)
      all_goals try exact⟨rfl,rfl⟩
      all_goals (try simp)
     ·(conv=>whnf)
      (repeat' (first|with_reducible exact⟨⟩|refine tuA ?_|with_reducible refine iB ?_ ?_)<;>conv=>whnf)
      all_goals try simp only[wQ]
      all_goals try rfl
      exact⟨by simp,fun e he=>⟨Ey (enc:=Tax.enc) (l:=(c::L:List Tax)) rfl (fun _ _=>rfl) (by show _=(Ll ((sL (Aa 44 s)).getD (L.length+1) [])).enc;rw[hv];rfl) (by simpa using he),rfl⟩⟩
   ·have hx2: ¬(c::L).length<(sL (Aa 44 s)).length:=Nat.not_lt.2 (Int.ofNat_le.1 (by assumption))
    have e1:c::L=P8 s:=by
     have e:(c::L).length=(sL (Aa 44 s)).length:=(by omega);rw[e,List.take_length,Ck] at q2;unfold P8;rw[if_neg (by assumption)];exact q2
    rw[←e1];refine⟨⟨by omega,fun e he=>rfl⟩,?_⟩
    exact⟨rfl,rfl,fun h=>h,fun e he=>by simp only[Nat.zero_add]⟩
end
end Go.Vc.Z
namespace Go.Vc.Z
open Go Go.Vc Go.Proofs Go.RowKit Go.Pl Go.Lib
theorem A57{s:List UInt8}{r:Request}(hm:Af r=true)(hw:Be r=s)(hk:kindOf ((Aa 32 s).getD 0 [])=1):Aa 32 s=[[105,115,115,117,101],r.key,Lib.itoa r.day,r.locator,Bu r.coupons,Bm r.taxes]∧r=⟨r.key,1,r.day,0,0,0,r.locator,r.coupons,r.taxes,0,0,0⟩∧(Ay (Lib.itoa r.day)=r.day)∧(Rs (Bu r.coupons)=r.coupons)∧(P8 (Bm r.taxes)=r.taxes)∧True:=by
 have k:=Dj hm hw hk;obtain⟨c1,e1,gD,gC,gX, -⟩:=hJ hm hw hk;obtain⟨hK,hD,hL,hC,hX⟩:=Ha k hm;exact⟨c1,e1,Bz (Cf hD).1 (by have:=Cf hD;omega),pD hC,pE hX,True.intro⟩
theorem A58{s:List UInt8}{r:Request}(hm:Af r=true)(hw:Be r=s)(hk:kindOf ((Aa 32 s).getD 0 [])=2):Aa 32 s=[[109,111,118,101],r.key,Lib.itoa r.day,A6 r.ticket,Lib.itoa r.coupon,Cr r.status]∧r=⟨r.key,2,r.day,r.ticket,r.coupon,r.status,[],[],[],0,0,0⟩∧(Ay (Lib.itoa r.day)=r.day)∧((numOf (A6 r.ticket)).1=r.ticket)∧(Ay (Lib.itoa r.coupon)=r.coupon)∧(statOf (Cr r.status)=r.status)∧True:=by
 have k:=Dj hm hw hk;obtain⟨c1,e1,gD,gT,gN,gS, -⟩:=Arn hm hw hk;obtain⟨hK,hD,hT,hN,hS⟩:=Iw k hm;exact⟨c1,e1,Bz (Cf hD).1 (by have:=Cf hD;omega),congrArg Prod.fst gT,Bz (by omega) (by omega),gS.1,True.intro⟩
theorem A59{s:List UInt8}{r:Request}(hm:Af r=true)(hw:Be r=s)(hk:kindOf ((Aa 32 s).getD 0 [])=3):Aa 32 s=[[118,111,105,100],r.key,Lib.itoa r.day,A6 r.ticket]∧r=⟨r.key,3,r.day,r.ticket,0,0,[],[],[],0,0,0⟩∧(Ay (Lib.itoa r.day)=r.day)∧((numOf (A6 r.ticket)).1=r.ticket)∧True:=by
 have k:=Dj hm hw hk;obtain⟨c1,e1,gD,gT, -⟩:=Aro hm hw hk;obtain⟨hK,hD,hT⟩:=Ix k hm;exact⟨c1,e1,Bz (Cf hD).1 (by have:=Cf hD;omega),congrArg Prod.fst gT,True.intro⟩
theorem A6a{s:List UInt8}{r:Request}(hm:Af r=true)(hw:Be r=s)(hk:kindOf ((Aa 32 s).getD 0 [])=4):Aa 32 s=[[114,101,102,117,110,100],r.key,Lib.itoa r.day,A6 r.ticket,Cp r.amount]∧r=⟨r.key,4,r.day,r.ticket,0,0,[],[],[],r.amount,0,0⟩∧(Ay (Lib.itoa r.day)=r.day)∧((numOf (A6 r.ticket)).1=r.ticket)∧(Gp (Cp r.amount)=r.amount)∧True:=by
 have k:=Dj hm hw hk;obtain⟨c1,e1,gD,gT,gA, -⟩:=Arp hm hw hk;obtain⟨hK,hD,hT,hA⟩:=Iy k hm;exact⟨c1,e1,Bz (Cf hD).1 (by have:=Cf hD;omega),congrArg Prod.fst gT,P7 (Db hA),True.intro⟩
theorem A6b{s:List UInt8}{r:Request}(hm:Af r=true)(hw:Be r=s)(hk:kindOf ((Aa 32 s).getD 0 [])=5):Aa 32 s=[[101,120,99,104,97,110,103,101],r.key,Lib.itoa r.day,A6 r.ticket,Cp r.amount,Bu r.coupons,Bm r.taxes]∧r=⟨r.key,5,r.day,r.ticket,0,0,[],r.coupons,r.taxes,r.amount,0,0⟩∧(Ay (Lib.itoa r.day)=r.day)∧((numOf (A6 r.ticket)).1=r.ticket)∧(Gp (Cp r.amount)=r.amount)∧(Rs (Bu r.coupons)=r.coupons)∧(P8 (Bm r.taxes)=r.taxes)∧True:=by
 have k:=Dj hm hw hk;obtain⟨c1,e1,gD,gT,gA,gC,gX, -⟩:=hO hm hw hk;obtain⟨hK,hD,hT,hA,hC,hX⟩:=Hb k hm;exact⟨c1,e1,Bz (Cf hD).1 (by have:=Cf hD;omega),congrArg Prod.fst gT,P7 (Db hA),pD hC,pE hX,True.intro⟩
theorem A6c{s:List UInt8}{r:Request}(hm:Af r=true)(hw:Be r=s)(hk:kindOf ((Aa 32 s).getD 0 [])=6):Aa 32 s=[[97,115,107],r.key,Lib.itoa r.day,A6 r.ticket,Lib.itoa r.coupon]∧r=⟨r.key,6,r.day,r.ticket,r.coupon,0,[],[],[],0,0,0⟩∧(Ay (Lib.itoa r.day)=r.day)∧((numOf (A6 r.ticket)).1=r.ticket)∧(Ay (Lib.itoa r.coupon)=r.coupon)∧True:=by
 have k:=Dj hm hw hk;obtain⟨c1,e1,gD,gT,gN, -⟩:=Arq hm hw hk;obtain⟨hK,hD,hT,hN⟩:=Iz k hm;exact⟨c1,e1,Bz (Cf hD).1 (by have:=Cf hD;omega),congrArg Prod.fst gT,Bz (by omega) (by omega),True.intro⟩
theorem A6d{s:List UInt8}{r:Request}(hm:Af r=true)(hw:Be r=s)(hk:kindOf ((Aa 32 s).getD 0 [])=7):Aa 32 s=[[114,101,116,117,114,110],r.key,Lib.itoa r.day,A6 r.ticket,Lib.itoa r.coupon]∧r=⟨r.key,7,r.day,r.ticket,r.coupon,0,[],[],[],0,0,0⟩∧(Ay (Lib.itoa r.day)=r.day)∧((numOf (A6 r.ticket)).1=r.ticket)∧(Ay (Lib.itoa r.coupon)=r.coupon)∧True:=by
 have k:=Dj hm hw hk;obtain⟨c1,e1,gD,gT,gN, -⟩:=Arr hm hw hk;obtain⟨hK,hD,hT,hN⟩:=I0 k hm;exact⟨c1,e1,Bz (Cf hD).1 (by have:=Cf hD;omega),congrArg Prod.fst gT,Bz (by omega) (by omega),True.intro⟩
theorem A6e{s:List UInt8}{r:Request}(hm:Af r=true)(hw:Be r=s)(hk:kindOf ((Aa 32 s).getD 0 [])=8):Aa 32 s=[[115,104,111,119],A6 r.ticket]∧r=⟨[],8,0,r.ticket,0,0,[],[],[],0,0,0⟩∧((numOf (A6 r.ticket)).1=r.ticket)∧True:=by
 have k:=Dj hm hw hk;obtain⟨c1,e1,gT, -⟩:=Ars hm hw hk;have hT:=Sq k hm;exact⟨c1,e1,congrArg Prod.fst gT,True.intro⟩
theorem A6f{s:List UInt8}{r:Request}(hm:Af r=true)(hw:Be r=s)(hk:kindOf ((Aa 32 s).getD 0 [])=9):Aa 32 s=[[102,105,110,100],r.locator]∧r=⟨[],9,0,0,0,0,r.locator,[],[],0,0,0⟩∧True:=by
 have k:=Dj hm hw hk;obtain⟨c1,e1, -⟩:=Art hm hw hk;have hL:=I1 k hm;exact⟨c1,e1,True.intro⟩
theorem Azr{s:List UInt8}{r:Request}(hm:Af r=true)(hw:Be r=s)(hk:kindOf ((Aa 32 s).getD 0 [])=10):Aa 32 s=[[114,101,112,111,114,116],Lib.itoa r.frm,Lib.itoa r.til]∧r=⟨[],10,0,0,0,0,[],[],[],0,r.frm,r.til⟩∧(Ay (Lib.itoa r.frm)=r.frm)∧(Ay (Lib.itoa r.til)=r.til)∧True:=by
 have k:=Dj hm hw hk;obtain⟨c1,e1,gF,gU, -⟩:=Aho hm hw hk;obtain⟨hF,hU⟩:=Px k hm;exact⟨c1,e1,Bz (Cf hF).1 (by have:=Cf hF;omega),Bz (Cf hU).1 (by have:=Cf hU;omega),True.intro⟩
end Go.Vc.Z
