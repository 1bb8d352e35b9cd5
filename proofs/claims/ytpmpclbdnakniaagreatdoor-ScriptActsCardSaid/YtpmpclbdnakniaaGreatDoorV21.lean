/- What the reference reads, two: flights and taxes, word by word: the plain law. -/
import Derived.Test.YtpmpclbdnakniaaGreatDoorV20
set_option linter.all false
set_option linter.unusedVariables false
set_option linter.unusedSimpArgs false
namespace Go.Vc.Z
open Go Go.Vc Go.Proofs Go.RowKit Go.Pl Go.Lib
@[irreducible] def Gv(w:List UInt8):Coupon:=if (Aa 61 w).length=2∧(Aa 64 ((Aa 61 w).getD 0 [])).length=2 then⟨A9 ((Aa 64 ((Aa 61 w).getD 0 [])).getD 0 []),A9 ((Aa 64 ((Aa 61 w).getD 0 [])).getD 1 []),Gu ((Aa 61 w).getD 1 []),0,0,0⟩ else⟨-1,0,0,0,0,0⟩
@[irreducible] def K1(w:List UInt8):Tax:=if (Aa 61 w).length=2 then⟨A9 ((Aa 61 w).getD 0 []),Gu ((Aa 61 w).getD 1 [])⟩ else⟨-1,0⟩
theorem Ai6{c:Coupon}(h:Gk c 0=true):Gv (Bs c)=c:=by
 unfold Gk F7 at h
 simp only[Bool.and_eq_true,decide_eq_true_eq] at h
 obtain⟨⟨⟨⟨⟨⟨h1,h2⟩,h3,h4⟩,h5⟩,h6⟩,h7⟩,h8⟩:=h
 have e1:Aa 61 (Bs c)=[Lib.itoa c.flight++[64]++Lib.itoa c.day,C0 c.value]:=by
  unfold Bs
  rw[show Lib.itoa c.flight++[64]++Lib.itoa c.day++[61]++C0 c.value=(Lib.itoa c.flight++[64]++Lib.itoa c.day)++61::C0 c.value by simp]
  rw[Jr,K5 (Ul (by decide) (by decide) (by decide) _)]
  simp only[List.mem_append,List.mem_singleton,not_or]
  exact⟨⟨Fl (by decide) (by decide) _,by decide⟩,Fl (by decide) (by decide) _⟩
 have e3:Aa 64 (Lib.itoa c.flight++[64]++Lib.itoa c.day)=[Lib.itoa c.flight,Lib.itoa c.day]:=by
  rw[show Lib.itoa c.flight++[64]++Lib.itoa c.day=Lib.itoa c.flight++64::Lib.itoa c.day by simp]
  rw[Jr (Fl (by decide) (by decide) _),K5 (Fl (by decide) (by decide) _)]
 unfold Gv
 rw[e1,show([Lib.itoa c.flight++[64]++Lib.itoa c.day,C0 c.value]:List (List UInt8)).getD 0 []=Lib.itoa c.flight++[64]++Lib.itoa c.day from rfl,e3,if_pos ⟨rfl,rfl⟩]
 show(⟨A9 (Lib.itoa c.flight),A9 (Lib.itoa c.day),Gu (C0 c.value),0,0,0⟩:Coupon)=c
 rw[C4 (by omega) (by omega),C4 (by omega) (by omega),O0 (Dt h5)]
 cases c;simp_all
theorem Ai7{x:Tax}(h1:1≤x.code∧x.code≤99)(h2:Di x.amount=true):K1 (Fp x)=x:=by
 have e1:Aa 61 (Fp x)=[Lib.itoa x.code,C0 x.amount]:=by
  unfold Fp
  rw[show Lib.itoa x.code++[61]++C0 x.amount=Lib.itoa x.code++61::C0 x.amount by simp]
  rw[Jr (Fl (by decide) (by decide) _),K5 (Ul (by decide) (by decide) (by decide) _)]
 unfold K1
 rw[e1,if_pos (show([Lib.itoa x.code,C0 x.amount]:List (List UInt8)).length=2 from rfl)]
 show(⟨A9 (Lib.itoa x.code),Gu (C0 x.amount)⟩:Tax)=x
 rw[C4 (by omega) (by omega),O0 (Dt h2)]
@[irreducible] def Qh(s:List UInt8):List Coupon:=(Aa 44 s).map Gv
@[irreducible] def O1(s:List UInt8):List Tax:=if s=[45] then [] else(Aa 44 s).map K1
theorem fR{α:Type}{f:List UInt8→α}{g:α→List UInt8}:∀ {l:List α},(∀ c ∈ l,f (g c)=c)→(l.map g).map f=l
 |[],_=>rfl
 |c::l,h=>by
  rw[List.map_cons,List.map_cons,h c (List.mem_cons_self ..),fR fun d hd=>h d (List.mem_cons_of_mem _ hd)]
theorem fV{m:Int}{l:List Coupon}(h:Fh m l=true):Qh (Cb l)=l:=by
 obtain⟨h1,h2,h3⟩:=Em h
 unfold Qh
 rw[aT (by intro e;rw[e] at h1;simp at h1)]
 exact fR fun c hc=>Ai6 (h3 c hc)
theorem fW{l:List Tax}(h:Dg l=true):O1 (By l)=l:=by
 unfold O1
 by_cases h0:l=[]
 ·subst h0;rw[if_pos (by unfold By;rfl)]
 ·rw[if_neg (aQ h0),pA h0]
  exact fR fun c hc=>Ai7 (Re h c hc).1 (Re h c hc).2
theorem Ai8{s:List UInt8}(h:statOf s≠0):C2 (statOf s)=s:=by
 have hm:=(We (s:=s)).resolve_left h
 rw[fE hm]
 unfold statOf at h ⊢
 repeat' split
 all_goals first|(rename_i e;exact e.symm)|(rename_i e _;exact e.symm)|skip
 all_goals simp_all
end Go.Vc.Z
namespace Go.Vc.Z
open Go Go.Vc Go.Proofs Go.RowKit Go.Pl Go.Lib
noncomputable section
set_option maxRecDepth 100000
attribute [local irreducible] inK Utf8.decode Utf8.encode Lib.itoa Pl.worth Pl.allDig
attribute [local irreducible] Lib.join Ca Aa
def yG:PC:=PC.fun fun|[.str s]=>some (True,.int .i64 (sI (Gu s)))|_=>none
def H8:PT:=C8 [(175,Atl)]
theorem L8{W:World}(hW:Tabs W):Ct (Fw W) Tryz.prog H8:=(Ab Tryz.call175 (Zt hW) Av)
def H9:FuncId→Option Ctr:=Az H8 []
theorem Vd{W:World}(hW:Tabs W):Ad (Fw W) Tryz.prog H9:=(Aw (L8 hW))
theorem L9{W:World}(hW:Tabs W):GoodP (Fw W) Tryz.prog 90 yG:=by
 have hD:=L8 hW
 have hC0:Ad (Fw W) Tryz.prog H9:=(Vd hW)
 refine Ax (D:=H8) (C:=H9) (wr:=(fun _=>false)) rfl Ao hD hC0 Tryz.func90 (fun _ _=>none) ?_
 clear hC0 hD hW
 intro cs p r h hf hp
 split at h
 case h_2=>cases h
 rename_i s
 cases h
 try simp only[A0,Bg,Ak,Go.Vc.lo,Go.Vc.hi,and_true] at hf
 (conv=>whnf)
 (repeat' ((first
  |((with_reducible refine aI ?_ ?_);focus (first|with_reducible exact⟨⟩|with_reducible rfl))
  |(split<;>rename_i hh<;>(try simp only[wS] at hh))
  |fail)<;>(conv=>whnf)))
 all_goals (try (show _=_;simp only[wQ]))
 all_goals (unfold Gu;first|(rw[if_neg (by assumption)];done)|(rw[if_pos (by assumption)];done))
def Agm:PC:=PC.fun fun|[.str s]=>some (True,.int .i64 (sI (statOf s)))|_=>none
def Au8(s:List UInt8):LoopSpec:={
 α:=Int
 keep:=[0,3]
 vals k:=[.str s,.int .i64 k]
 heap _:=[]
 ok k:=1≤k∧k≤10∧∀ j,1≤j→j<k→C2 j≠s
 μ k:=(10 - k).toNat }
def Hg:PT:=C8 [(82,Su)]
theorem Li{W:World}(hW:Tabs W):Ct (Fw W) Tryz.prog Hg:=(Ab Tryz.call82 (Lb hW) Av)
def Hh:FuncId→Option Ctr:=Az Hg []
theorem Tl{W:World}(hW:Tabs W):Ad (Fw W) Tryz.prog Hh:=(Aw (Li hW))
def Tm:List AV→Nat→Option LR:=fun cs i=>match cs with|[.str s]=>cond (Nat.beq i 2) (some (.inv (Au8 s))) (none)|_=>none
theorem Tn{W:World}(hW:Tabs W):GoodP (Fw W) Tryz.prog 89 Agm:=by
 have hD:=Li hW
 have hC0:Ad (Fw W) Tryz.prog Hh:=(Tl hW)
 refine Ax (D:=Hg) (C:=Hh) (wr:=(fun _=>false)) rfl Ao hD hC0 Tryz.func89 (Tm) ?_
 clear hC0 hD hW
 intro cs p r h hf hp
 split at h
 case h_2=>cases h
 rename_i s
 cases h
 try simp only[A0,Bg,Ak,Go.Vc.lo,Go.Vc.hi,and_true] at hf
 (conv=>whnf)
 refine⟨?_,fun(k:Int) hk=>?_⟩
 ·(conv=>whnf)
  refine⟨(1:Int),[],?_,⟨⟨rfl,(nB rfl),rfl⟩,?_,?_⟩⟩
  ·exact⟨by decide,by decide,fun j h1 h2=>absurd h1 (by omega)⟩
  ·exact Ac _
  ·exact tL
 ·obtain⟨k1,k2,k3⟩:=hk
  (conv=>whnf)
  (repeat' ((first
   |((with_reducible refine aI ?_ ?_);focus (first|with_reducible exact⟨⟩|with_reducible rfl|exact tK))
   |(split<;>rename_i hh<;>(try simp only[wS] at hh))
   |fail)<;>(conv=>whnf)))
  all_goals (try (show _=_;simp only[wQ]))
  ·have h:=Vo (M2.2 ⟨k1,by omega⟩)
   rw[show C2 k=s by assumption] at h
   exact h.symm
  ·(conv=>whnf)
   refine⟨(k+1:Int),[],?_,⟨⟨rfl,(nB rfl),rfl⟩,?_,?_⟩⟩
   ·exact⟨⟨by omega,by omega,fun j h1 h2=>by
     by_cases e:j=k
     ·subst e;assumption
     ·exact k3 j h1 (by omega)⟩,show(10 - (k+1)).toNat<(10 - k).toNat by omega⟩
   ·exact Ac _
   ·exact tL
  ·by_cases h:statOf s=0
   ·exact h.symm
   ·have hm:=M2.1 ((We (s:=s)).resolve_left h)
    exact absurd (Ai8 h) (k3 _ hm.1 (by omega))
def Az5(l:List Coupon):Blk:=match l with
 |[]=>.dead
 |c::l=>.row 6 (l.length+1) (fun e=>((c::l).getD e default).enc)
def Az6:List Coupon→AV
 |[]=>.nilsl
 |_::l=>.osl 0 6 0 (l.length+1) none
def A18(s:List UInt8):LoopSpec:={
 α:=List Coupon
 keep:=[3,4,5]
 vals L:=[Az6 L,slS (sL (Aa 44 s)),.int .i64 L.length]
 heap L:=[Az5 L]
 ok L:=L.length≤(sL (Aa 44 s)).length∧L=((sL (Aa 44 s)).take L.length).map Gv
 μ L:=(sL (Aa 44 s)).length - L.length }
def Atm:PC:=PC.of (fun s:List UInt8=>[.str s]) (fun s=>s.length≤1000000) (fun s=>slE 6 Coupon.enc (Qh s))
def D4:PT:=C8 [(86,Afh),(87,cQ),(90,yG)]
theorem Ey{W:World}(hW:Tabs W):Ct (Fw W) Tryz.prog D4:=(Ab Tryz.call86 (J3 hW) (Ab Tryz.call87 (H5 hW) (Ab Tryz.call90 (L9 hW) Av)))
def Dj:FuncId→Option Ctr:=Az D4 []
theorem Ht{W:World}(hW:Tabs W):Ad (Fw W) Tryz.prog Dj:=(Aw (Ey hW))
def Oc:List UInt8→Nat→Option LR:=fun s i=>cond (Nat.beq i 4) (some (.inv (A18 s))) (none)
set_option maxHeartbeats 2000000 in
theorem Od{W:World}(hW:Tabs W):GoodP (Fw W) Tryz.prog 91 Atm:=by
 have hD:=Ey hW
 have hC0:∀ s:List UInt8,Ad (Fw W) Tryz.prog Dj:=fun s=>(Ht hW)
 refine As (D:=D4) (C:=fun s=>Dj) (wr:=(fun _=>false)) rfl Ao hD hC0 Tryz.func91 (Oc) (fun _=>rfl) ?_
 intro s hf hp
 clear hf
 have hm44:∀ i,((sL (Aa 44 s)).getD i []).length≤100000000:=fun i=>Gi (Nat.le_trans hp (by decide)) i
 have hb44:(sL (Aa 44 s)).length≤1000001:=by rw[Do];exact Nat.le_trans (Ik _ _) (Nat.succ_le_succ hp)
 have hm61:∀ {i j:Nat},((sL (Aa 61 ((sL (Aa 44 s)).getD i []))).getD j []).length≤100000000:=fun {i} {j}=>Gi (hm44 i) j
 have hl61:∀ i:Nat,1≤(sL (Aa 61 ((sL (Aa 44 s)).getD i []))).length:=fun i=>by rw[Do];exact Ei _ _
 have hl44:1≤(sL (Aa 44 s)).length:=by rw[Do];exact Ei _ _
 have hw2:∀ i:Nat,Gv ((sL (Aa 44 s)).getD i [])=if (sL (Aa 61 ((sL (Aa 44 s)).getD i []))).length=2∧(sL (Aa 64 ((sL (Aa 61 ((sL (Aa 44 s)).getD i []))).getD 0 []))).length=2 then⟨A9 ((sL (Aa 64 ((sL (Aa 61 ((sL (Aa 44 s)).getD i []))).getD 0 []))).getD 0 []),A9 ((sL (Aa 64 ((sL (Aa 61 ((sL (Aa 44 s)).getD i []))).getD 0 []))).getD 1 []),Gu ((sL (Aa 61 ((sL (Aa 44 s)).getD i []))).getD 1 []),0,0,0⟩ else⟨-1,0,0,0,0,0⟩:=fun i=>by
  simp only[Do];unfold Gv;rfl
 refine⟨((s,44):List UInt8 × UInt8),Nat.le_trans hp (by decide),?_,?_⟩
 ·exact Ac _
 (conv=>whnf)
 refine⟨?_,fun(L:List Coupon) hL=>?_⟩
 ·(conv=>whnf)
  refine⟨([]:List Coupon),[],?_,⟨⟨rfl,(nB rfl),rfl⟩,?_,?_⟩⟩
  ·exact⟨Nat.zero_le _,rfl⟩
  ·exact Ac _
  ·exact tL
 ·obtain⟨q1,q2⟩:=hL
  change L.length≤(sL (Aa 44 s)).length at q1
  change L=((sL (Aa 44 s)).take L.length).map Gv at q2
  rcases L with _|⟨c,L⟩
  ·(conv=>whnf)
   (repeat' ((first
    |((with_reducible refine aI ?_ ?_);focus (omega))
    |(split<;>rename_i hh<;>(try simp only[wS] at hh))
    |with_reducible refine lnI fun hln=>?_
    |fail)<;>(conv=>whnf)))
   ·have hi2:([]:List Coupon).length<(sL (Aa 44 s)).length:=Int.ofNat_lt.1 (by assumption)
    refine⟨((((sL (Aa 44 s)).getD 0 []),61):List UInt8 × UInt8),hm44 _,?_,?_⟩
    ·exact Ac _
    (conv=>whnf)
    refine⟨⟨by decide,Int.ofNat_lt.2 (hl61 _)⟩,?_⟩
    refine⟨(((sL (Aa 61 ((sL (Aa 44 s)).getD 0 []))).getD 0 [],64):List UInt8 × UInt8),hm61,?_,?_⟩
    ·exact Ac _
    (conv=>whnf)
    (repeat' ((first
     |((with_reducible refine aI ?_ ?_);focus (first|with_reducible exact⟨⟩|exact tO|omega|exact tK|(simp only[Ap,ty2,ty3,ty4,ty5,ty9,Cu,Ck,Cv,Cl,Cq,Cw,Cx,Cy,Bm,Bl,Bn,Bo,Bp,Bq,Br];first|omega|(refine⟨?_,?_⟩<;>omega))))
     |(split<;>rename_i hh<;>(try simp only[wS] at hh))
     |with_reducible refine lnI fun hln=>?_
     |fail)<;>(conv=>whnf)))
    ·have h61:(((sL (Aa 61 ((sL (Aa 44 s)).getD 0 []))).length:Nat):Int)=2:=by assumption
     have h64:(((sL (Aa 64 ((sL (Aa 61 ((sL (Aa 44 s)).getD 0 []))).getD 0 []))).length:Nat):Int)=2:=by assumption
     have hv:=(hw2 0).trans (if_pos ⟨by omega,by omega⟩)
     have g1:=Cp (f:=fun w=>(Gv w,true)) q2 hi2
     (conv=>whnf)
     refine⟨((([]:List Coupon)++[Gv ((sL (Aa 44 s)).getD ([]:List Coupon).length [])]):List Coupon),[14],?_,⟨⟨rfl,(nB rfl),rfl⟩,?_,?_⟩⟩
     ·refine⟨⟨?_,g1⟩,?_⟩
      ·show(([]:List Coupon)++[Gv ((sL (Aa 44 s)).getD ([]:List Coupon).length [])]).length≤(sL (Aa 44 s)).length
       rw[List.length_append];exact hi2
      ·show(sL (Aa 44 s)).length - (([]:List Coupon)++[Gv ((sL (Aa 44 s)).getD ([]:List Coupon).length [])]).length<(sL (Aa 44 s)).length - ([]:List Coupon).length
       rw[List.length_append,List.length_singleton];omega
     ·(conv=>whnf)
      (repeat' ((first|with_reducible exact⟨⟩|((with_reducible refine Or.inr ?_);rfl)|((with_reducible refine aI ?_ ?_);focus (exact tA))|with_reducible refine iA ?_ ?_|fail)<;>(conv=>whnf)))
      all_goals (try simp only[wQ])
      all_goals (try first|rfl|exact⟨fun h=>h,fun _ _=>True.intro⟩)
      all_goals try exact⟨rfl,rfl⟩
      all_goals (try simp)
     ·(conv=>whnf)
      (repeat' ((first|with_reducible exact⟨⟩|((with_reducible refine aI ?_ ?_);focus (exact tA))|with_reducible refine iB ?_ ?_|fail)<;>(conv=>whnf)))
      all_goals (try simp only[wQ])
      all_goals try rfl
      intro e he
      have he:e<1:=he
      obtain rfl:e=0:=by omega
      refine⟨?_,rfl⟩
      show _=(Gv ((sL (Aa 44 s)).getD 0 [])).enc
      rw[hv];rfl
    ·have h61:(((sL (Aa 61 ((sL (Aa 44 s)).getD 0 []))).length:Nat):Int)=2:=by assumption
     have h64: ¬(((sL (Aa 64 ((sL (Aa 61 ((sL (Aa 44 s)).getD 0 []))).getD 0 []))).length:Nat):Int)=2:=by assumption
     have hv:=(hw2 0).trans (if_neg (fun h=>by omega))
     have g1:=Cp (f:=fun w=>(Gv w,true)) q2 hi2
     (conv=>whnf)
     refine⟨((([]:List Coupon)++[Gv ((sL (Aa 44 s)).getD ([]:List Coupon).length [])]):List Coupon),[3],?_,⟨⟨rfl,(nB rfl),rfl⟩,?_,?_⟩⟩
     ·refine⟨⟨?_,g1⟩,?_⟩
      ·show(([]:List Coupon)++[Gv ((sL (Aa 44 s)).getD ([]:List Coupon).length [])]).length≤(sL (Aa 44 s)).length
       rw[List.length_append];exact hi2
      ·show(sL (Aa 44 s)).length - (([]:List Coupon)++[Gv ((sL (Aa 44 s)).getD ([]:List Coupon).length [])]).length<(sL (Aa 44 s)).length - ([]:List Coupon).length
       rw[List.length_append,List.length_singleton];omega
     ·(conv=>whnf)
      (repeat' ((first|with_reducible exact⟨⟩|((with_reducible refine Or.inr ?_);rfl)|((with_reducible refine aI ?_ ?_);focus (exact tA))|with_reducible refine iA ?_ ?_|fail)<;>(conv=>whnf)))
      all_goals (try simp only[wQ])
      all_goals (try first|rfl|exact⟨fun h=>h,fun _ _=>True.intro⟩)
      all_goals try exact⟨rfl,rfl⟩
      all_goals (try simp)
     ·(conv=>whnf)
      (repeat' ((first|with_reducible exact⟨⟩|((with_reducible refine aI ?_ ?_);focus (exact tA))|with_reducible refine iB ?_ ?_|fail)<;>(conv=>whnf)))
      all_goals (try simp only[wQ])
      all_goals try rfl
      intro e he
      have he:e<1:=he
      obtain rfl:e=0:=by omega
      refine⟨?_,rfl⟩
      show _=(Gv ((sL (Aa 44 s)).getD 0 [])).enc
      rw[hv];rfl
    ·have h61: ¬(((sL (Aa 61 ((sL (Aa 44 s)).getD 0 []))).length:Nat):Int)=2:=by assumption
     have hv:=(hw2 0).trans (if_neg (fun h=>by omega))
     have g1:=Cp (f:=fun w=>(Gv w,true)) q2 hi2
     (conv=>whnf)
     refine⟨((([]:List Coupon)++[Gv ((sL (Aa 44 s)).getD ([]:List Coupon).length [])]):List Coupon),[3],?_,⟨⟨rfl,(nB rfl),rfl⟩,?_,?_⟩⟩
     ·refine⟨⟨?_,g1⟩,?_⟩
      ·show(([]:List Coupon)++[Gv ((sL (Aa 44 s)).getD ([]:List Coupon).length [])]).length≤(sL (Aa 44 s)).length
       rw[List.length_append];exact hi2
      ·show(sL (Aa 44 s)).length - (([]:List Coupon)++[Gv ((sL (Aa 44 s)).getD ([]:List Coupon).length [])]).length<(sL (Aa 44 s)).length - ([]:List Coupon).length
       rw[List.length_append,List.length_singleton];omega
     ·(conv=>whnf)
      (repeat' ((first|with_reducible exact⟨⟩|((with_reducible refine Or.inr ?_);rfl)|((with_reducible refine aI ?_ ?_);focus (exact tA))|with_reducible refine iA ?_ ?_|fail)<;>(conv=>whnf)))
      all_goals (try simp only[wQ])
      all_goals (try first|rfl|exact⟨fun h=>h,fun _ _=>True.intro⟩)
      all_goals try exact⟨rfl,rfl⟩
      all_goals (try simp)
     ·(conv=>whnf)
      (repeat' ((first|with_reducible exact⟨⟩|((with_reducible refine aI ?_ ?_);focus (exact tA))|with_reducible refine iB ?_ ?_|fail)<;>(conv=>whnf)))
      all_goals (try simp only[wQ])
      all_goals try rfl
      intro e he
      have he:e<1:=he
      obtain rfl:e=0:=by omega
      refine⟨?_,rfl⟩
      show _=(Gv ((sL (Aa 44 s)).getD 0 [])).enc
      rw[hv];rfl
   ·exfalso;have h:(_:Int)≤0:=‹(_:Int)≤((([]:List Coupon).length:Nat):Int)›;omega
  ·have q0:L.length+1≤1000001:=Nat.le_trans q1 hb44
   (conv=>whnf)
   (repeat' ((first
    |((with_reducible refine aI ?_ ?_);focus (omega))
    |(split<;>rename_i hh<;>(try simp only[wS] at hh))
    |with_reducible refine lnI fun hln=>?_
    |fail)<;>(conv=>whnf)))
   ·have hi2:(c::L:List Coupon).length<(sL (Aa 44 s)).length:=Int.ofNat_lt.1 (by assumption)
    refine⟨((((sL (Aa 44 s)).getD (L.length+1) []),61):List UInt8 × UInt8),hm44 _,?_,?_⟩
    ·exact Ac _
    (conv=>whnf)
    refine⟨⟨by decide,Int.ofNat_lt.2 (hl61 _)⟩,?_⟩
    refine⟨(((sL (Aa 61 ((sL (Aa 44 s)).getD (L.length+1) []))).getD 0 [],64):List UInt8 × UInt8),hm61,?_,?_⟩
    ·exact Ac _
    (conv=>whnf)
    (repeat' ((first
     |((with_reducible refine aI ?_ ?_);focus (first|with_reducible exact⟨⟩|((with_reducible refine⟨?_,?_,?_⟩)<;>first|(intro e he;rcases(by omega:e=0∨e=1∨e=2∨e=3∨e=4∨e=5) with rfl|rfl|rfl|rfl|rfl|rfl<;>first|rfl|(exfalso;omega))|(with_reducible assumption)|omega|((with_reducible show Ap _ _);simp only[Ap,ty2,ty3,ty4,ty5,ty9,Cu,Ck,Cv,Cl,Cq,Cw,Cx,Cy,Bm,Bl,Bn,Bo,Bp,Bq,Br,List.length_cons,List.length_nil];first|omega|(refine⟨?_,?_⟩<;>omega)))|exact tO|omega|exact tK))
     |(split<;>rename_i hh<;>(try simp only[wS] at hh))
     |with_reducible refine lnI fun hln=>?_
     |fail)<;>(conv=>whnf)))
    ·have h61:(((sL (Aa 61 ((sL (Aa 44 s)).getD (L.length+1) []))).length:Nat):Int)=2:=by assumption
     have h64:(((sL (Aa 64 ((sL (Aa 61 ((sL (Aa 44 s)).getD (L.length+1) []))).getD 0 []))).length:Nat):Int)=2:=by assumption
     have hv:=(hw2 (L.length+1)).trans (if_pos ⟨by omega,by omega⟩)
     have g1:=Cp (f:=fun w=>(Gv w,true)) q2 hi2
     (conv=>whnf)
     refine⟨(((c::L:List Coupon)++[Gv ((sL (Aa 44 s)).getD (c::L:List Coupon).length [])]):List Coupon),[14],?_,⟨⟨rfl,(nB rfl),rfl⟩,?_,?_⟩⟩
     ·refine⟨⟨?_,g1⟩,?_⟩
      ·show((c::L:List Coupon)++[Gv ((sL (Aa 44 s)).getD (c::L:List Coupon).length [])]).length≤(sL (Aa 44 s)).length
       rw[List.length_append];exact hi2
      ·show(sL (Aa 44 s)).length - ((c::L:List Coupon)++[Gv ((sL (Aa 44 s)).getD (c::L:List Coupon).length [])]).length<(sL (Aa 44 s)).length - (c::L:List Coupon).length
       rw[List.length_append,List.length_singleton];omega
     ·(conv=>whnf)
      (repeat' ((first|with_reducible exact⟨⟩|((with_reducible refine aI ?_ ?_);focus (exact tA))|with_reducible refine iA ?_ ?_|fail)<;>(conv=>whnf)))
      all_goals (try simp only[wQ])
      all_goals (try first|exact⟨fun h=>h,fun _ _=>True.intro⟩)
      all_goals (try first|exact⟨by simp,Or.inl trivial⟩)
      all_goals try exact⟨rfl,rfl⟩
      all_goals (try simp)
     ·(conv=>whnf)
      (repeat' ((first|with_reducible exact⟨⟩|((with_reducible refine aI ?_ ?_);focus (exact tA))|with_reducible refine iB ?_ ?_|fail)<;>(conv=>whnf)))
      all_goals (try simp only[wQ])
      all_goals try rfl
      exact⟨by simp,fun e he=>⟨Ii (enc:=Coupon.enc) (l:=(c::L:List Coupon)) rfl (fun _ _=>rfl) (by show _=(Gv ((sL (Aa 44 s)).getD (L.length+1) [])).enc;rw[hv];rfl) (by simpa using he),rfl⟩⟩
    ·have h61:(((sL (Aa 61 ((sL (Aa 44 s)).getD (L.length+1) []))).length:Nat):Int)=2:=by assumption
     have h64: ¬(((sL (Aa 64 ((sL (Aa 61 ((sL (Aa 44 s)).getD (L.length+1) []))).getD 0 []))).length:Nat):Int)=2:=by assumption
     have hv:=(hw2 (L.length+1)).trans (if_neg (fun h=>by omega))
     have g1:=Cp (f:=fun w=>(Gv w,true)) q2 hi2
     (conv=>whnf)
     refine⟨(((c::L:List Coupon)++[Gv ((sL (Aa 44 s)).getD (c::L:List Coupon).length [])]):List Coupon),[3],?_,⟨⟨rfl,(nB rfl),rfl⟩,?_,?_⟩⟩
     ·refine⟨⟨?_,g1⟩,?_⟩
      ·show((c::L:List Coupon)++[Gv ((sL (Aa 44 s)).getD (c::L:List Coupon).length [])]).length≤(sL (Aa 44 s)).length
       rw[List.length_append];exact hi2
      ·show(sL (Aa 44 s)).length - ((c::L:List Coupon)++[Gv ((sL (Aa 44 s)).getD (c::L:List Coupon).length [])]).length<(sL (Aa 44 s)).length - (c::L:List Coupon).length
       rw[List.length_append,List.length_singleton];omega
     ·(conv=>whnf)
      (repeat' ((first|with_reducible exact⟨⟩|((with_reducible refine aI ?_ ?_);focus (exact tA))|with_reducible refine iA ?_ ?_|fail)<;>(conv=>whnf)))
      all_goals (try simp only[wQ])
      all_goals (try first|exact⟨fun h=>h,fun _ _=>True.intro⟩)
      all_goals (try first|exact⟨by simp,Or.inl trivial⟩)
      all_goals try exact⟨rfl,rfl⟩
      all_goals (try simp)
     ·(conv=>whnf)
      (repeat' ((first|with_reducible exact⟨⟩|((with_reducible refine aI ?_ ?_);focus (exact tA))|with_reducible refine iB ?_ ?_|fail)<;>(conv=>whnf)))
      all_goals (try simp only[wQ])
      all_goals try rfl
      exact⟨by simp,fun e he=>⟨Ii (enc:=Coupon.enc) (l:=(c::L:List Coupon)) rfl (fun _ _=>rfl) (by show _=(Gv ((sL (Aa 44 s)).getD (L.length+1) [])).enc;rw[hv];rfl) (by simpa using he),rfl⟩⟩
    ·have h61: ¬(((sL (Aa 61 ((sL (Aa 44 s)).getD (L.length+1) []))).length:Nat):Int)=2:=by assumption
     have hv:=(hw2 (L.length+1)).trans (if_neg (fun h=>by omega))
     have g1:=Cp (f:=fun w=>(Gv w,true)) q2 hi2
     (conv=>whnf)
     refine⟨(((c::L:List Coupon)++[Gv ((sL (Aa 44 s)).getD (c::L:List Coupon).length [])]):List Coupon),[3],?_,⟨⟨rfl,(nB rfl),rfl⟩,?_,?_⟩⟩
     ·refine⟨⟨?_,g1⟩,?_⟩
      ·show((c::L:List Coupon)++[Gv ((sL (Aa 44 s)).getD (c::L:List Coupon).length [])]).length≤(sL (Aa 44 s)).length
       rw[List.length_append];exact hi2
      ·show(sL (Aa 44 s)).length - ((c::L:List Coupon)++[Gv ((sL (Aa 44 s)).getD (c::L:List Coupon).length [])]).length<(sL (Aa 44 s)).length - (c::L:List Coupon).length
       rw[List.length_append,List.length_singleton];omega
     ·(conv=>whnf)
      (repeat' ((first|with_reducible exact⟨⟩|((with_reducible refine aI ?_ ?_);focus (exact tA))|with_reducible refine iA ?_ ?_|fail)<;>(conv=>whnf)))
      all_goals (try simp only[wQ])
      all_goals (try first|exact⟨fun h=>h,fun _ _=>True.intro⟩)
      all_goals (try first|exact⟨by simp,Or.inl trivial⟩)
      all_goals try exact⟨rfl,rfl⟩
      all_goals (try simp)
     ·(conv=>whnf)
      (repeat' ((first|with_reducible exact⟨⟩|((with_reducible refine aI ?_ ?_);focus (exact tA))|with_reducible refine iB ?_ ?_|fail)<;>(conv=>whnf)))
      all_goals (try simp only[wQ])
      all_goals try rfl
      exact⟨by simp,fun e he=>⟨Ii (enc:=Coupon.enc) (l:=(c::L:List Coupon)) rfl (fun _ _=>rfl) (by show _=(Gv ((sL (Aa 44 s)).getD (L.length+1) [])).enc;rw[hv];rfl) (by simpa using he),rfl⟩⟩
   ·have hx2: ¬(c::L).length<(sL (Aa 44 s)).length:=Nat.not_lt.2 (Int.ofNat_le.1 (by assumption))
    have e1:c::L=Qh s:=by
     have e:(c::L).length=(sL (Aa 44 s)).length:=by omega
     rw[e,List.take_length,Do] at q2
     unfold Qh;exact q2
    rw[←e1]
    refine⟨⟨by omega,fun e he=>rfl⟩,?_⟩
    exact⟨rfl,rfl,fun h=>h,fun e he=>by simp only[Nat.zero_add]⟩
end
end Go.Vc.Z
namespace Go.Vc.Z
open Go Go.Vc Go.Proofs Go.RowKit Go.Pl Go.Lib
noncomputable section
set_option maxRecDepth 100000
attribute [local irreducible] inK Utf8.decode Utf8.encode Lib.itoa Pl.worth Pl.allDig
attribute [local irreducible] Lib.join Ca Aa
def Az7(l:List Tax):Blk:=match l with
 |[]=>.dead
 |c::l=>.row 2 (l.length+1) (fun e=>((c::l).getD e default).enc)
def Az8:List Tax→AV
 |[]=>.nilsl
 |_::l=>.osl 0 2 0 (l.length+1) none
def A19(s:List UInt8):LoopSpec:={
 α:=List Tax
 keep:=[3,4,5]
 vals L:=[Az8 L,slS (sL (Aa 44 s)),.int .i64 L.length]
 heap L:=[Az7 L]
 ok L:=L.length≤(sL (Aa 44 s)).length∧L=((sL (Aa 44 s)).take L.length).map K1
 μ L:=(sL (Aa 44 s)).length - L.length }
def Atn:PC:=PC.of (fun s:List UInt8=>[.str s]) (fun s=>s.length≤1000000) (fun s=>slE 2 Tax.enc (O1 s))
def Qi:List UInt8→Nat→Option LR:=fun s i=>cond (Nat.beq i 6) (some (.inv (A19 s))) (none)
set_option maxHeartbeats 2000000 in
theorem Qj{W:World}(hW:Tabs W):GoodP (Fw W) Tryz.prog 92 Atn:=by
 have hD:=Ey hW
 have hC0:∀ s:List UInt8,Ad (Fw W) Tryz.prog Dj:=fun s=>(Ht hW)
 refine As (D:=D4) (C:=fun s=>Dj) (wr:=(fun _=>false)) rfl Ao hD hC0 Tryz.func92 (Qi) (fun _=>rfl) ?_
 intro s hf hp
 clear hf
 have hm44:∀ i,((sL (Aa 44 s)).getD i []).length≤100000000:=fun i=>Gi (Nat.le_trans hp (by decide)) i
 have hb44:(sL (Aa 44 s)).length≤1000001:=by rw[Do];exact Nat.le_trans (Ik _ _) (Nat.succ_le_succ hp)
 have hm61:∀ {i j:Nat},((sL (Aa 61 ((sL (Aa 44 s)).getD i []))).getD j []).length≤100000000:=fun {i} {j}=>Gi (hm44 i) j
 have hl44:1≤(sL (Aa 44 s)).length:=by rw[Do];exact Ei _ _
 have hw2:∀ i:Nat,K1 ((sL (Aa 44 s)).getD i [])=if (sL (Aa 61 ((sL (Aa 44 s)).getD i []))).length=2 then⟨A9 ((sL (Aa 61 ((sL (Aa 44 s)).getD i []))).getD 0 []),Gu ((sL (Aa 61 ((sL (Aa 44 s)).getD i []))).getD 1 [])⟩ else⟨-1,0⟩:=fun i=>by
  simp only[Do];unfold K1;rfl
 (conv=>whnf)
 (repeat' ((first
  |(split<;>rename_i hh<;>(try simp only[wS] at hh))
  |fail)<;>(conv=>whnf)))
 ·unfold O1;rw[if_pos (by assumption)];rfl
 refine⟨((s,44):List UInt8 × UInt8),Nat.le_trans hp (by decide),?_,?_⟩
 ·exact Ac _
 (conv=>whnf)
 refine⟨?_,fun(L:List Tax) hL=>?_⟩
 ·(conv=>whnf)
  refine⟨([]:List Tax),[],?_,⟨⟨rfl,(nB rfl),rfl⟩,?_,?_⟩⟩
  ·exact⟨Nat.zero_le _,rfl⟩
  ·exact Ac _
  ·exact tL
 ·obtain⟨q1,q2⟩:=hL
  change L.length≤(sL (Aa 44 s)).length at q1
  change L=((sL (Aa 44 s)).take L.length).map K1 at q2
  rcases L with _|⟨c,L⟩
  ·(conv=>whnf)
   (repeat' ((first
    |((with_reducible refine aI ?_ ?_);focus (omega))
    |(split<;>rename_i hh<;>(try simp only[wS] at hh))
    |with_reducible refine lnI fun hln=>?_
    |fail)<;>(conv=>whnf)))
   ·have hi2:([]:List Tax).length<(sL (Aa 44 s)).length:=Int.ofNat_lt.1 (by assumption)
    refine⟨((((sL (Aa 44 s)).getD 0 []),61):List UInt8 × UInt8),hm44 _,?_,?_⟩
    ·exact Ac _
    (conv=>whnf)
    (repeat' ((first
     |((with_reducible refine aI ?_ ?_);focus (first|with_reducible exact⟨⟩|exact tO|omega|exact tK|(simp only[Ap,ty2,ty3,ty4,ty5,ty9,Cu,Ck,Cv,Cl,Cq,Cw,Cx,Cy,Bm,Bl,Bn,Bo,Bp,Bq,Br];first|omega|(refine⟨?_,?_⟩<;>omega))))
     |(split<;>rename_i hh<;>(try simp only[wS] at hh))
     |with_reducible refine lnI fun hln=>?_
     |fail)<;>(conv=>whnf)))
    ·have h61:(((sL (Aa 61 ((sL (Aa 44 s)).getD 0 []))).length:Nat):Int)=2:=by assumption
     have hv:=(hw2 0).trans (if_pos (by omega))
     have g1:=Cp (f:=fun w=>(K1 w,true)) q2 hi2
     (conv=>whnf)
     refine⟨((([]:List Tax)++[K1 ((sL (Aa 44 s)).getD ([]:List Tax).length [])]):List Tax),[10],?_,⟨⟨rfl,(nB rfl),rfl⟩,?_,?_⟩⟩
     ·refine⟨⟨?_,g1⟩,?_⟩
      ·show(([]:List Tax)++[K1 ((sL (Aa 44 s)).getD ([]:List Tax).length [])]).length≤(sL (Aa 44 s)).length
       rw[List.length_append];exact hi2
      ·show(sL (Aa 44 s)).length - (([]:List Tax)++[K1 ((sL (Aa 44 s)).getD ([]:List Tax).length [])]).length<(sL (Aa 44 s)).length - ([]:List Tax).length
       rw[List.length_append,List.length_singleton];omega
     ·(conv=>whnf)
      (repeat' ((first|with_reducible exact⟨⟩|((with_reducible refine Or.inr ?_);rfl)|((with_reducible refine aI ?_ ?_);focus (exact tA))|with_reducible refine iA ?_ ?_|fail)<;>(conv=>whnf)))
      all_goals (try simp only[wQ])
      all_goals (try first|rfl|exact⟨fun h=>h,fun _ _=>True.intro⟩)
      all_goals try exact⟨rfl,rfl⟩
      all_goals (try simp)
     ·(conv=>whnf)
      (repeat' ((first|with_reducible exact⟨⟩|((with_reducible refine aI ?_ ?_);focus (exact tA))|with_reducible refine iB ?_ ?_|fail)<;>(conv=>whnf)))
      all_goals (try simp only[wQ])
      all_goals try rfl
      intro e he
      have he:e<1:=he
      obtain rfl:e=0:=by omega
      refine⟨?_,rfl⟩
      show _=(K1 ((sL (Aa 44 s)).getD 0 [])).enc
      rw[hv];rfl
    ·have h61: ¬(((sL (Aa 61 ((sL (Aa 44 s)).getD 0 []))).length:Nat):Int)=2:=by assumption
     have hv:=(hw2 0).trans (if_neg (fun h=>by omega))
     have g1:=Cp (f:=fun w=>(K1 w,true)) q2 hi2
     (conv=>whnf)
     refine⟨((([]:List Tax)++[K1 ((sL (Aa 44 s)).getD ([]:List Tax).length [])]):List Tax),[3],?_,⟨⟨rfl,(nB rfl),rfl⟩,?_,?_⟩⟩
     ·refine⟨⟨?_,g1⟩,?_⟩
      ·show(([]:List Tax)++[K1 ((sL (Aa 44 s)).getD ([]:List Tax).length [])]).length≤(sL (Aa 44 s)).length
       rw[List.length_append];exact hi2
      ·show(sL (Aa 44 s)).length - (([]:List Tax)++[K1 ((sL (Aa 44 s)).getD ([]:List Tax).length [])]).length<(sL (Aa 44 s)).length - ([]:List Tax).length
       rw[List.length_append,List.length_singleton];omega
     ·(conv=>whnf)
      (repeat' ((first|with_reducible exact⟨⟩|((with_reducible refine Or.inr ?_);rfl)|((with_reducible refine aI ?_ ?_);focus (exact tA))|with_reducible refine iA ?_ ?_|fail)<;>(conv=>whnf)))
      all_goals (try simp only[wQ])
      all_goals (try first|rfl|exact⟨fun h=>h,fun _ _=>True.intro⟩)
      all_goals try exact⟨rfl,rfl⟩
      all_goals (try simp)
     ·(conv=>whnf)
      (repeat' ((first|with_reducible exact⟨⟩|((with_reducible refine aI ?_ ?_);focus (exact tA))|with_reducible refine iB ?_ ?_|fail)<;>(conv=>whnf)))
      all_goals (try simp only[wQ])
      all_goals try rfl
      intro e he
      have he:e<1:=he
      obtain rfl:e=0:=by omega
      refine⟨?_,rfl⟩
      show _=(K1 ((sL (Aa 44 s)).getD 0 [])).enc
      rw[hv];rfl
   ·exfalso;have h:(_:Int)≤0:=‹(_:Int)≤((([]:List Tax).length:Nat):Int)›;omega
  ·have q0:L.length+1≤1000001:=Nat.le_trans q1 hb44
   (conv=>whnf)
   (repeat' ((first
    |((with_reducible refine aI ?_ ?_);focus (omega))
    |(split<;>rename_i hh<;>(try simp only[wS] at hh))
    |with_reducible refine lnI fun hln=>?_
    |fail)<;>(conv=>whnf)))
   ·have hi2:(c::L:List Tax).length<(sL (Aa 44 s)).length:=Int.ofNat_lt.1 (by assumption)
    refine⟨((((sL (Aa 44 s)).getD (L.length+1) []),61):List UInt8 × UInt8),hm44 _,?_,?_⟩
    ·exact Ac _
    (conv=>whnf)
    (repeat' ((first
     |((with_reducible refine aI ?_ ?_);focus (first|with_reducible exact⟨⟩|((with_reducible refine⟨?_,?_,?_⟩)<;>first|(intro e he;rcases(by omega:e=0∨e=1∨e=2∨e=3∨e=4∨e=5) with rfl|rfl|rfl|rfl|rfl|rfl<;>first|rfl|(exfalso;omega))|(with_reducible assumption)|omega|((with_reducible show Ap _ _);simp only[Ap,ty2,ty3,ty4,ty5,ty9,Cu,Ck,Cv,Cl,Cq,Cw,Cx,Cy,Bm,Bl,Bn,Bo,Bp,Bq,Br,List.length_cons,List.length_nil];first|omega|(refine⟨?_,?_⟩<;>omega)))|exact tO|omega|exact tK))
     |(split<;>rename_i hh<;>(try simp only[wS] at hh))
     |with_reducible refine lnI fun hln=>?_
     |fail)<;>(conv=>whnf)))
    ·have h61:(((sL (Aa 61 ((sL (Aa 44 s)).getD (L.length+1) []))).length:Nat):Int)=2:=by assumption
     have hv:=(hw2 (L.length+1)).trans (if_pos (by omega))
     have g1:=Cp (f:=fun w=>(K1 w,true)) q2 hi2
     (conv=>whnf)
     refine⟨(((c::L:List Tax)++[K1 ((sL (Aa 44 s)).getD (c::L:List Tax).length [])]):List Tax),[10],?_,⟨⟨rfl,(nB rfl),rfl⟩,?_,?_⟩⟩
     ·refine⟨⟨?_,g1⟩,?_⟩
      ·show((c::L:List Tax)++[K1 ((sL (Aa 44 s)).getD (c::L:List Tax).length [])]).length≤(sL (Aa 44 s)).length
       rw[List.length_append];exact hi2
      ·show(sL (Aa 44 s)).length - ((c::L:List Tax)++[K1 ((sL (Aa 44 s)).getD (c::L:List Tax).length [])]).length<(sL (Aa 44 s)).length - (c::L:List Tax).length
       rw[List.length_append,List.length_singleton];omega
     ·(conv=>whnf)
      (repeat' ((first|with_reducible exact⟨⟩|((with_reducible refine aI ?_ ?_);focus (exact tA))|with_reducible refine iA ?_ ?_|fail)<;>(conv=>whnf)))
      all_goals (try simp only[wQ])
      all_goals (try first|exact⟨fun h=>h,fun _ _=>True.intro⟩)
      all_goals (try first|exact⟨by simp,Or.inl trivial⟩)
      all_goals try exact⟨rfl,rfl⟩
      all_goals (try simp)
     ·(conv=>whnf)
      (repeat' ((first|with_reducible exact⟨⟩|((with_reducible refine aI ?_ ?_);focus (exact tA))|with_reducible refine iB ?_ ?_|fail)<;>(conv=>whnf)))
      all_goals (try simp only[wQ])
      all_goals try rfl
      exact⟨by simp,fun e he=>⟨Ii (enc:=Tax.enc) (l:=(c::L:List Tax)) rfl (fun _ _=>rfl) (by show _=(K1 ((sL (Aa 44 s)).getD (L.length+1) [])).enc;rw[hv];rfl) (by simpa using he),rfl⟩⟩
    ·have h61: ¬(((sL (Aa 61 ((sL (Aa 44 s)).getD (L.length+1) []))).length:Nat):Int)=2:=by assumption
     have hv:=(hw2 (L.length+1)).trans (if_neg (fun h=>by omega))
     have g1:=Cp (f:=fun w=>(K1 w,true)) q2 hi2
     (conv=>whnf)
     refine⟨(((c::L:List Tax)++[K1 ((sL (Aa 44 s)).getD (c::L:List Tax).length [])]):List Tax),[3],?_,⟨⟨rfl,(nB rfl),rfl⟩,?_,?_⟩⟩
     ·refine⟨⟨?_,g1⟩,?_⟩
      ·show((c::L:List Tax)++[K1 ((sL (Aa 44 s)).getD (c::L:List Tax).length [])]).length≤(sL (Aa 44 s)).length
       rw[List.length_append];exact hi2
      ·show(sL (Aa 44 s)).length - ((c::L:List Tax)++[K1 ((sL (Aa 44 s)).getD (c::L:List Tax).length [])]).length<(sL (Aa 44 s)).length - (c::L:List Tax).length
       rw[List.length_append,List.length_singleton];omega
     ·(conv=>whnf)
      (repeat' ((first|with_reducible exact⟨⟩|((with_reducible refine aI ?_ ?_);focus (exact tA))|with_reducible refine iA ?_ ?_|fail)<;>(conv=>whnf)))
      all_goals (try simp only[wQ])
      all_goals (try first|exact⟨fun h=>h,fun _ _=>True.intro⟩)
      all_goals (try first|exact⟨by simp,Or.inl trivial⟩)
      all_goals try exact⟨rfl,rfl⟩
      all_goals (try simp)
     ·(conv=>whnf)
      (repeat' ((first|with_reducible exact⟨⟩|((with_reducible refine aI ?_ ?_);focus (exact tA))|with_reducible refine iB ?_ ?_|fail)<;>(conv=>whnf)))
      all_goals (try simp only[wQ])
      all_goals try rfl
      exact⟨by simp,fun e he=>⟨Ii (enc:=Tax.enc) (l:=(c::L:List Tax)) rfl (fun _ _=>rfl) (by show _=(K1 ((sL (Aa 44 s)).getD (L.length+1) [])).enc;rw[hv];rfl) (by simpa using he),rfl⟩⟩
   ·have hx2: ¬(c::L).length<(sL (Aa 44 s)).length:=Nat.not_lt.2 (Int.ofNat_le.1 (by assumption))
    have e1:c::L=O1 s:=by
     have e:(c::L).length=(sL (Aa 44 s)).length:=by omega
     rw[e,List.take_length,Do] at q2
     unfold O1;rw[if_neg (by assumption)];exact q2
    rw[←e1]
    refine⟨⟨by omega,fun e he=>rfl⟩,?_⟩
    exact⟨rfl,rfl,fun h=>h,fun e he=>by simp only[Nat.zero_add]⟩
end
end Go.Vc.Z
namespace Go.Vc.Z
open Go Go.Vc Go.Proofs Go.RowKit Go.Pl Go.Lib
theorem Az9{s:List UInt8}{r:Request}(hm:Af r=true)(hw:Bf r=s)(hk:kindOf ((Aa 32 s).getD 0 [])=1):Aa 32 s=[[105,115,115,117,101],r.key,Lib.itoa r.day,r.locator,Cb r.coupons,By r.taxes]∧r=⟨r.key,1,r.day,0,0,0,r.locator,r.coupons,r.taxes,0,0,0⟩∧(A9 (Lib.itoa r.day)=r.day)∧(Qh (Cb r.coupons)=r.coupons)∧(O1 (By r.taxes)=r.taxes)∧True:=by
 have k:=Dy hm hw hk
 obtain⟨c1,e1,gD,gC,gX, -⟩:=cE hm hw hk
 obtain⟨hK,hD,hL,hC,hX⟩:=Iw k hm
 exact⟨c1,e1,C4 (Cj hD).1 (by have:=Cj hD;omega),fV hC,fW hX,True.intro⟩
theorem A0a{s:List UInt8}{r:Request}(hm:Af r=true)(hw:Bf r=s)(hk:kindOf ((Aa 32 s).getD 0 [])=2):Aa 32 s=[[109,111,118,101],r.key,Lib.itoa r.day,A6 r.ticket,Lib.itoa r.coupon,C2 r.status]∧r=⟨r.key,2,r.day,r.ticket,r.coupon,r.status,[],[],[],0,0,0⟩∧(A9 (Lib.itoa r.day)=r.day)∧((numOf (A6 r.ticket)).1=r.ticket)∧(A9 (Lib.itoa r.coupon)=r.coupon)∧(statOf (C2 r.status)=r.status)∧True:=by
 have k:=Dy hm hw hk
 obtain⟨c1,e1,gD,gT,gN,gS, -⟩:=Al4 hm hw hk
 obtain⟨hK,hD,hT,hN,hS⟩:=Kq k hm
 exact⟨c1,e1,C4 (Cj hD).1 (by have:=Cj hD;omega),congrArg Prod.fst gT,C4 (by omega) (by omega),gS.1,True.intro⟩
theorem A0b{s:List UInt8}{r:Request}(hm:Af r=true)(hw:Bf r=s)(hk:kindOf ((Aa 32 s).getD 0 [])=3):Aa 32 s=[[118,111,105,100],r.key,Lib.itoa r.day,A6 r.ticket]∧r=⟨r.key,3,r.day,r.ticket,0,0,[],[],[],0,0,0⟩∧(A9 (Lib.itoa r.day)=r.day)∧((numOf (A6 r.ticket)).1=r.ticket)∧True:=by
 have k:=Dy hm hw hk
 obtain⟨c1,e1,gD,gT, -⟩:=Al5 hm hw hk
 obtain⟨hK,hD,hT⟩:=Kr k hm
 exact⟨c1,e1,C4 (Cj hD).1 (by have:=Cj hD;omega),congrArg Prod.fst gT,True.intro⟩
theorem A0c{s:List UInt8}{r:Request}(hm:Af r=true)(hw:Bf r=s)(hk:kindOf ((Aa 32 s).getD 0 [])=4):Aa 32 s=[[114,101,102,117,110,100],r.key,Lib.itoa r.day,A6 r.ticket,C0 r.amount]∧r=⟨r.key,4,r.day,r.ticket,0,0,[],[],[],r.amount,0,0⟩∧(A9 (Lib.itoa r.day)=r.day)∧((numOf (A6 r.ticket)).1=r.ticket)∧(Gu (C0 r.amount)=r.amount)∧True:=by
 have k:=Dy hm hw hk
 obtain⟨c1,e1,gD,gT,gA, -⟩:=Al6 hm hw hk
 obtain⟨hK,hD,hT,hA⟩:=Ks k hm
 exact⟨c1,e1,C4 (Cj hD).1 (by have:=Cj hD;omega),congrArg Prod.fst gT,O0 (Dt hA),True.intro⟩
theorem A0d{s:List UInt8}{r:Request}(hm:Af r=true)(hw:Bf r=s)(hk:kindOf ((Aa 32 s).getD 0 [])=5):Aa 32 s=[[101,120,99,104,97,110,103,101],r.key,Lib.itoa r.day,A6 r.ticket,C0 r.amount,Cb r.coupons,By r.taxes]∧r=⟨r.key,5,r.day,r.ticket,0,0,[],r.coupons,r.taxes,r.amount,0,0⟩∧(A9 (Lib.itoa r.day)=r.day)∧((numOf (A6 r.ticket)).1=r.ticket)∧(Gu (C0 r.amount)=r.amount)∧(Qh (Cb r.coupons)=r.coupons)∧(O1 (By r.taxes)=r.taxes)∧True:=by
 have k:=Dy hm hw hk
 obtain⟨c1,e1,gD,gT,gA,gC,gX, -⟩:=cF hm hw hk
 obtain⟨hK,hD,hT,hA,hC,hX⟩:=Ix k hm
 exact⟨c1,e1,C4 (Cj hD).1 (by have:=Cj hD;omega),congrArg Prod.fst gT,O0 (Dt hA),fV hC,fW hX,True.intro⟩
theorem A0e{s:List UInt8}{r:Request}(hm:Af r=true)(hw:Bf r=s)(hk:kindOf ((Aa 32 s).getD 0 [])=6):Aa 32 s=[[97,115,107],r.key,Lib.itoa r.day,A6 r.ticket,Lib.itoa r.coupon]∧r=⟨r.key,6,r.day,r.ticket,r.coupon,0,[],[],[],0,0,0⟩∧(A9 (Lib.itoa r.day)=r.day)∧((numOf (A6 r.ticket)).1=r.ticket)∧(A9 (Lib.itoa r.coupon)=r.coupon)∧True:=by
 have k:=Dy hm hw hk
 obtain⟨c1,e1,gD,gT,gN, -⟩:=Al7 hm hw hk
 obtain⟨hK,hD,hT,hN⟩:=Kt k hm
 exact⟨c1,e1,C4 (Cj hD).1 (by have:=Cj hD;omega),congrArg Prod.fst gT,C4 (by omega) (by omega),True.intro⟩
theorem A0f{s:List UInt8}{r:Request}(hm:Af r=true)(hw:Bf r=s)(hk:kindOf ((Aa 32 s).getD 0 [])=7):Aa 32 s=[[114,101,116,117,114,110],r.key,Lib.itoa r.day,A6 r.ticket,Lib.itoa r.coupon]∧r=⟨r.key,7,r.day,r.ticket,r.coupon,0,[],[],[],0,0,0⟩∧(A9 (Lib.itoa r.day)=r.day)∧((numOf (A6 r.ticket)).1=r.ticket)∧(A9 (Lib.itoa r.coupon)=r.coupon)∧True:=by
 have k:=Dy hm hw hk
 obtain⟨c1,e1,gD,gT,gN, -⟩:=Al8 hm hw hk
 obtain⟨hK,hD,hT,hN⟩:=Ku k hm
 exact⟨c1,e1,C4 (Cj hD).1 (by have:=Cj hD;omega),congrArg Prod.fst gT,C4 (by omega) (by omega),True.intro⟩
theorem A0g{s:List UInt8}{r:Request}(hm:Af r=true)(hw:Bf r=s)(hk:kindOf ((Aa 32 s).getD 0 [])=8):Aa 32 s=[[115,104,111,119],A6 r.ticket]∧r=⟨[],8,0,r.ticket,0,0,[],[],[],0,0,0⟩∧((numOf (A6 r.ticket)).1=r.ticket)∧True:=by
 have k:=Dy hm hw hk
 obtain⟨c1,e1,gT, -⟩:=Al9 hm hw hk
 have hT:=Rh k hm
 exact⟨c1,e1,congrArg Prod.fst gT,True.intro⟩
theorem A0h{s:List UInt8}{r:Request}(hm:Af r=true)(hw:Bf r=s)(hk:kindOf ((Aa 32 s).getD 0 [])=9):Aa 32 s=[[102,105,110,100],r.locator]∧r=⟨[],9,0,0,0,0,r.locator,[],[],0,0,0⟩∧True:=by
 have k:=Dy hm hw hk
 obtain⟨c1,e1, -⟩:=Ama hm hw hk
 have hL:=Kv k hm
 exact⟨c1,e1,True.intro⟩
theorem Ato{s:List UInt8}{r:Request}(hm:Af r=true)(hw:Bf r=s)(hk:kindOf ((Aa 32 s).getD 0 [])=10):Aa 32 s=[[114,101,112,111,114,116],Lib.itoa r.frm,Lib.itoa r.til]∧r=⟨[],10,0,0,0,0,[],[],[],0,r.frm,r.til⟩∧(A9 (Lib.itoa r.frm)=r.frm)∧(A9 (Lib.itoa r.til)=r.til)∧True:=by
 have k:=Dy hm hw hk
 obtain⟨c1,e1,gF,gU, -⟩:=Abh hm hw hk
 obtain⟨hF,hU⟩:=Oy k hm
 exact⟨c1,e1,C4 (Cj hF).1 (by have:=Cj hF;omega),C4 (Cj hU).1 (by have:=Cj hU;omega),True.intro⟩
end Go.Vc.Z
