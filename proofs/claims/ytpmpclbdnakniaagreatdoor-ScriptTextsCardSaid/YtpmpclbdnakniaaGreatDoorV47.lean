/- couponref26.Script: the script of a setup and acts that may be, the reference's; setups, one by one the same. -/
import Derived.Test.YtpmpclbdnakniaaGreatDoorV44
import Derived.Test.YtpmpclbdnakniaaGreatDoorV39
set_option linter.all false
set_option maxHeartbeats 8000000
namespace Go.Vc.Z
open Go Go.Vc Go.Proofs Go.RowKit Go.Pl Go.Lib
theorem Atc(T:List UInt8)(q:Site):T++[115,105,116,101,32]++Lib.itoa q.carrier++[32]++Lib.itoa q.first++[32]++Lib.itoa q.count++[32]++Lib.itoa q.sectors++[32]++Lib.itoa q.pages++[32]++Lib.itoa q.frames++[10]=T++(Lib.join (Ei q) [32]++[10]):=by
 unfold Ei;simp[Lib.join]
theorem Awc(k:Int):[110,101,116,32]++Lib.itoa k++[10]=Lib.join (O7 k) [32]++[10]:=by
 unfold O7;simp[Lib.join]
open Classical in
@[irreducible] noncomputable def Qc(a b:Setup):Bool:=decide (a=b)
theorem gG(a:Setup):Qc a a=true:=by unfold Qc;simp
theorem Y1{a b:Setup}(h:a≠b):false=Qc a b:=by unfold Qc;simp[h]
theorem Aj8{α:Type}[Inhabited α]{a b:List α}{i:Nat}(h:a.take i=b.take i)(hl:a.length=b.length)(hi:i<a.length)(he:a.getD i default=b.getD i default):a.take (i+1)=b.take (i+1):=by
 rw[List.take_add_one,List.take_add_one,h,List.getElem?_eq_getElem hi,List.getElem?_eq_getElem (by omega)]
 rw[List.getD_eq_getElem?_getD,List.getD_eq_getElem?_getD,List.getElem?_eq_getElem hi,List.getElem?_eq_getElem (show i<b.length by omega)] at he
 rw[show a[i]=b[i] from he]
@[irreducible] def dN(a b:Site):Bool:=(a.carrier == b.carrier&&(a.first == b.first&&a.count == b.count))&&(a.sectors == b.sectors&&(a.pages == b.pages&&a.frames == b.frames))
theorem rA{a b:Site}:dN a b=true↔a=b:=by
 unfold dN;obtain⟨a1,a2,a3,a4,a5,a6⟩:=a;obtain⟨b1,b2,b3,b4,b5,b6⟩:=b;simp only[Bool.and_eq_true,beq_iff_eq,Site.mk.injEq,and_assoc]
theorem Abc{a b:Site}{N:Bool→Prop}(hN:N (dN a b)):Io (eqA TY 12 161 (.agg a.enc) (.agg b.enc)) N:=by
 have e161:TY 161=some Xk:=rfl;have e159:TY 159=some Aki:=rfl;have e3:TY 3=some ty3:=rfl;have:eqA TY 12 161 (.agg a.enc) (.agg b.enc)=some (dN a b):=by
  unfold dN;simp[eqA,Adb,e161,e159,e3,Xk,Aki,ty3,Ns,Ca]
 rw[this];exact hN
noncomputable section
set_option maxRecDepth 100000
attribute [local irreducible] inK Utf8.decode Utf8.encode Lib.itoa Pl.worth Pl.allDig
attribute [local irreducible] Lib.join Bp Aa
def LRi(s:Setup)(A:List Act):LoopSpec:={
 α:=Nat × List UInt8
 keep:=[1,2,5,6]
 vals x:=[slE 17 Act.enc A,.ptr 0 0,.str x.2,.int .i64 x.1]
 heap x:=[.var s.enc]
 ok x:=x.1≤s.sites.length∧x.2=Nj (Lib.join (O7 s.k) [32]::(s.sites.take x.1).map (fun x=>Lib.join (Ei x) [32]))∧x.2.length≤301+x.1*301
 μ x:=s.sites.length - x.1 }
def LRc(s:Setup)(A:List Act):LoopSpec:={
 α:=Nat × List UInt8
 keep:=[1,5,8]
 vals x:=[slE 17 Act.enc A,.str x.2,.int .i64 x.1]
 heap x:=[.dead]
 ok x:=x.1≤A.length∧x.2=Nj (Md s++(A.take x.1).map Bh)∧x.2.length≤2000+x.1*1000001
 μ x:=A.length - x.1 }
def Atd:PC:=PC.of (fun x:Setup × List Act=>[.agg x.1.enc,slE 17 Act.enc x.2]) (fun x=>Tx x.1=true∧x.2.length≤10000∧∀ i,i<x.2.length→Ag (x.2.getD i default)=true) (fun x=>.str (sS (scW x.1 x.2)))
def Hj:PT:=Cg [(37,Yz),(49,kL)]
theorem Mg{W:World}(hW:Tabs W):Cb (Fw W) Tryz.prog Hj:=(Ab Tryz.call37 (qU hW) (Ab Tryz.call49 (Gu hW) Aq))
def Hk:FuncId→Option Ctr:=Av Hj []
theorem Vu{W:World}(hW:Tabs W):Ad (Fw W) Tryz.prog Hk:=(Ar (Mg hW))
def Vv:Setup × List Act→Nat→Option LR:=fun x i=>cond (Nat.beq i 3) (some (.inv (LRi x.1 x.2))) (cond (Nat.beq i 8) (some (.inv (LRc x.1 x.2))) (none))
theorem Vw{W:World}(hW:Tabs W):GoodP (Fw W) Tryz.prog 42 Atd:=by
 have hD:=Mg hW;have hC0:∀ x:Setup × List Act,Ad (Fw W) Tryz.prog Hk:=fun x=>(Vu hW);refine As (D:=Hj) (C:=fun x=>Hk) (wr:=(fun _=>false)) rfl Ao hD hC0 Tryz.func42 (Vv) (fun _=>rfl) ?_;rintro⟨⟨l,k⟩,A⟩ hf hp;have hfa:=fun i hi=>Aia hf (A:=A) (i:=i) hi;clear hf;obtain⟨hset,hA,hm⟩:=hp;change A.length≤10000 at hA;change ∀ i,i<A.length→Ag (A.getD i default)=true at hm;obtain⟨⟨hl1,hl2⟩,⟨hk1,hk2⟩,hs,hn⟩:=S5 hset;have hjn:=Ah9 ⟨hk1,hk2⟩;have hkl:=Gz (n:=k) (by omega)
 (conv=>whnf)
 (repeat' (first|((with_reducible refine aI ?_ ?_);focus (simp only[Int.toNat_natCast,List.length_append,List.toList_toArray,List.length_cons,List.length_nil,Cn];omega))|refine⟨tU,?_⟩|fail)<;>conv=>whnf)
 refine⟨?_,fun(x:Nat × List UInt8) hx=>?_⟩
 ·(conv=>whnf)
  refine⟨((0,Lib.join (O7 k) [32]++[10]):Nat × List UInt8),[],?_,⟨⟨rfl,(nB rfl),rfl⟩,?_,?_⟩⟩
  ·exact⟨Nat.zero_le _,by unfold Nj;simp,by show(Lib.join (O7 k) [32]++[10]).length≤_;simp only[List.length_append,List.length_cons,List.length_nil];omega⟩
  ·(conv=>whnf)
   (repeat' (first|with_reducible exact⟨⟩|refine⟨tA,?_⟩|with_reducible refine iA ?_ ?_)<;>conv=>whnf)
   all_goals try simp only[wQ]
   all_goals (try first|omega|exact⟨fun h=>h,fun _ _=>True.intro⟩)
   all_goals exact Awc k
  ·exact tL
 ·obtain⟨i,T⟩:=x;obtain⟨h1,h2,h3⟩:=hx;change i≤l.length at h1;change T=Nj (Lib.join (O7 k) [32]::(l.take i).map (fun x=>Lib.join (Ei x) [32])) at h2;change T.length≤301+i*301 at h3;by_cases hi:i<l.length
  ·have hsi:=hs (l.getD i default) (by rw[List.getD_eq_getElem?_getD,List.getElem?_eq_getElem hi];exact List.getElem_mem _)
   have hj:=Aa9 hsi;obtain⟨q1,q2,q3,q4,q5,q6⟩:=jF hsi;have e1:=Gz (n:=(l.getD i default).carrier) (by omega)
   have e2:=Gz (n:=(l.getD i default).first) (by omega)
   have e3:=Gz (n:=(l.getD i default).count) (by omega)
   have e4:=Gz (n:=(l.getD i default).sectors) (by omega)
   have e5:=Gz (n:=(l.getD i default).pages) (by omega)
   have e6:=Gz (n:=(l.getD i default).frames) (by omega)
   have hst:=map_take (fun x=>Lib.join (Ei x) [32]) hi
   (conv=>whnf)
   (repeat' (first|((with_reducible refine aI ?_ ?_);focus (simp only[Int.toNat_natCast,List.length_append,List.toList_toArray,List.length_cons,List.length_nil,Cn];omega))|refine⟨tU,?_⟩|split<;>rename_i hh<;>try simp only[wS] at hh|with_reducible refine lnI fun hln=>?_)<;>conv=>whnf)
   all_goals try (exfalso;omega)
   (conv=>whnf)
   refine⟨((i+1,T++(Lib.join (Ei (l.getD i default)) [32]++[10])):Nat × List UInt8),[],?_,⟨⟨rfl,(nB rfl),rfl⟩,?_,?_⟩⟩
   ·refine⟨⟨show i+1≤l.length by omega,?_,?_⟩,show l.length - (i+1)<l.length - i by omega⟩
    ·show T++(Lib.join (Ei (l.getD i default)) [32]++[10])=Nj (Lib.join (O7 k) [32]::(l.take (i+1)).map (fun x=>Lib.join (Ei x) [32]));rw[hst,h2,←Wr,List.cons_append]
    ·show(T++(Lib.join (Ei (l.getD i default)) [32]++[10])).length≤301+(i+1)*301;rw[List.length_append,List.length_append];simp only[List.length_cons,List.length_nil];omega
   ·(conv=>whnf)
    (repeat' (first|with_reducible exact⟨⟩|refine⟨tA,?_⟩|with_reducible refine iA ?_ ?_)<;>conv=>whnf)
    all_goals try simp only[wQ]
    all_goals (try first|omega|exact⟨fun h=>h,fun _ _=>True.intro⟩)
    all_goals exact Atc T (l.getD i default)
   ·exact tL
  ·have hie:i=l.length:=(by omega);have hT:T=Nj (Md ⟨l,k⟩):=(by rw[h2,hie,List.take_length];unfold Md;rfl);have hTl:T.length≤2000:=(by omega);clear h2 h3
   (conv=>whnf)
   (repeat' (first|((with_reducible refine aI ?_ ?_);focus (simp only[Int.toNat_natCast,List.length_append,List.toList_toArray,List.length_cons,List.length_nil,Cn];omega))|refine⟨tU,?_⟩|split<;>rename_i hh<;>try simp only[wS] at hh|with_reducible refine lnI fun hln=>?_)<;>conv=>whnf)
   all_goals try (exfalso;omega)
   refine⟨?_,fun(x:Nat × List UInt8) hx=>?_⟩
   ·(conv=>whnf)
    refine⟨((0,T):Nat × List UInt8),[],?_,⟨⟨rfl,(nB rfl),rfl⟩,?_,?_⟩⟩
    ·exact⟨Nat.zero_le _,by show T=_;rw[hT,List.take_zero,List.map_nil,List.append_nil],Nat.le_trans hTl (Nat.le_add_right _ _)⟩
    ·exact tL
    ·exact tL
   ·obtain⟨i,T⟩:=x;obtain⟨h1,h2,h3⟩:=hx;change i≤A.length at h1;change T=Nj (Md ⟨l,k⟩++(A.take i).map Bh) at h2;change T.length≤2000+i*1000001 at h3;by_cases hi:i<A.length
    ·have hst:=map_take Bh hi;have hal:=Ah5 (hfa i hi) (hm i hi)
     (conv=>whnf)
     (repeat' (first|((with_reducible refine aI ?_ ?_);focus (simp only[Int.toNat_natCast,List.length_append,List.toList_toArray,List.length_cons,List.length_nil,Cn];omega))|split<;>rename_i hh<;>try simp only[wS] at hh|with_reducible refine lnI fun hln=>?_)<;>conv=>whnf)
     all_goals try(show _=_;simp only[wQ])
     all_goals try (exfalso;omega)
     refine⟨(A.getD i default:Act),hm i hi,?_,?_⟩
     ·exact Ac _
     (conv=>whnf)
     (repeat' (first|((with_reducible refine aI ?_ ?_);focus (simp only[Int.toNat_natCast,List.length_append,List.toList_toArray,List.length_cons,List.length_nil,Cn];omega))|refine⟨tU,?_⟩|fail)<;>conv=>whnf)
     (conv=>whnf)
     refine⟨((i+1,T++(Bh (A.getD i default)++[10])):Nat × List UInt8),[],?_,⟨⟨rfl,(nB rfl),rfl⟩,?_,?_⟩⟩
     ·refine⟨⟨show i+1≤A.length by omega,?_,?_⟩,show A.length - (i+1)<A.length - i by omega⟩
      ·show T++(Bh (A.getD i default)++[10])=Nj (Md ⟨l,k⟩++(A.take (i+1)).map Bh);rw[hst,h2,←Wr,List.append_assoc]
      ·show(T++(Bh (A.getD i default)++[10])).length≤2000+(i+1)*1000001;rw[List.length_append,List.length_append];simp only[List.length_cons,List.length_nil];omega
     ·(conv=>whnf)
      (repeat' (first|with_reducible exact⟨⟩|refine⟨tA,?_⟩|with_reducible refine iA ?_ ?_)<;>conv=>whnf)
      all_goals try simp only[wQ]
      all_goals (try first|omega|exact⟨fun h=>h,fun _ _=>True.intro⟩)
      all_goals exact List.append_assoc _ _ _
     ·exact tL
    ·have hie:i=A.length:=by omega
     (conv=>whnf)
     (repeat' (first|((with_reducible refine aI ?_ ?_);focus (simp only[Int.toNat_natCast,List.length_append,List.toList_toArray,List.length_cons,List.length_nil,Cn];omega))|split<;>rename_i hh<;>try simp only[wS] at hh|with_reducible refine lnI fun hln=>?_)<;>conv=>whnf)
     all_goals try(show _=_;simp only[wQ])
     all_goals first|(exfalso;omega)|(unfold scW scL;rw[h2,hie,List.take_length];done)|skip
def LSS(x:Setup × Setup):LoopSpec:={
 α:=Nat
 keep:=[2,3,5]
 vals i:=[.ptr 0 0,.ptr 1 0,.int .i64 i]
 heap _:=[.var x.1.enc,.var x.2.enc]
 ok i:=i≤x.1.sites.length∧x.1.sites.take i=x.2.sites.take i
 μ i:=x.1.sites.length - i }
def Abd:PC:=PC.of (fun x:Setup × Setup=>[.agg x.1.enc,.agg x.2.enc]) (fun _=>True) (fun x=>.bool (sB (Qc x.1 x.2)))
def Fu:PT:=Cg []
theorem Jh{W:World}(hW:Tabs W):Cb (Fw W) Tryz.prog Fu:=Aq
def Fv:FuncId→Option Ctr:=Av Fu []
theorem R7{W:World}(hW:Tabs W):Ad (Fw W) Tryz.prog Fv:=(Ar (Jh hW))
def R8:Setup × Setup→Nat→Option LR:=fun x i=>cond (Nat.beq i 4) (some (.inv (LSS x))) (none)
theorem R9{W:World}(hW:Tabs W):GoodP (Fw W) Tryz.prog 43 Abd:=by
 have hD:=Jh hW;have hC0:∀ x:Setup × Setup,Ad (Fw W) Tryz.prog Fv:=fun x=>(R7 hW);refine As (D:=Fu) (C:=fun x=>Fv) (wr:=(fun _=>false)) rfl Ao hD hC0 Tryz.func43 (R8) (fun _=>rfl) ?_;rintro⟨⟨l,k⟩,⟨m,n⟩⟩ hf hp;clear hf;by_cases hk:k=n
 ·subst hk;by_cases hl:l.length=m.length
  ·(conv=>whnf)
   (repeat' (first|(exact absurd True.intro hh)|split<;>rename_i hh<;>try simp only[wS] at hh|with_reducible refine lnI fun hln=>?_)<;>conv=>whnf)
   all_goals try(show _=_;simp only[wQ])
   all_goals try (exfalso;omega)
   refine⟨?_,fun(i:Nat) hi=>?_⟩
   ·(conv=>whnf)
    refine⟨(0:Nat),[],?_,⟨⟨rfl,(nB rfl),rfl⟩,?_,?_⟩⟩
    ·exact⟨Nat.zero_le _,rfl⟩
    ·exact tL
    ·exact tL
   ·obtain⟨h1,h2⟩:=hi;change i≤l.length at h1;change l.take i=m.take i at h2;by_cases hi:i<l.length
    ·have hne:dN (l.getD i default) (m.getD i default)=false→false=Qc ⟨l,k⟩ ⟨m,k⟩:=fun h=>Y1 fun e=>by cases e;rw[rA.2 rfl] at h;cases h
     (conv=>whnf)
     (repeat' (first|(refine Abc ?_)|refine⟨tU,?_⟩|split<;>rename_i hh<;>try simp only[wS] at hh|with_reducible refine lnI fun hln=>?_)<;>conv=>whnf)
     all_goals try(show _=_;simp only[wQ])
     all_goals try (exfalso;omega)
     ·exact hne (by assumption)
     ·(conv=>whnf)
      refine⟨(i+1:Nat),[],?_,⟨⟨rfl,(nB rfl),rfl⟩,?_,?_⟩⟩
      ·exact⟨⟨show i+1≤l.length by omega,Aj8 h2 hl hi (rA.1 (by assumption))⟩,show l.length - (i+1)<l.length - i by omega⟩
      ·exact tL
      ·exact tL
    ·have hie:i=l.length:=(by omega);have hlm:l=m:=by rw[hie,List.take_length,hl,List.take_length] at h2;exact h2
     (conv=>whnf)
     (repeat' (first|(refine Abc ?_)|refine⟨tU,?_⟩|split<;>rename_i hh<;>try simp only[wS] at hh|with_reducible refine lnI fun hln=>?_)<;>conv=>whnf)
     all_goals try(show _=_;simp only[wQ])
     all_goals first|(exfalso;omega)|(subst hlm;exact(gG _).symm)|skip
  ·have hz:false=Qc ⟨l,k⟩ ⟨m,k⟩:=Y1 fun h=>hl (by cases h;rfl)
   (conv=>whnf)
   (repeat' (first|(exact absurd True.intro hh)|refine⟨tU,?_⟩|split<;>rename_i hh<;>try simp only[wS] at hh|with_reducible refine lnI fun hln=>?_)<;>conv=>whnf)
   all_goals try(show _=_;simp only[wQ])
   all_goals first|exact hz|(exfalso;omega)|skip
 ·have hz:false=Qc ⟨l,k⟩ ⟨m,n⟩:=Y1 fun h=>hk (by cases h;rfl)
  (conv=>whnf)
  (repeat' (first|refine⟨tU,?_⟩|split<;>rename_i hh<;>try simp only[wS] at hh|with_reducible refine lnI fun hln=>?_)<;>conv=>whnf)
  all_goals try(show _=_;simp only[wQ])
  all_goals first|exact hz|(exfalso;omega)|skip
end
end Go.Vc.Z
