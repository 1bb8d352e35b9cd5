/- script.RequestOf: the request of a line. -/
import Derived.Test.YtpmpclbdnakniaaGreatDoorV33
import Derived.Test.YtpmpclbdnakniaaGreatDoorV34
import Derived.Test.YtpmpclbdnakniaaGreatDoorV30
import Derived.Test.YtpmpclbdnakniaaGreatDoorV31
set_option linter.all false
set_option maxHeartbeats 8000000
namespace Go.Vc.Z
open Go Go.Vc Go.Proofs Go.RowKit Go.Pl Go.Lib
noncomputable section
def Al9:PC:=PC.of (fun x:List UInt8 × Request × Int=>[.str x.1]) (fun x=>Ve x.1=x.2∧x.1.length≤1000000) (fun x=>.tup [.agg x.2.1.enc,.int .i64 x.2.2])
theorem Au6{W:World}(hW:Tabs W):GoodP (Fw W) Tryz.prog 26 Al9:=by
 intro S w cs vs Q hs hv hT;obtain⟨x,⟨h1,h1'⟩,h2,h3⟩:=hT;by_cases k1:kindOf ((Aa 32 x.1).getD 0 [])=1
 ·exact Asb hW S w cs vs Q hs hv ⟨x,⟨h1,h1',k1⟩,h2,h3⟩
 ·by_cases k5:kindOf ((Aa 32 x.1).getD 0 [])=5
  ·exact Asf hW S w cs vs Q hs hv ⟨x,⟨h1,h1',k5⟩,h2,h3⟩
  ·exact Ar8 hW S w cs vs Q hs hv ⟨x,⟨h1,h1',k1,k5⟩,h2,h3⟩
end
end Go.Vc.Z
namespace Go.Vc.Z
open Go Go.Vc Go.Proofs Go.RowKit Go.Pl Go.Lib
@[irreducible] def M7(s:List UInt8)(m:Int):Int × Int:=if Dr (A0 45 s)=true∧s≠[45,48] then(if m<(worth (A0 45 s):Int) then(0,5) else(if s=A0 45 s then(worth (A0 45 s):Int) else -(worth (A0 45 s):Int),0)) else(0,4)
theorem Asg{s t:List UInt8}{m:Int}(hp:A0 45 s=t)(h:Dr t=false):M7 s m=(0,4):=by
 subst hp;unfold M7;rw[if_neg (fun e=>by rw[h] at e;cases e.1)]
theorem Azw{s:List UInt8}{m:Int}(h:s=[45,48]):M7 s m=(0,4):=by
 unfold M7;rw[if_neg (fun e=>e.2 h)]
theorem Azx{s t:List UInt8}{m:Int}(hp:A0 45 s=t)(h:Dr t=true)(h2: ¬s=[45,48])(h3:m<(worth t:Int)):M7 s m=(0,5):=by
 subst hp;unfold M7;rw[if_pos ⟨h,h2⟩,if_pos h3]
theorem qI{s t:List UInt8}{m:Int}(hp:A0 45 s=t)(h:Dr t=true)(h2: ¬s=[45,48])(h3:(worth t:Int)≤m)(h4:s=t):M7 s m=((worth t:Int),0):=by
 subst hp;unfold M7;rw[if_pos ⟨h,h2⟩,if_neg (by omega),if_pos h4]
theorem Ahu{s t:List UInt8}{m:Int}(hp:A0 45 s=t)(h:Dr t=true)(h2: ¬s=[45,48])(h3:(worth t:Int)≤m)(h4: ¬s=t):M7 s m=(-(worth t:Int),0):=by
 subst hp;unfold M7;rw[if_pos ⟨h,h2⟩,if_neg (by omega),if_neg h4]
noncomputable section
set_option maxRecDepth 100000
attribute [local irreducible] inK Utf8.decode Utf8.encode Lib.itoa Pl.worth Pl.allDig
attribute [local irreducible] Lib.join Bp Aa
def Ahv:PC:=PC.fun fun|[.str s,.int .i64 m]=>some (0≤m,.tup [.int .i64 (sI (M7 s m).1),.int .i64 (sI (M7 s m).2)])|_=>none
def Hh:PT:=Cg [(238,kM),(239,Acc),(240,kO)]
theorem L9{W:World}(hW:Tabs W):Cb (Fw W) Tryz.prog Hh:=(Ab Tryz.call238 (Ig hW) (Ab Tryz.call239 (M1 hW) (Ab Tryz.call240 (M2 hW) Aq)))
def Hi:FuncId→Option Ctr:=Av Hh []
theorem Vk{W:World}(hW:Tabs W):Ad (Fw W) Tryz.prog Hi:=(Ar (L9 hW))
theorem Vl{W:World}(hW:Tabs W):GoodP (Fw W) Tryz.prog 180 Ahv:=by
 have hD:=L9 hW;have hC0:Ad (Fw W) Tryz.prog Hi:=(Vk hW);refine Au (D:=Hh) (C:=Hi) (wr:=(fun _=>false)) rfl Ao hD hC0 Tryz.func180 (fun _ _=>none) ?_;clear hC0 hD hW;intro cs p r h hf hp;split at h
 case h_2=>cases h
 rename_i s m;cases h;try simp only[Az,Bd,Aw,Go.Vc.lo,Go.Vc.hi,and_true] at hf
 have hm:m≤9223372036854775807:=by omega
 by_cases h0:s=[]
 ·have hp:=Rq (s:=s) (fun h=>absurd h0 h);have hd:Dr s=false:=by rw[h0];exact zT
  have e:M7 s m=(0,4):=Asg hp hd
  (conv=>whnf)
  (repeat' (first|with_reducible exact⟨⟩|(exact absurd h0 (by with_reducible assumption))|refine⟨tU,?_⟩|split<;>rename_i hh<;>try simp only[wS] at hh|with_reducible refine iA ?_ ?_)<;>conv=>whnf)
  all_goals try(show _=_;simp only[wQ])
  all_goals first|(rw[e];done)|(rw[hd] at*;simp_all;done)|exact absurd h0 (by assumption)|skip
 ·have hpos:0<s.length:=List.length_pos_iff.2 h0;by_cases h1:s.getD 0 0=45
  ·have hp:A0 45 s=List.take (s.length - Int.toNat 1) (List.drop (Int.toNat 1) s):=(by rw[Ac1 h0 h1,List.take_of_length_le (by rw[List.length_drop];exact Nat.le_refl _)];rfl);have h45:((s.getD (Int.toNat 0) 0).toNat:Int)=45:=by rw[show Int.toNat 0=0 from rfl,h1];rfl
   (conv=>whnf)
   (repeat' (first|with_reducible exact⟨⟩|(exact absurd (by with_reducible assumption) h0)|(exact absurd h45 (by with_reducible assumption))|refine⟨tU,?_⟩|split<;>rename_i hh<;>try simp only[wS] at hh|with_reducible refine iA ?_ ?_)<;>conv=>whnf)
   all_goals try(show _=_;simp only[wQ])
   all_goals try first
    |(rw[Asg hp (by assumption)];done)
    |(rw[Azw (by assumption)];done)
    |(rw[Azx hp (by assumption) (by assumption) (by assumption)];done)
    |(rw[qI hp (by assumption) (by assumption) (by assumption) (by assumption)];done)
    |(rw[Ahu hp (by assumption) (by assumption) (by assumption) (by assumption)];done)
   all_goals try (exact absurd True.intro (by assumption))
   all_goals (refine⟨⟨(K2 (by assumption)).1,by omega⟩,?_⟩)
   all_goals (
    (conv=>whnf)
    (repeat' (first|with_reducible exact⟨⟩|refine⟨tU,?_⟩|with_reducible refine iA ?_ ?_)<;>conv=>whnf)
    all_goals try(show _=_;simp only[wQ])
    all_goals first
     |(rw[qI hp (by assumption) (by assumption) (by assumption) rfl];done)
     |(rw[qI hp (by assumption) (by assumption) (by assumption) (by assumption)];done)
     |(rw[Ahu hp (by assumption) (by assumption) (by assumption) (by assumption)];done)
     |skip)
  ·have hp:=Rq (s:=s) (fun _=>h1);have h45: ¬((s.getD (Int.toNat 0) 0).toNat:Int)=45:=fun e=>h1 (UInt8.toNat_inj.1 (Int.ofNat.inj e))
   (conv=>whnf)
   (repeat' (first|with_reducible exact⟨⟩|(exact absurd (by with_reducible assumption) h0)|(exact absurd (by with_reducible assumption) h45)|refine⟨tU,?_⟩|split<;>rename_i hh<;>try simp only[wS] at hh|with_reducible refine iA ?_ ?_)<;>conv=>whnf)
   all_goals try(show _=_;simp only[wQ])
   all_goals try first
    |(rw[Asg hp (by assumption)];done)
    |(rw[Azw (by assumption)];done)
    |(rw[Azx hp (by assumption) (by assumption) (by assumption)];done)
    |(rw[qI hp (by assumption) (by assumption) (by assumption) (by assumption)];done)
    |(rw[Ahu hp (by assumption) (by assumption) (by assumption) (by assumption)];done)
   all_goals try (exact absurd True.intro (by assumption))
   all_goals (refine⟨⟨(K2 (by assumption)).1,by omega⟩,?_⟩)
   all_goals (
    (conv=>whnf)
    (repeat' (first|with_reducible exact⟨⟩|refine⟨tU,?_⟩|with_reducible refine iA ?_ ?_)<;>conv=>whnf)
    all_goals try(show _=_;simp only[wQ])
    all_goals first
     |(rw[qI hp (by assumption) (by assumption) (by assumption) rfl];done)
     |(rw[qI hp (by assumption) (by assumption) (by assumption) (by assumption)];done)
     |(rw[Ahu hp (by assumption) (by assumption) (by assumption) (by assumption)];done)
     |skip)
end
end Go.Vc.Z
namespace Go.Vc.Z
open Go Go.Vc Go.Proofs Go.RowKit Go.Pl Go.Lib
@[irreducible] def rpV(s:List UInt8):Int:=if s=[45,57,50,50,51,51,55,50,48,51,54,56,53,52,55,55,53,56,48,56] then -9223372036854775808 else(M7 s 9223372036854775807).1
theorem Ash{s:List UInt8}(h:s=[45,57,50,50,51,51,55,50,48,51,54,56,53,52,55,55,53,56,48,56]):rpV s= -9223372036854775808:=by unfold rpV;rw[if_pos h]
theorem Asi{s:List UInt8}(h: ¬s=[45,57,50,50,51,51,55,50,48,51,54,56,53,52,55,55,53,56,48,56]):rpV s=(M7 s 9223372036854775807).1:=by unfold rpV;rw[if_neg h]
noncomputable section
set_option maxRecDepth 100000
attribute [local irreducible] inK Utf8.decode Utf8.encode Lib.itoa Pl.worth Pl.allDig
attribute [local irreducible] Lib.join Bp Aa
def LRp(w:List (List UInt8)):LoopSpec:={
 α:=List Int
 keep:=[0,3,4]
 vals L:=[slS w,Azt L,.int .i64 L.length]
 heap L:=[Azs L]
 ok L:=L.length≤w.length∧L=(w.take L.length).map rpV
 μ L:=w.length - L.length }
def Ahw:PC:=PC.of (fun w:List (List UInt8)=>[slS w]) (fun w=>w.length≤1000001∧∀ i,(w.getD i []).length≤100000000) (fun w=>slE 1 pG (w.map rpV))
def Fs:PT:=Cg [(180,Ahv)]
theorem Jg{W:World}(hW:Tabs W):Cb (Fw W) Tryz.prog Fs:=(Ab Tryz.call180 (Vl hW) Aq)
def Ft:FuncId→Option Ctr:=Av Fs []
theorem Ry{W:World}(hW:Tabs W):Ad (Fw W) Tryz.prog Ft:=(Ar (Jg hW))
def Rz:List (List UInt8)→Nat→Option LR:=fun w i=>cond (Nat.beq i 3) (some (.inv (LRp w))) (none)
theorem R0{W:World}(hW:Tabs W):GoodP (Fw W) Tryz.prog 97 Ahw:=by
 have hD:=Jg hW;have hC0:∀ w:List (List UInt8),Ad (Fw W) Tryz.prog Ft:=fun w=>(Ry hW);refine As (D:=Fs) (C:=fun w=>Ft) (wr:=(fun _=>false)) rfl Ao hD hC0 Tryz.func97 (Rz) (fun _=>rfl) ?_;intro w hf hp;clear hf;obtain⟨hl,hm⟩:=hp
 (conv=>whnf)
 refine⟨?_,fun(L:List Int) hL=>?_⟩
 ·(conv=>whnf)
  refine⟨([]:List Int),[],?_,⟨⟨rfl,(nB rfl),rfl⟩,?_,?_⟩⟩
  ·exact⟨Nat.zero_le _,rfl⟩
  ·exact Ac _
  ·exact tL
 ·obtain⟨q1,q2⟩:=hL;change L.length≤w.length at q1;change L=(w.take L.length).map rpV at q2;rcases L with _|⟨c,L⟩
  ·(conv=>whnf)
   (repeat' (first|refine⟨tU,?_⟩|split<;>rename_i hh<;>try simp only[wS] at hh|with_reducible refine lnI fun hln=>?_)<;>conv=>whnf)
   ·have hv:=Ash (s:=w.getD ([]:List Int).length []) (by assumption)
    have hi2:([]:List Int).length<w.length:=Int.ofNat_lt.1 (by assumption)
    have g1:=Cj (f:=fun w=>(rpV w,true)) q2 hi2
    (conv=>whnf)
    refine⟨((([]:List Int)++[rpV (w.getD ([]:List Int).length [])]):List Int),[2],?_,⟨⟨rfl,(nB rfl),rfl⟩,?_,?_⟩⟩
    ·refine⟨⟨?_,g1⟩,?_⟩
     ·show(([]:List Int)++[rpV (w.getD ([]:List Int).length [])]).length≤w.length;rw[List.length_append];exact hi2
     ·show w.length - (([]:List Int)++[rpV (w.getD ([]:List Int).length [])]).length<w.length - ([]:List Int).length;rw[List.length_append,List.length_singleton];omega
    ·(conv=>whnf)
     (repeat' (first|with_reducible exact⟨⟩|((with_reducible refine Or.inr ?_);rfl)|refine⟨tA,?_⟩|with_reducible refine iA ?_ ?_)<;>conv=>whnf)
     all_goals try simp only[wQ]
     all_goals (try first|rfl|exact⟨fun h=>h,fun _ _=>True.intro⟩)
     all_goals try exact⟨rfl,rfl⟩
     all_goals (try simp)
    ·(conv=>whnf)
     (repeat' (first|with_reducible exact⟨⟩|refine⟨tA,?_⟩|with_reducible refine iB ?_ ?_)<;>conv=>whnf)
     all_goals try simp only[wQ]
     all_goals try rfl
     intro e he;have he:e<1:=he;obtain rfl:e=0:=by omega
     refine⟨?_,rfl⟩;show _=pG (rpV (w.getD ([]:List Int).length []));rw[hv];rfl
   ·have hv:=Asi (s:=w.getD ([]:List Int).length []) (by assumption)
    have hi2:([]:List Int).length<w.length:=Int.ofNat_lt.1 (by assumption)
    have g1:=Cj (f:=fun w=>(rpV w,true)) q2 hi2
    (conv=>whnf)
    refine⟨((([]:List Int)++[rpV (w.getD ([]:List Int).length [])]):List Int),[2],?_,⟨⟨rfl,(nB rfl),rfl⟩,?_,?_⟩⟩
    ·refine⟨⟨?_,g1⟩,?_⟩
     ·show(([]:List Int)++[rpV (w.getD ([]:List Int).length [])]).length≤w.length;rw[List.length_append];exact hi2
     ·show w.length - (([]:List Int)++[rpV (w.getD ([]:List Int).length [])]).length<w.length - ([]:List Int).length;rw[List.length_append,List.length_singleton];omega
    ·(conv=>whnf)
     (repeat' (first|with_reducible exact⟨⟩|((with_reducible refine Or.inr ?_);rfl)|refine⟨tA,?_⟩|with_reducible refine iA ?_ ?_)<;>conv=>whnf)
     all_goals try simp only[wQ]
     all_goals (try first|rfl|exact⟨fun h=>h,fun _ _=>True.intro⟩)
     all_goals try exact⟨rfl,rfl⟩
     all_goals (try simp)
    ·(conv=>whnf)
     (repeat' (first|with_reducible exact⟨⟩|refine⟨tA,?_⟩|with_reducible refine iB ?_ ?_)<;>conv=>whnf)
     all_goals try simp only[wQ]
     all_goals try rfl
     intro e he;have he:e<1:=he;obtain rfl:e=0:=by omega
     refine⟨?_,rfl⟩;show _=pG (rpV (w.getD ([]:List Int).length []));rw[hv];rfl
   ·have hx:w.length≤0:=Int.ofNat_le.1 (by assumption)
    have e1:w=[]:=List.length_eq_zero_iff.1 (by omega)
    rw[e1];rfl
  ·have q0:L.length+1≤1000001:=Nat.le_trans q1 hl
   (conv=>whnf)
   (repeat' (first|refine⟨tU,?_⟩|split<;>rename_i hh<;>try simp only[wS] at hh|with_reducible refine lnI fun hln=>?_)<;>conv=>whnf)
   ·have hv:=Ash (s:=w.getD (c::L:List Int).length []) (by assumption)
    have hi2:(c::L:List Int).length<w.length:=Int.ofNat_lt.1 (by assumption)
    have g1:=Cj (f:=fun w=>(rpV w,true)) q2 hi2
    (conv=>whnf)
    refine⟨(((c::L:List Int)++[rpV (w.getD (c::L:List Int).length [])]):List Int),[2],?_,⟨⟨rfl,(nB rfl),rfl⟩,?_,?_⟩⟩
    ·refine⟨⟨?_,g1⟩,?_⟩
     ·show((c::L:List Int)++[rpV (w.getD (c::L:List Int).length [])]).length≤w.length;rw[List.length_append];exact hi2
     ·show w.length - ((c::L:List Int)++[rpV (w.getD (c::L:List Int).length [])]).length<w.length - (c::L:List Int).length;rw[List.length_append,List.length_singleton];omega
    ·(conv=>whnf)
     (repeat' (first|with_reducible exact⟨⟩|refine⟨tA,?_⟩|with_reducible refine iA ?_ ?_)<;>conv=>whnf)
     all_goals try simp only[wQ]
     all_goals (try first|exact⟨fun h=>h,fun _ _=>True.intro⟩)
     all_goals (try first|exact⟨by simp,Or.inl trivial⟩)
     all_goals try exact⟨rfl,rfl⟩
     all_goals (try simp)
    ·(conv=>whnf)
     (repeat' (first|with_reducible exact⟨⟩|refine⟨tA,?_⟩|with_reducible refine iB ?_ ?_)<;>conv=>whnf)
     all_goals try simp only[wQ]
     all_goals try rfl
     exact⟨by simp,fun e he=>⟨pH (l:=c::L) rfl (fun _ _=>rfl) (by rw[hv];rfl) (by simpa using he),rfl⟩⟩
   ·have hv:=Asi (s:=w.getD (c::L:List Int).length []) (by assumption)
    have hi2:(c::L:List Int).length<w.length:=Int.ofNat_lt.1 (by assumption)
    have g1:=Cj (f:=fun w=>(rpV w,true)) q2 hi2
    (conv=>whnf)
    refine⟨(((c::L:List Int)++[rpV (w.getD (c::L:List Int).length [])]):List Int),[2],?_,⟨⟨rfl,(nB rfl),rfl⟩,?_,?_⟩⟩
    ·refine⟨⟨?_,g1⟩,?_⟩
     ·show((c::L:List Int)++[rpV (w.getD (c::L:List Int).length [])]).length≤w.length;rw[List.length_append];exact hi2
     ·show w.length - ((c::L:List Int)++[rpV (w.getD (c::L:List Int).length [])]).length<w.length - (c::L:List Int).length;rw[List.length_append,List.length_singleton];omega
    ·(conv=>whnf)
     (repeat' (first|with_reducible exact⟨⟩|refine⟨tA,?_⟩|with_reducible refine iA ?_ ?_)<;>conv=>whnf)
     all_goals try simp only[wQ]
     all_goals (try first|exact⟨fun h=>h,fun _ _=>True.intro⟩)
     all_goals (try first|exact⟨by simp,Or.inl trivial⟩)
     all_goals try exact⟨rfl,rfl⟩
     all_goals (try simp)
    ·(conv=>whnf)
     (repeat' (first|with_reducible exact⟨⟩|refine⟨tA,?_⟩|with_reducible refine iB ?_ ?_)<;>conv=>whnf)
     all_goals try simp only[wQ]
     all_goals try rfl
     exact⟨by simp,fun e he=>⟨pH (l:=c::L) rfl (fun _ _=>rfl) (by rw[hv];rfl) (by simpa using he),rfl⟩⟩
   ·have hx2: ¬(c::L).length<w.length:=Nat.not_lt.2 (Int.ofNat_le.1 (by assumption))
    have e:(c::L).length=w.length:=(by omega);rw[e,List.take_length] at q2;rw[←q2];refine⟨⟨by omega,fun e he=>rfl⟩,?_⟩
    exact⟨rfl,rfl,fun h=>h,fun e he=>by simp only[Nat.zero_add]⟩
end
end Go.Vc.Z
