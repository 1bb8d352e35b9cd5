/- script.RequestOf: the request of a line. -/
import Derived.Test.YtpmpclbdnakniaaGreatDoorV30
import Derived.Test.YtpmpclbdnakniaaGreatDoorV31
import Derived.Test.YtpmpclbdnakniaaGreatDoorV22
import Derived.Test.YtpmpclbdnakniaaGreatDoorV23
import Derived.Test.YtpmpclbdnakniaaGreatDoorV28
import Derived.Test.YtpmpclbdnakniaaGreatDoorV13
set_option linter.all false
set_option linter.unusedVariables false
set_option linter.unusedSimpArgs false
namespace Go.Vc.Z
open Go Go.Vc Go.Proofs Go.RowKit Go.Pl Go.Lib
noncomputable section
def yJ:PC:=PC.of (fun x:List UInt8 × Request × Int=>[.str x.1]) (fun x=>R6 x.1=x.2∧x.1.length≤1000000) (fun x=>.tup [.agg x.2.1.enc,.int .i64 x.2.2])
theorem Ahi{W:World}(hW:Tabs W):GoodP (Fw W) Tryz.prog 26 yJ:=by
 intro S w cs vs Q hs hv hT
 obtain⟨x,⟨h1,h1'⟩,h2,h3⟩:=hT
 by_cases k1:kindOf ((Aa 32 x.1).getD 0 [])=1
 ·exact Amy hW S w cs vs Q hs hv ⟨x,⟨h1,h1',k1⟩,h2,h3⟩
 ·by_cases k5:kindOf ((Aa 32 x.1).getD 0 [])=5
  ·exact Am1 hW S w cs vs Q hs hv ⟨x,⟨h1,h1',k5⟩,h2,h3⟩
  ·exact Amv hW S w cs vs Q hs hv ⟨x,⟨h1,h1',k1,k5⟩,h2,h3⟩
end
end Go.Vc.Z
namespace Go.Vc.Z
open Go Go.Vc Go.Proofs Go.RowKit Go.Pl Go.Lib
@[irreducible] def Ma(s:List UInt8)(m:Int):Int × Int:=if D7 (Ay 45 s)=true∧s≠[45,48] then(if m<(worth (Ay 45 s):Int) then(0,5) else(if s=Ay 45 s then(worth (Ay 45 s):Int) else -(worth (Ay 45 s):Int),0)) else(0,4)
theorem Am2{s t:List UInt8}{m:Int}(hp:Ay 45 s=t)(h:D7 t=false):Ma s m=(0,4):=by
 subst hp;unfold Ma;rw[if_neg (fun e=>by rw[h] at e;cases e.1)]
theorem Atw{s:List UInt8}{m:Int}(h:s=[45,48]):Ma s m=(0,4):=by
 unfold Ma;rw[if_neg (fun e=>e.2 h)]
theorem Atx{s t:List UInt8}{m:Int}(hp:Ay 45 s=t)(h:D7 t=true)(h2: ¬s=[45,48])(h3:m<(worth t:Int)):Ma s m=(0,5):=by
 subst hp;unfold Ma;rw[if_pos ⟨h,h2⟩,if_pos h3]
theorem kX{s t:List UInt8}{m:Int}(hp:Ay 45 s=t)(h:D7 t=true)(h2: ¬s=[45,48])(h3:(worth t:Int)≤m)(h4:s=t):Ma s m=((worth t:Int),0):=by
 subst hp;unfold Ma;rw[if_pos ⟨h,h2⟩,if_neg (by omega),if_pos h4]
theorem Ac9{s t:List UInt8}{m:Int}(hp:Ay 45 s=t)(h:D7 t=true)(h2: ¬s=[45,48])(h3:(worth t:Int)≤m)(h4: ¬s=t):Ma s m=(-(worth t:Int),0):=by
 subst hp;unfold Ma;rw[if_pos ⟨h,h2⟩,if_neg (by omega),if_neg h4]
noncomputable section
set_option maxRecDepth 100000
attribute [local irreducible] inK Utf8.decode Utf8.encode Lib.itoa Pl.worth Pl.allDig
attribute [local irreducible] Lib.join Ca Aa
def Ada:PC:=PC.fun fun|[.str s,.int .i64 m]=>some (0≤m,.tup [.int .i64 (sI (Ma s m).1),.int .i64 (sI (Ma s m).2)])|_=>none
def Hi:PT:=C8 [(238,eG),(239,xO),(240,eI)]
theorem Lk{W:World}(hW:Tabs W):Ct (Fw W) Tryz.prog Hi:=(Ab Tryz.call238 (Ig hW) (Ab Tryz.call239 (L3 hW) (Ab Tryz.call240 (L4 hW) Av)))
def Hj:FuncId→Option Ctr:=Az Hi []
theorem Tq{W:World}(hW:Tabs W):Ad (Fw W) Tryz.prog Hj:=(Aw (Lk hW))
theorem Tr{W:World}(hW:Tabs W):GoodP (Fw W) Tryz.prog 180 Ada:=by
 have hD:=Lk hW
 have hC0:Ad (Fw W) Tryz.prog Hj:=(Tq hW)
 refine Ax (D:=Hi) (C:=Hj) (wr:=(fun _=>false)) rfl Ao hD hC0 Tryz.func180 (fun _ _=>none) ?_
 clear hC0 hD hW
 intro cs p r h hf hp
 split at h
 case h_2=>cases h
 rename_i s m
 cases h
 try simp only[A0,Bg,Ak,Go.Vc.lo,Go.Vc.hi,and_true] at hf
 have hm:m≤9223372036854775807:=by omega
 by_cases h0:s=[]
 ·have hp:=Qf (s:=s) (fun h=>absurd h0 h)
  have hd:D7 s=false:=by rw[h0];exact pC
  have e:Ma s m=(0,4):=Am2 hp hd
  (conv=>whnf)
  (repeat' ((first
   |with_reducible exact⟨⟩
   |(exact absurd h0 (by with_reducible assumption))
   |((with_reducible refine aI ?_ ?_);focus (first|with_reducible exact⟨⟩|with_reducible assumption|with_reducible rfl|omega|exact tK))
   |(split<;>rename_i hh<;>(try simp only[wS] at hh))
   |with_reducible refine iA ?_ ?_
   |fail)<;>(conv=>whnf)))
  all_goals (try (show _=_;simp only[wQ]))
  all_goals first|(rw[e];done)|(rw[hd] at*;simp_all;done)|exact absurd h0 (by assumption)|skip
 ·have hpos:0<s.length:=List.length_pos_iff.2 h0
  by_cases h1:s.getD 0 0=45
  ·have hp:Ay 45 s=List.take (s.length - Int.toNat 1) (List.drop (Int.toNat 1) s):=by rw[yE h0 h1,List.take_of_length_le (by rw[List.length_drop];exact Nat.le_refl _)];rfl
   have h45:((s.getD (Int.toNat 0) 0).toNat:Int)=45:=by rw[show Int.toNat 0=0 from rfl,h1];rfl
   (conv=>whnf)
   (repeat' ((first
    |with_reducible exact⟨⟩
    |(exact absurd (by with_reducible assumption) h0)
    |(exact absurd h45 (by with_reducible assumption))
    |((with_reducible refine aI ?_ ?_);focus (first|with_reducible exact⟨⟩|with_reducible assumption|with_reducible rfl|omega|exact tK))
    |(split<;>rename_i hh<;>(try simp only[wS] at hh))
    |with_reducible refine iA ?_ ?_
    |fail)<;>(conv=>whnf)))
   all_goals (try (show _=_;simp only[wQ]))
   all_goals try first
    |(rw[Am2 hp (by assumption)];done)
    |(rw[Atw (by assumption)];done)
    |(rw[Atx hp (by assumption) (by assumption) (by assumption)];done)
    |(rw[kX hp (by assumption) (by assumption) (by assumption) (by assumption)];done)
    |(rw[Ac9 hp (by assumption) (by assumption) (by assumption) (by assumption)];done)
   all_goals try (exact absurd True.intro (by assumption))
   all_goals (refine⟨⟨(Kl (by assumption)).1,by omega⟩,?_⟩)
   all_goals (
    (conv=>whnf)
    (repeat' ((first
     |with_reducible exact⟨⟩
     |((with_reducible refine aI ?_ ?_);focus (first|with_reducible rfl|(simp only[Ak,Go.Vc.lo,Go.Vc.hi];simp (disch:=omega) only[Int.tdiv_eq_ediv_of_nonneg,Int.tmod_eq_emod_of_nonneg,Cm,Xg];omega)))
     |with_reducible refine iA ?_ ?_
     |fail)<;>(conv=>whnf)))
    all_goals (try (show _=_;simp only[wQ]))
    all_goals first
     |(rw[kX hp (by assumption) (by assumption) (by assumption) rfl];done)
     |(rw[kX hp (by assumption) (by assumption) (by assumption) (by assumption)];done)
     |(rw[Ac9 hp (by assumption) (by assumption) (by assumption) (by assumption)];done)
     |skip)
  ·have hp:=Qf (s:=s) (fun _=>h1)
   have h45: ¬((s.getD (Int.toNat 0) 0).toNat:Int)=45:=fun e=>h1 (UInt8.toNat_inj.1 (Int.ofNat.inj e))
   (conv=>whnf)
   (repeat' ((first
    |with_reducible exact⟨⟩
    |(exact absurd (by with_reducible assumption) h0)
    |(exact absurd (by with_reducible assumption) h45)
    |((with_reducible refine aI ?_ ?_);focus (first|with_reducible exact⟨⟩|with_reducible assumption|with_reducible rfl|omega|exact tK))
    |(split<;>rename_i hh<;>(try simp only[wS] at hh))
    |with_reducible refine iA ?_ ?_
    |fail)<;>(conv=>whnf)))
   all_goals (try (show _=_;simp only[wQ]))
   all_goals try first
    |(rw[Am2 hp (by assumption)];done)
    |(rw[Atw (by assumption)];done)
    |(rw[Atx hp (by assumption) (by assumption) (by assumption)];done)
    |(rw[kX hp (by assumption) (by assumption) (by assumption) (by assumption)];done)
    |(rw[Ac9 hp (by assumption) (by assumption) (by assumption) (by assumption)];done)
   all_goals try (exact absurd True.intro (by assumption))
   all_goals (refine⟨⟨(Kl (by assumption)).1,by omega⟩,?_⟩)
   all_goals (
    (conv=>whnf)
    (repeat' ((first
     |with_reducible exact⟨⟩
     |((with_reducible refine aI ?_ ?_);focus (first|with_reducible rfl|(simp only[Ak,Go.Vc.lo,Go.Vc.hi];simp (disch:=omega) only[Int.tdiv_eq_ediv_of_nonneg,Int.tmod_eq_emod_of_nonneg,Cm,Xg];omega)))
     |with_reducible refine iA ?_ ?_
     |fail)<;>(conv=>whnf)))
    all_goals (try (show _=_;simp only[wQ]))
    all_goals first
     |(rw[kX hp (by assumption) (by assumption) (by assumption) rfl];done)
     |(rw[kX hp (by assumption) (by assumption) (by assumption) (by assumption)];done)
     |(rw[Ac9 hp (by assumption) (by assumption) (by assumption) (by assumption)];done)
     |skip)
end
end Go.Vc.Z
namespace Go.Vc.Z
open Go Go.Vc Go.Proofs Go.RowKit Go.Pl Go.Lib
@[irreducible] def rpV(s:List UInt8):Int:=if s=[45,57,50,50,51,51,55,50,48,51,54,56,53,52,55,55,53,56,48,56] then -9223372036854775808 else(Ma s 9223372036854775807).1
theorem Am3{s:List UInt8}(h:s=[45,57,50,50,51,51,55,50,48,51,54,56,53,52,55,55,53,56,48,56]):rpV s= -9223372036854775808:=by unfold rpV;rw[if_pos h]
theorem Am4{s:List UInt8}(h: ¬s=[45,57,50,50,51,51,55,50,48,51,54,56,53,52,55,55,53,56,48,56]):rpV s=(Ma s 9223372036854775807).1:=by unfold rpV;rw[if_neg h]
noncomputable section
set_option maxRecDepth 100000
attribute [local irreducible] inK Utf8.decode Utf8.encode Lib.itoa Pl.worth Pl.allDig
attribute [local irreducible] Lib.join Ca Aa
def LRp(w:List (List UInt8)):LoopSpec:={
 α:=List Int
 keep:=[0,3,4]
 vals L:=[slS w,Atq L,.int .i64 L.length]
 heap L:=[Atp L]
 ok L:=L.length≤w.length∧L=(w.take L.length).map rpV
 μ L:=w.length - L.length }
def Adb:PC:=PC.of (fun w:List (List UInt8)=>[slS w]) (fun w=>w.length≤1000001∧∀ i,(w.getD i []).length≤100000000) (fun w=>slE 1 fZ (w.map rpV))
def F1:PT:=C8 [(180,Ada)]
theorem Jd{W:World}(hW:Tabs W):Ct (Fw W) Tryz.prog F1:=(Ab Tryz.call180 (Tr hW) Av)
def F2:FuncId→Option Ctr:=Az F1 []
theorem Qr{W:World}(hW:Tabs W):Ad (Fw W) Tryz.prog F2:=(Aw (Jd hW))
def Qs:List (List UInt8)→Nat→Option LR:=fun w i=>cond (Nat.beq i 3) (some (.inv (LRp w))) (none)
set_option maxHeartbeats 2000000 in
theorem Qt{W:World}(hW:Tabs W):GoodP (Fw W) Tryz.prog 97 Adb:=by
 have hD:=Jd hW
 have hC0:∀ w:List (List UInt8),Ad (Fw W) Tryz.prog F2:=fun w=>(Qr hW)
 refine As (D:=F1) (C:=fun w=>F2) (wr:=(fun _=>false)) rfl Ao hD hC0 Tryz.func97 (Qs) (fun _=>rfl) ?_
 intro w hf hp
 clear hf
 obtain⟨hl,hm⟩:=hp
 (conv=>whnf)
 refine⟨?_,fun(L:List Int) hL=>?_⟩
 ·(conv=>whnf)
  refine⟨([]:List Int),[],?_,⟨⟨rfl,(nB rfl),rfl⟩,?_,?_⟩⟩
  ·exact⟨Nat.zero_le _,rfl⟩
  ·exact Ac _
  ·exact tL
 ·obtain⟨q1,q2⟩:=hL
  change L.length≤w.length at q1
  change L=(w.take L.length).map rpV at q2
  rcases L with _|⟨c,L⟩
  ·(conv=>whnf)
   (repeat' ((first
    |((with_reducible refine aI ?_ ?_);focus (first|omega|exact tK|(simp only[Ap,ty2,ty3,ty4,ty5,ty9,Cu,Ck,Cv,Cl,Cq,Cw,Cx,Cy,Bm,Bl,Bn,Bo,Bp,Bq,Br];first|omega|(refine⟨?_,?_⟩<;>omega))))
    |(split<;>rename_i hh<;>(try simp only[wS] at hh))
    |with_reducible refine lnI fun hln=>?_
    |fail)<;>(conv=>whnf)))
   ·have hv:=Am3 (s:=w.getD ([]:List Int).length []) (by assumption)
    have hi2:([]:List Int).length<w.length:=Int.ofNat_lt.1 (by assumption)
    have g1:=Cp (f:=fun w=>(rpV w,true)) q2 hi2
    (conv=>whnf)
    refine⟨((([]:List Int)++[rpV (w.getD ([]:List Int).length [])]):List Int),[2],?_,⟨⟨rfl,(nB rfl),rfl⟩,?_,?_⟩⟩
    ·refine⟨⟨?_,g1⟩,?_⟩
     ·show(([]:List Int)++[rpV (w.getD ([]:List Int).length [])]).length≤w.length
      rw[List.length_append];exact hi2
     ·show w.length - (([]:List Int)++[rpV (w.getD ([]:List Int).length [])]).length<w.length - ([]:List Int).length
      rw[List.length_append,List.length_singleton];omega
    ·(conv=>whnf)
     (repeat' ((first|with_reducible exact⟨⟩|((with_reducible refine Or.inr ?_);rfl)|((with_reducible refine aI ?_ ?_);focus (exact tA))|with_reducible refine iA ?_ ?_|fail)<;>(conv=>whnf)))
     all_goals (try simp only[wQ])
     all_goals (try first|rfl|exact⟨fun h=>h,fun _ _=>True.intro⟩)
     all_goals try exact⟨rfl,rfl⟩
     all_goals (try simp)
    ·(conv=>whnf)
     (repeat' ((first|with_reducible exact⟨⟩|((with_reducible refine aI ?_ ?_);focus (exact tA))|with_reducible refine iB ?_ ?_|fail)<;>(conv=>whnf)))
     all_goals (try simp only[wQ])
     all_goals try rfl
     intro e he
     have he:e<1:=he
     obtain rfl:e=0:=by omega
     refine⟨?_,rfl⟩
     show _=fZ (rpV (w.getD ([]:List Int).length []))
     rw[hv];rfl
   ·have hv:=Am4 (s:=w.getD ([]:List Int).length []) (by assumption)
    have hi2:([]:List Int).length<w.length:=Int.ofNat_lt.1 (by assumption)
    have g1:=Cp (f:=fun w=>(rpV w,true)) q2 hi2
    (conv=>whnf)
    refine⟨((([]:List Int)++[rpV (w.getD ([]:List Int).length [])]):List Int),[2],?_,⟨⟨rfl,(nB rfl),rfl⟩,?_,?_⟩⟩
    ·refine⟨⟨?_,g1⟩,?_⟩
     ·show(([]:List Int)++[rpV (w.getD ([]:List Int).length [])]).length≤w.length
      rw[List.length_append];exact hi2
     ·show w.length - (([]:List Int)++[rpV (w.getD ([]:List Int).length [])]).length<w.length - ([]:List Int).length
      rw[List.length_append,List.length_singleton];omega
    ·(conv=>whnf)
     (repeat' ((first|with_reducible exact⟨⟩|((with_reducible refine Or.inr ?_);rfl)|((with_reducible refine aI ?_ ?_);focus (exact tA))|with_reducible refine iA ?_ ?_|fail)<;>(conv=>whnf)))
     all_goals (try simp only[wQ])
     all_goals (try first|rfl|exact⟨fun h=>h,fun _ _=>True.intro⟩)
     all_goals try exact⟨rfl,rfl⟩
     all_goals (try simp)
    ·(conv=>whnf)
     (repeat' ((first|with_reducible exact⟨⟩|((with_reducible refine aI ?_ ?_);focus (exact tA))|with_reducible refine iB ?_ ?_|fail)<;>(conv=>whnf)))
     all_goals (try simp only[wQ])
     all_goals try rfl
     intro e he
     have he:e<1:=he
     obtain rfl:e=0:=by omega
     refine⟨?_,rfl⟩
     show _=fZ (rpV (w.getD ([]:List Int).length []))
     rw[hv];rfl
   ·have hx:w.length≤0:=Int.ofNat_le.1 (by assumption)
    have e1:w=[]:=List.length_eq_zero_iff.1 (by omega)
    rw[e1];rfl
  ·have q0:L.length+1≤1000001:=Nat.le_trans q1 hl
   (conv=>whnf)
   (repeat' ((first
    |((with_reducible refine aI ?_ ?_);focus (first|((with_reducible refine⟨?_,?_,?_⟩)<;>first|(intro e he;rcases(by omega:e=0∨e=1∨e=2∨e=3∨e=4∨e=5) with rfl|rfl|rfl|rfl|rfl|rfl<;>first|rfl|(exfalso;omega))|(with_reducible assumption)|omega|((with_reducible show Ap _ _);simp only[Ap,ty2,ty3,ty4,ty5,ty9,Cu,Ck,Cv,Cl,Cq,Cw,Cx,Cy,Bm,Bl,Bn,Bo,Bp,Bq,Br,List.length_cons,List.length_nil];first|omega|(refine⟨?_,?_⟩<;>omega)))|omega|exact tK))
    |(split<;>rename_i hh<;>(try simp only[wS] at hh))
    |with_reducible refine lnI fun hln=>?_
    |fail)<;>(conv=>whnf)))
   ·have hv:=Am3 (s:=w.getD (c::L:List Int).length []) (by assumption)
    have hi2:(c::L:List Int).length<w.length:=Int.ofNat_lt.1 (by assumption)
    have g1:=Cp (f:=fun w=>(rpV w,true)) q2 hi2
    (conv=>whnf)
    refine⟨(((c::L:List Int)++[rpV (w.getD (c::L:List Int).length [])]):List Int),[2],?_,⟨⟨rfl,(nB rfl),rfl⟩,?_,?_⟩⟩
    ·refine⟨⟨?_,g1⟩,?_⟩
     ·show((c::L:List Int)++[rpV (w.getD (c::L:List Int).length [])]).length≤w.length
      rw[List.length_append];exact hi2
     ·show w.length - ((c::L:List Int)++[rpV (w.getD (c::L:List Int).length [])]).length<w.length - (c::L:List Int).length
      rw[List.length_append,List.length_singleton];omega
    ·(conv=>whnf)
     (repeat' ((first|with_reducible exact⟨⟩|((with_reducible refine aI ?_ ?_);focus (exact tA))|with_reducible refine iA ?_ ?_|fail)<;>(conv=>whnf)))
     all_goals (try simp only[wQ])
     all_goals (try first|exact⟨fun h=>h,fun _ _=>True.intro⟩)
     all_goals (try first|exact⟨by simp,Or.inl trivial⟩)
     all_goals try exact⟨rfl,rfl⟩
     all_goals (try simp)
    ·(conv=>whnf)
     (repeat' ((first|with_reducible exact⟨⟩|((with_reducible refine aI ?_ ?_);focus (exact tA))|with_reducible refine iB ?_ ?_|fail)<;>(conv=>whnf)))
     all_goals (try simp only[wQ])
     all_goals try rfl
     exact⟨by simp,fun e he=>⟨gB (l:=c::L) rfl (fun _ _=>rfl) (by rw[hv];rfl) (by simpa using he),rfl⟩⟩
   ·have hv:=Am4 (s:=w.getD (c::L:List Int).length []) (by assumption)
    have hi2:(c::L:List Int).length<w.length:=Int.ofNat_lt.1 (by assumption)
    have g1:=Cp (f:=fun w=>(rpV w,true)) q2 hi2
    (conv=>whnf)
    refine⟨(((c::L:List Int)++[rpV (w.getD (c::L:List Int).length [])]):List Int),[2],?_,⟨⟨rfl,(nB rfl),rfl⟩,?_,?_⟩⟩
    ·refine⟨⟨?_,g1⟩,?_⟩
     ·show((c::L:List Int)++[rpV (w.getD (c::L:List Int).length [])]).length≤w.length
      rw[List.length_append];exact hi2
     ·show w.length - ((c::L:List Int)++[rpV (w.getD (c::L:List Int).length [])]).length<w.length - (c::L:List Int).length
      rw[List.length_append,List.length_singleton];omega
    ·(conv=>whnf)
     (repeat' ((first|with_reducible exact⟨⟩|((with_reducible refine aI ?_ ?_);focus (exact tA))|with_reducible refine iA ?_ ?_|fail)<;>(conv=>whnf)))
     all_goals (try simp only[wQ])
     all_goals (try first|exact⟨fun h=>h,fun _ _=>True.intro⟩)
     all_goals (try first|exact⟨by simp,Or.inl trivial⟩)
     all_goals try exact⟨rfl,rfl⟩
     all_goals (try simp)
    ·(conv=>whnf)
     (repeat' ((first|with_reducible exact⟨⟩|((with_reducible refine aI ?_ ?_);focus (exact tA))|with_reducible refine iB ?_ ?_|fail)<;>(conv=>whnf)))
     all_goals (try simp only[wQ])
     all_goals try rfl
     exact⟨by simp,fun e he=>⟨gB (l:=c::L) rfl (fun _ _=>rfl) (by rw[hv];rfl) (by simpa using he),rfl⟩⟩
   ·have hx2: ¬(c::L).length<w.length:=Nat.not_lt.2 (Int.ofNat_le.1 (by assumption))
    have e:(c::L).length=w.length:=by omega
    rw[e,List.take_length] at q2
    rw[←q2]
    refine⟨⟨by omega,fun e he=>rfl⟩,?_⟩
    exact⟨rfl,rfl,fun h=>h,fun e he=>by simp only[Nat.zero_add]⟩
end
end Go.Vc.Z
namespace Go.Vc.Z
open Go Go.Vc Go.Proofs Go.RowKit Go.Pl Go.Lib
def r0:Request:=⟨[107,55],1,3,0,0,0,[65,66,67,50,51,52],[c7],[],0,0,0⟩
theorem Afn:Af r0=true:=by
 rw[Tf rfl]
 have p1:Bd r0 75=true:=by unfold Bd Gp;decide
 have p2:Bd r0 68=true:=by unfold Bd F7;decide
 have p3:Bd r0 76=true:=by unfold Bd G3;decide
 have p4:Bd r0 74=true:=by unfold Bd Fh Gk F7 Di;decide
 have p5:Bd r0 88=true:=by unfold Bd Dg;decide
 have p6:Du r0 (C1 r0)=true:=Ba.2 rfl
 rw[p1,p2,p3,p4,p5,p6];rfl
theorem Am5:Bf r0=Agc:=by
 rw[Afg rfl Afn]
 show [105,115,115,117,101]++[32]++[107,55]++[32]++Lib.itoa 3++[32]++[65,66,67,50,51,52]++[32]++Cb [c7]++[32]++By []=Agc
 rw[show Cb [c7]=Bs ⟨7,9,1000,0,0,0⟩ by unfold Cb;simp[Lib.join,c7],Ae5,Ae6,Lf (n:=3) (by decide) (by decide)];rfl
theorem Adc:Fy r0:=⟨by decide,by decide⟩
theorem Ave:Nc 0++[32]++Nc 6++[32]++Lib.itoa 0=[111,107,32,110,111,110,101,32,48]:=by
 unfold Nc
 rw[show Lib.itoa 0=[48] from Lf (n:=0) (by decide) (by decide)]
 rfl
noncomputable def partsE:List (List UInt8):=[[100,111],Lib.itoa 0,Bf r0]
theorem Aty:Lib.join partsE [32]=[100,111,32,48,32]++Agc:=by
 unfold partsE;rw[Lf (n:=0) (by decide) (by decide),Am5];rfl
theorem Avf:(Lib.join partsE [32]).length≤140737488355328:=by rw[Aty];decide
noncomputable section
set_option maxRecDepth 100000
attribute [local irreducible] inK Utf8.decode Utf8.encode Lib.itoa Pl.worth Pl.allDig
attribute [local irreducible] Lib.join
def Avg:List (List UInt8):=[[111,107,32,110,111,110,101,32,48]]
def Add:PC:=PC.of (fun _:Unit=>[.agg Aav.enc]) (fun _=>True) (fun _=>slS Avg)
def F3:PT:=C8 [(16,Ala),(46,Mg)]
theorem N1{W:World}(hW:Tabs W):Ct (Fw W) Tryz.prog F3:=(Ab Tryz.call16 (nD hW) (Ab Tryz.call46 (Gf hW) Av))
def Ade:FuncId→Option Ctr:=Az F3 []
theorem Adf{W:World}(hW:Tabs W):Ad (Fw W) Tryz.prog Ade:=(Aw (N1 hW))
def vL:List (FuncId × Ctr):=(109,inl TY Ade F3 (fun _=>false) (fun _ _ _=>none) Tryz.f109)::[]
def vM:FuncId→Option Ctr:=Az F3 vL
theorem vN{W:World}(hW:Tabs W):Ad (Fw W) Tryz.prog vM:=Ae Tryz.call109 (Ag rfl Ao (N1 hW) (Adf hW) Tryz.func109 (fun _ _ _=>none)) (Adf hW)
def vO:List (FuncId × Ctr):=(106,inl TY vM F3 (fun _=>false) (fun _ _ _=>none) Tryz.f106)::vL
def vP:FuncId→Option Ctr:=Az F3 vO
theorem vQ{W:World}(hW:Tabs W):Ad (Fw W) Tryz.prog vP:=Ae Tryz.call106 (Ag rfl Ao (N1 hW) (vN hW) Tryz.func106 (fun _ _ _=>none)) (vN hW)
def kY:List AV→List Blk→Nat→Option LR:=fun _ _ i=>cond (Nat.beq i 2) (some (.unroll 1)) none
def vR:List (FuncId × Ctr):=(187,inl TY vP F3 (fun _=>false) (kY) Tryz.f187)::vO
def vS:FuncId→Option Ctr:=Az F3 vR
theorem vT{W:World}(hW:Tabs W):Ad (Fw W) Tryz.prog vS:=Ae Tryz.call187 (Ag rfl Ao (N1 hW) (vQ hW) Tryz.func187 (kY)) (vQ hW)
def vU:List (FuncId × Ctr):=(108,inl TY vS F3 (fun _=>false) (fun _ _ _=>none) Tryz.f108)::vR
def vV:FuncId→Option Ctr:=Az F3 vU
theorem vW{W:World}(hW:Tabs W):Ad (Fw W) Tryz.prog vV:=Ae Tryz.call108 (Ag rfl Ao (N1 hW) (vT hW) Tryz.func108 (fun _ _ _=>none)) (vT hW)
def kZ:List AV→List Blk→Nat→Option LR:=fun _ _ i=>cond (Nat.beq i 4) (some (.unroll 1)) (cond (Nat.beq i 10) (some (.unroll 1)) none)
def Ajl:List (FuncId × Ctr):=(45,inl TY vV F3 (fun _=>false) (kZ) Tryz.f45)::vU
def Z2:FuncId→Option Ctr:=Az F3 Ajl
theorem Ajm{W:World}(hW:Tabs W):Ad (Fw W) Tryz.prog Z2:=Ae Tryz.call45 (Ag rfl Ao (N1 hW) (vW hW) Tryz.func45 (kZ)) (vW hW)
def Am6:Unit→Nat→Option LR:=fun t i=>cond (Nat.beq i 5) (some (.unroll 1)) (cond (Nat.beq i 10) (some (.unroll 1)) (cond (Nat.beq i 15) (some (.unroll 1)) (none)))
set_option maxHeartbeats 2000000 in
theorem Am7{W:World}(hW:Tabs W):GoodP (Fw W) Tryz.prog 13 Add:=by
 have hD:=N1 hW
 have hC0:∀ t:Unit,Ad (Fw W) Tryz.prog Z2:=fun t=>(Ajm hW)
 refine As (D:=F3) (C:=fun t=>Z2) (wr:=(fun _=>false)) rfl Ao hD hC0 Tryz.func13 (Am6) (fun _=>rfl) ?_
 intro t hf hp
 clear hf
 have c0:Nc 0=[111,107]:=by unfold Nc;rfl
 have c6:Nc 6=[110,111,110,101]:=by unfold Nc;rfl
 have i0:Lib.itoa 0=[48]:=Lf (n:=0) (by decide) (by decide)
 have k1:(Lib.itoa Aav.came).length≤20:=by rw[show Lib.itoa Aav.came=[48] from i0];decide
 have k2:=oU Aav.code
 have k3:=oU Aav.answer.code
 (conv=>whnf)
 (repeat' ((first
  |(with_reducible refine Ar ?_)
  |((with_reducible refine aI ?_ ?_);focus (first|with_reducible exact⟨⟩|exact tO|(simp only[List.length_append,bytesOf_length,List.toList_toArray,List.length_cons,List.length_nil,List.length_take,List.length_drop,Bb];omega)|decide))
  |(split<;>rename_i hh<;>(try simp only[wS] at hh))
  |with_reducible refine lnI fun hln=>?_
  |fail)<;>(conv=>whnf)))
 ·exact absurd (c0.symm.trans (by assumption)) (by decide)
 ·intro e he
  obtain rfl:e=0:=by omega
  show [AV.str _]=[AV.str _]
  refine congrArg (fun l=>[AV.str l]) ?_
  simp only[Bb]
  exact Ave
def Hp:PT:=C8 [(71,iW)]
theorem Rl{W:World}(hW:Tabs W):Ct (Fw W) Tryz.prog Hp:=(Ab Tryz.call71 (Yd hW) Av)
def Ahj:FuncId→Option Ctr:=Az Hp []
theorem Ahk{W:World}(hW:Tabs W):Ad (Fw W) Tryz.prog Ahj:=(Aw (Rl hW))
def Adg:List (FuncId × Ctr):=(213,inl TY Ahj Hp (fun _=>false) (fun _ _ _=>none) Tryz.f213)::[]
def Adh:FuncId→Option Ctr:=Az Hp Adg
theorem Adi{W:World}(hW:Tabs W):Ad (Fw W) Tryz.prog Adh:=Ae Tryz.call213 (Ag rfl Ao (Rl hW) (Ahk hW) Tryz.func213 (fun _ _ _=>none)) (Ahk hW)
def vX:List AV→List Blk→Nat→Option LR:=fun _ _ i=>cond (Nat.beq i 4) (some (.unroll 1)) none
def Adj:List (FuncId × Ctr):=(214,inl TY Adh Hp (fun _=>false) (vX) Tryz.f214)::Adg
def Adk:FuncId→Option Ctr:=Az Hp Adj
theorem Adl{W:World}(hW:Tabs W):Ad (Fw W) Tryz.prog Adk:=Ae Tryz.call214 (Ag rfl Ao (Rl hW) (Adi hW) Tryz.func214 (vX)) (Adi hW)
def vY:List AV→List Blk→Nat→Option LR:=fun _ _ i=>cond (Nat.beq i 4) (some (.unroll 1)) none
def Adm:List (FuncId × Ctr):=(215,inl TY Adk Hp (fun _=>false) (vY) Tryz.f215)::Adj
def Adn:FuncId→Option Ctr:=Az Hp Adm
theorem Ado{W:World}(hW:Tabs W):Ad (Fw W) Tryz.prog Adn:=Ae Tryz.call215 (Ag rfl Ao (Rl hW) (Adl hW) Tryz.func215 (vY)) (Adl hW)
def vZ:List AV→List Blk→Nat→Option LR:=fun cs H i=>cond (Nat.beq i 2) (some (.order [0,1,3,4,2,5,6,7,8,9,10,11,12,13,14,15,16,17,18,19,20,21])) (none)
def Adp:List (FuncId × Ctr):=(142,inl TY Adn Hp (fun _=>false) (vZ) Tryz.f142)::Adm
def Adq:FuncId→Option Ctr:=Az Hp Adp
theorem Adr{W:World}(hW:Tabs W):Ad (Fw W) Tryz.prog Adq:=Ae Tryz.call142 (Ag rfl Ao (Rl hW) (Ado hW) Tryz.func142 (vZ)) (Ado hW)
def Am8:List (FuncId × Ctr):=(98,inl TY Adq Hp (fun _=>false) (fun _ _ _=>none) Tryz.f98)::Adp
def lB:FuncId→Option Ctr:=Az Hp Am8
theorem Am9{W:World}(hW:Tabs W):Ad (Fw W) Tryz.prog lB:=Ae Tryz.call98 (Ag rfl Ao (Rl hW) (Adr hW) Tryz.func98 (fun _ _ _=>none)) (Adr hW)
set_option maxHeartbeats 2000000 in
theorem Ao8{W:World}(hW:Tabs W):GoodP (Fw W) Tryz.prog 36 Ale:=by
 have hD:=Rl hW
 have hC0:∀ b:Bool,Ad (Fw W) Tryz.prog lB:=fun b=>(Am9 hW)
 refine As (D:=Hp) (C:=fun b=>lB) (wr:=(fun _=>false)) rfl Ao hD hC0 Tryz.func36 (fun _ _=>none) (fun z=>by cases z<;>rfl) ?_
 have hexM: ¬Af r0=false:=by rw[Afn];exact Bool.true_eq_false.mp
 intro b hf hp
 clear hf
 cases b
 ·(conv=>whnf)
  (repeat' ((first
   |(with_reducible refine Ar ?_)
   |(refine Zl ?_)
   |with_reducible refine iQ ?_ ?_
   |((with_reducible refine aI ?_ ?_);focus (((with_reducible show okQ _ _=true);rfl)))
   |with_reducible refine lnI fun hln=>?_
   |fail)<;>(conv=>whnf)))
  all_goals (try (show _=_;simp only[wQ]))
  all_goals rfl
 ·(conv=>whnf)
  refine⟨r0,Adc,?_,?_⟩
  ·exact tL
  (conv=>whnf)
  (repeat' ((first
   |(with_reducible refine Ar ?_)
   |(refine Zl ?_)
   |(exact absurd (by with_reducible assumption) hexM)
   |with_reducible refine iQ ?_ ?_
   |((with_reducible refine aI ?_ ?_);focus (((with_reducible show okQ _ _=true);rfl)))
   |(split<;>rename_i hh<;>(try simp only[wS] at hh))
   |fail)<;>(conv=>whnf)))
  all_goals (try (show _=_;simp only[wQ]))
  all_goals rfl
def yK:PT:=C8 [(24,Ur),(36,Ale),(46,Mg),(62,Ug)]
theorem Ahl{W:World}(hW:Tabs W):Ct (Fw W) Tryz.prog yK:=(Ab Tryz.call24 (Z1 hW) (Ab Tryz.call36 (Ao8 hW) (Ab Tryz.call46 (Gf hW) (Ab Tryz.call62 (P2 hW) Av))))
def yL:FuncId→Option Ctr:=Az yK []
theorem Ao9{W:World}(hW:Tabs W):Ad (Fw W) Tryz.prog yL:=(Aw (Ahl hW))
def Apa:Bool→Nat→Option LR:=fun b i=>cond (Nat.beq i 15) (some (.unroll 3)) (none)
set_option maxHeartbeats 2000000 in
theorem Apb{W:World}(hW:Tabs W):GoodP (Fw W) Tryz.prog 34 Alg:=by
 have hD:=Ahl hW
 have hC0:∀ b:Bool,Ad (Fw W) Tryz.prog yL:=fun b=>(Ao9 hW)
 refine As (D:=yK) (C:=fun b=>yL) (wr:=(fun _=>false)) rfl Ao hD hC0 Tryz.func34 (Apa) (fun z=>by cases z<;>rfl) ?_
 have hexM: ¬Af r0=false:=by rw[Afn];exact Bool.true_eq_false.mp
 intro b hf hp
 clear hf
 cases b
 ·(conv=>whnf)
  refine⟨false,True.intro,?_,?_⟩
  ·exact Ac _
  (conv=>whnf)
  (repeat' ((first
   |(exact absurd (by with_reducible assumption) Bool.false_ne_true)
   |((with_reducible refine aI ?_ ?_);focus (first|with_reducible exact⟨⟩|((with_reducible refine⟨?_,?_,?_⟩)<;>first|(intro e he;rcases(by omega:e=0∨e=1∨e=2∨e=3∨e=4∨e=5) with rfl|rfl|rfl|rfl|rfl|rfl<;>first|rfl|(exfalso;omega))|(with_reducible assumption)|omega|((with_reducible show Ap _ _);simp only[Ap,ty2,ty3,ty4,ty5,ty9,Cu,Ck,Cv,Cl,Cq,Cw,Cx,Cy,Bm,Bl,Bn,Bo,Bp,Bq,Br,List.length_cons,List.length_nil];first|omega|(refine⟨?_,?_⟩<;>omega)))|omega|exact tK|(simp only[Ap,ty2,ty3,ty4,ty5,ty9,Cu,Ck,Cv,Cl,Cq,Cw,Cx,Cy,Bm,Bl,Bn,Bo,Bp,Bq,Br];first|omega|(refine⟨?_,?_⟩<;>omega))|decide))
   |(split<;>rename_i hh<;>(try simp only[wS] at hh))
   |with_reducible refine lnI fun hln=>?_
   |fail)<;>(conv=>whnf)))
  refine⟨(xV,[32]),⟨Au2,by decide⟩,?_,?_⟩
  ·(conv=>whnf)
   (repeat' ((first|with_reducible exact⟨⟩|((with_reducible refine aI ?_ ?_);focus (exact tA))|with_reducible refine iA ?_ ?_|fail)<;>(conv=>whnf)))
   all_goals (try simp only[wQ])
   refine⟨fun h=>h,fun e he=>?_⟩
   change e<4 at he
   rcases(by omega:e=0∨e=1∨e=2∨e=3) with rfl|rfl|rfl|rfl<;>rfl
  (conv=>whnf)
  all_goals (try (show _=_;simp only[wQ]))
  all_goals exact Ate
 ·(conv=>whnf)
  refine⟨true,True.intro,?_,?_⟩
  ·exact Ac _
  (conv=>whnf)
  (repeat' ((first
   |(exact absurd (by with_reducible assumption) Bool.false_ne_true)
   |((with_reducible refine aI ?_ ?_);focus (first|with_reducible exact⟨⟩|exact tO))
   |(split<;>rename_i hh<;>(try simp only[wS] at hh))
   |fail)<;>(conv=>whnf)))
  refine⟨r0,Adc,?_,?_⟩
  ·exact tL
  (conv=>whnf)
  (repeat' ((first
   |((with_reducible refine aI ?_ ?_);focus (decide))
   |fail)<;>(conv=>whnf)))
  refine⟨(partsE,[32]),⟨Avf,by decide⟩,?_,?_⟩
  ·(conv=>whnf)
   (repeat' ((first|with_reducible exact⟨⟩|((with_reducible refine aI ?_ ?_);focus (exact tA))|with_reducible refine iA ?_ ?_|fail)<;>(conv=>whnf)))
   all_goals (try simp only[wQ])
   refine⟨fun h=>h,fun e he=>?_⟩
   change e<3 at he
   rcases(by omega:e=0∨e=1∨e=2) with rfl|rfl|rfl<;>rfl
  (conv=>whnf)
  all_goals (try (show _=_;simp only[wQ]))
  all_goals exact Aty
def lC:PT:=C8 [(13,Add),(34,Alg)]
theorem Ads{W:World}(hW:Tabs W):Ct (Fw W) Tryz.prog lC:=(Ab Tryz.call13 (Am7 hW) (Ab Tryz.call34 (Apb hW) Av))
def lE:FuncId→Option Ctr:=Az lC []
theorem Ana{W:World}(hW:Tabs W):Ad (Fw W) Tryz.prog lE:=(Aw (Ads hW))
set_option maxHeartbeats 2000000 in
theorem Adt{W:World}(hW:Tabs W):GoodP (Fw W) Tryz.prog 12 xW:=by
 have hD:=Ads hW
 have hC0:Ad (Fw W) Tryz.prog lE:=(Ana hW)
 refine Ax (D:=lC) (C:=lE) (wr:=(fun _=>false)) rfl Ao hD hC0 Tryz.func12 (fun _ _=>none) ?_
 clear hC0 hD hW
 intro cs p r h hf hp
 split at h
 case h_2=>cases h
 skip
 cases h
 try simp only[A0,Bg,Ak,Go.Vc.lo,Go.Vc.hi,and_true] at hf
 have hT:Alf true=[100,111,32,48,32,105,115,115,117,101,32,107,55,32,51,32,65,66,67,50,51,52,32,55,64,57,61,49,48,46,48,48,32,45]:=rfl
 have hC:Alf false=[99,114,97,115,104,32,49,32,52,32,45,49]:=rfl
 (conv=>whnf)
 refine⟨(),True.intro,?_,?_⟩
 ·exact tL
 (conv=>whnf)
 (repeat' ((first
  |((with_reducible refine aI ?_ ?_);focus (decide))
  |fail)<;>(conv=>whnf)))
 refine⟨true,True.intro,?_,?_⟩
 ·(conv=>whnf)
  (repeat' ((first|with_reducible exact⟨⟩|((with_reducible refine aI ?_ ?_);focus (exact tA))|with_reducible refine iA ?_ ?_|fail)<;>(conv=>whnf)))
  all_goals (try simp only[wQ])
  exact⟨fun h=>h,fun e he=>by obtain rfl:e=0:=(by omega);rfl⟩
 (conv=>whnf)
 (repeat' ((first
  |(exact absurd hT (by with_reducible assumption))
  |((with_reducible refine aI ?_ ?_);focus (decide))
  |(split<;>rename_i hh<;>(try simp only[wS] at hh))
  |fail)<;>(conv=>whnf)))
 refine⟨false,True.intro,?_,?_⟩
 ·(conv=>whnf)
  (repeat' ((first|with_reducible exact⟨⟩|((with_reducible refine aI ?_ ?_);focus (exact tA))|with_reducible refine iA ?_ ?_|fail)<;>(conv=>whnf)))
  all_goals (try simp only[wQ])
  exact⟨fun h=>h,fun e he=>by rcases(by change e<2 at he;omega:e=0∨e=1) with rfl|rfl<;>rfl⟩
 (conv=>whnf)
 (repeat' ((first
  |(exact absurd hC (by with_reducible assumption))
  |((with_reducible refine aI ?_ ?_);focus (decide))
  |(split<;>rename_i hh<;>(try simp only[wS] at hh))
  |with_reducible refine lnI fun hln=>?_
  |fail)<;>(conv=>whnf)))
 all_goals (try (show _=_;simp only[wQ]))
 all_goals rfl
end
end Go.Vc.Z
