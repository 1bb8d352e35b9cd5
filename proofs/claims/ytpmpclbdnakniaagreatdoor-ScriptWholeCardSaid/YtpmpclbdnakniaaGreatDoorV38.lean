/- script.RequestOf: the request of a line. -/
import Derived.Test.YtpmpclbdnakniaaGreatDoorV36
import Derived.Test.YtpmpclbdnakniaaGreatDoorV37
import Derived.Test.YtpmpclbdnakniaaGreatDoorV28
import Derived.Test.YtpmpclbdnakniaaGreatDoorV21
import Derived.Test.YtpmpclbdnakniaaGreatDoorV14
set_option linter.all false
set_option linter.unusedVariables false
set_option linter.unusedSimpArgs false
namespace Go.Vc.Z
open Go Go.Vc Go.Proofs Go.RowKit Go.Pl Go.Lib
noncomputable section
def Ai2:PC:=PC.of (fun x:List UInt8 × Request × Int=>[.str x.1]) (fun x=>Va x.1=x.2∧x.1.length≤1000000) (fun x=>.tup [.agg x.2.1.enc,.int .i64 x.2.2])
theorem Arq{W:World}(hW:Tabs W):GoodP (Fw W) Tryz.prog 26 Ai2:=by
 intro S w cs vs Q hs hv hT
 obtain⟨x,⟨h1,h1'⟩,h2,h3⟩:=hT
 by_cases k1:kindOf ((Aa 32 x.1).getD 0 [])=1
 ·exact Aoy hW S w cs vs Q hs hv ⟨x,⟨h1,h1',k1⟩,h2,h3⟩
 ·by_cases k5:kindOf ((Aa 32 x.1).getD 0 [])=5
  ·exact Ao1 hW S w cs vs Q hs hv ⟨x,⟨h1,h1',k5⟩,h2,h3⟩
  ·exact Aov hW S w cs vs Q hs hv ⟨x,⟨h1,h1',k1,k5⟩,h2,h3⟩
end
end Go.Vc.Z
namespace Go.Vc.Z
open Go Go.Vc Go.Proofs Go.RowKit Go.Pl Go.Lib
@[irreducible] noncomputable def C8(a:Act):List (List UInt8):=
 if a.kind=1 then [[100,111],Lib.itoa a.server,Bu a.request]
 else if a.kind=2 then [116,105,99,107]::a.picks.map Lib.itoa
 else if a.kind=3 then [[102,117,115,101],Lib.itoa a.server,Lib.itoa a.n]
 else if a.kind=4 then [99,114,97,115,104]::Lib.itoa a.server::a.picks.map Lib.itoa
 else [[99,97,108,109],if a.is=true then [121,101,115] else [110,111]]
@[irreducible] noncomputable def Bt(a:Act):List UInt8:=if Af a=true then Lib.join (C8 a) [32] else []
theorem Nq{a:Act}(h:a.kind=1)(hm:Af a=true):(0≤a.server∧a.server<4)∧Ah a.request=true∧a.n=0∧a.picks.length=0∧a.is=false:=by
 unfold Af at hm;rw[if_pos h] at hm
 simp only[Bool.and_eq_true,decide_eq_true_eq,Bool.not_eq_true'] at hm
 exact⟨hm.1.1.1.1,hm.1.1.1.2,hm.1.1.2,hm.1.2,hm.2⟩
theorem Nr{a:Act}(h:a.kind=3)(hm:Af a=true):(0≤a.server∧a.server<4)∧(0≤a.n∧a.n≤1000000)∧a.request=Ay∧a.picks.length=0∧a.is=false:=by
 unfold Af at hm;rw[if_neg (by omega),if_neg (by omega),if_pos h] at hm
 simp only[Bool.and_eq_true,decide_eq_true_eq,Bool.not_eq_true',Bb] at hm
 exact⟨hm.1.1.1.1,hm.1.1.1.2,hm.1.1.2,hm.1.2,hm.2⟩
theorem Yo{a:Act}(h:a.kind=5)(hm:Af a=true):a.server=0∧a.request=Ay∧a.n=0∧a.picks.length=0:=by
 unfold Af at hm;rw[if_neg (by omega),if_neg (by omega),if_neg (by omega),if_neg (by omega),if_pos h] at hm
 simp only[Bool.and_eq_true,decide_eq_true_eq,Bb] at hm
 exact⟨hm.1.1.1,hm.1.1.2,hm.1.2,hm.2⟩
theorem short_zero{r:Request}(h:r=Ay):D5 r:=by rw[h];exact⟨Nat.zero_le _,Nat.zero_le _⟩
theorem Tm{a:Act}(h:Ax [.agg a.enc]):Ax [.agg a.request.enc]:=by
 obtain⟨⟨_,_,h0,h1,h2,h3,h4,h5,h6,h7,h8,h9,h10,h11,_⟩,_⟩:=h
 exact⟨⟨h0,h1,h2,h3,h4,h5,h6,h7,h8,h9,h10,h11,True.intro⟩,True.intro⟩
theorem Ns{r:Request}(hf:Ax [.agg r.enc]):(Bu r).length≤20000:=by
 unfold Bu;split
 ·exact Acg (by assumption) hf
 ·exact Nat.zero_le _
theorem Ao2(a b:List UInt8):(Lib.join [a,b] [32]).length=a.length+b.length+1:=by
 simp[Lib.join];omega
theorem Av7(a b c:List UInt8):(Lib.join [a,b,c] [32]).length=a.length+b.length+c.length+2:=by
 simp[Lib.join];omega
noncomputable section
set_option maxRecDepth 100000
attribute [local irreducible] inK Utf8.decode Utf8.encode Lib.itoa Pl.worth Pl.allDig
attribute [local irreducible] Lib.join Bw Aa
def Arr:PC:=PC.of (fun a:Act=>[.agg a.enc]) (fun a=>Af a=true∧a.kind=1∧D5 a.request) (fun a=>.str (sS (Bt a)))
def Ov:PT:=C2 [(24,Ul),(36,Yg),(46,Kz),(62,Qv)]
theorem Rc{W:World}(hW:Tabs W):Cl (Fw W) Tryz.prog Ov:=(Ab Tryz.call24 (aG hW) (Ab Tryz.call36 (lF hW) (Ab Tryz.call46 (Ep hW) (Ab Tryz.call62 (Mg hW) As))))
def Ha:FuncId→Option Ctr:=Aw Ov []
theorem Un{W:World}(hW:Tabs W):Ad (Fw W) Tryz.prog Ha:=(Au (Rc hW))
def Ars:Act→Nat→Option LR:=fun a i=>cond (Nat.beq i 15) (some (.unroll 1)) (none)
set_option maxHeartbeats 2000000 in
theorem Art{W:World}(hW:Tabs W):GoodP (Fw W) Tryz.prog 34 Arr:=by
 have hD:=Rc hW
 have hC0:∀ a:Act,Ad (Fw W) Tryz.prog Ha:=fun a=>(Un hW)
 refine Ar (D:=Ov) (C:=fun a=>Ha) (wr:=(fun _=>false)) rfl Ap hD hC0 Tryz.func34 (Ars) (fun _=>rfl) ?_
 intro a hf hp
 obtain⟨hm,kk,hsh⟩:=hp
 obtain⟨f1,f2,f3,f4,f5⟩:=Nq kk hm
 have hlr:=Ns (Tm hf)
 clear hf
 have hno: ¬Af a=false:=by rw[hm];exact Bool.true_eq_false.mp
 have hpk: ¬((0:Nat):Int)<(a.picks.length:Int):=by omega
 have hi:=Bl a.server (by omega) (by omega)
 have hp3:C8 a=[[100,111],Lib.itoa a.server,Bu a.request]:=by unfold C8;rw[if_pos kk]
 have hw:Bt a=Lib.join [[100,111],Lib.itoa a.server,Bu a.request] [32]:=by unfold Bt;rw[if_pos hm,hp3]
 have hjl:(Lib.join [[100,111],Lib.itoa a.server,Bu a.request] [32]).length≤140737488355328:=by
  rw[Av7];simp only[List.length_cons,List.length_nil];omega
 refine⟨a,hsh,?_,?_⟩
 ·exact Ac _
 (conv=>whnf)
 (repeat' ((first
  |(exact absurd (by with_reducible assumption) hno)
  |(exact absurd kk (by with_reducible assumption))
  |((with_reducible refine aI ?_ ?_);focus (first|with_reducible exact⟨⟩|exact tO))
  |(split<;>rename_i hh<;>(try simp only[wS] at hh))
  |fail)<;>(conv=>whnf)))
 refine⟨a.request,hsh,?_,?_⟩
 ·exact Ac _
 (conv=>whnf)
 (repeat' ((first
  |((with_reducible refine aI ?_ ?_);focus (first|with_reducible exact⟨⟩|omega))
  |(split<;>rename_i hh<;>(try simp only[wS] at hh))
  |with_reducible refine lnI fun hln=>?_
  |fail)<;>(conv=>whnf)))
 ·exfalso;omega
 ·refine⟨⟨by omega,fun e he=>?_⟩,?_⟩
  ·rcases(by omega:e=0∨e=1∨e=2) with rfl|rfl|rfl<;>rfl
  refine⟨(([[100,111],Lib.itoa a.server,Bu a.request],[32]):List (List UInt8) × List UInt8),⟨hjl,(nB rfl)⟩,?_,?_⟩
  ·(conv=>whnf)
   (repeat' ((first|with_reducible exact⟨⟩|((with_reducible refine aI ?_ ?_);focus (exact tA))|with_reducible refine iA ?_ ?_|fail)<;>(conv=>whnf)))
   all_goals (try simp only[wQ])
   all_goals try exact⟨rfl,rfl,fun h=>h,fun e he=>by rcases(by omega:e=0∨e=1∨e=2) with rfl|rfl|rfl<;>rfl⟩
   all_goals try (refine⟨fun h=>h,fun e he=>?_⟩;rcases(by omega:e=0∨e=1∨e=2) with rfl|rfl|rfl<;>rfl)
  (conv=>whnf)
  all_goals (try (show _=_;simp only[wQ]))
  all_goals (rw[hw];done)
def Aru:PC:=PC.of (fun a:Act=>[.agg a.enc]) (fun a=>Af a=true∧a.kind=3) (fun a=>.str (sS (Bt a)))
def Arv:Act→Nat→Option LR:=fun a i=>cond (Nat.beq i 15) (some (.unroll 1)) (none)
set_option maxHeartbeats 2000000 in
theorem Arw{W:World}(hW:Tabs W):GoodP (Fw W) Tryz.prog 34 Aru:=by
 have hD:=Rc hW
 have hC0:∀ a:Act,Ad (Fw W) Tryz.prog Ha:=fun a=>(Un hW)
 refine Ar (D:=Ov) (C:=fun a=>Ha) (wr:=(fun _=>false)) rfl Ap hD hC0 Tryz.func34 (Arv) (fun _=>rfl) ?_
 intro a hf hp
 clear hf
 obtain⟨hm,kk⟩:=hp
 obtain⟨f1,f2,f3,f4,f5⟩:=Nr kk hm
 have n1: ¬a.kind=1:=by omega
 have n2: ¬a.kind=2:=by omega
 have hno: ¬Af a=false:=by rw[hm];exact Bool.true_eq_false.mp
 have hi:=Bl a.server (by omega) (by omega)
 have hj:=Bl a.n (by omega) (by omega)
 have hp3:C8 a=[[102,117,115,101],Lib.itoa a.server,Lib.itoa a.n]:=by unfold C8;rw[if_neg n1,if_neg n2,if_pos kk]
 have hw:Bt a=Lib.join [[102,117,115,101],Lib.itoa a.server,Lib.itoa a.n] [32]:=by unfold Bt;rw[if_pos hm,hp3]
 have hjl:(Lib.join [[102,117,115,101],Lib.itoa a.server,Lib.itoa a.n] [32]).length≤140737488355328:=by
  rw[Av7];simp only[List.length_cons,List.length_nil];omega
 refine⟨a,short_zero f3,?_,?_⟩
 ·exact Ac _
 (conv=>whnf)
 (repeat' ((first
  |(exact absurd (by with_reducible assumption) hno)
  |(exact absurd kk (by with_reducible assumption))
  |(exact absurd (by with_reducible assumption) n1)
  |(exact absurd (by with_reducible assumption) n2)
  |((with_reducible refine aI ?_ ?_);focus (first|with_reducible exact⟨⟩|exact tO|omega))
  |(split<;>rename_i hh<;>(try simp only[wS] at hh))
  |with_reducible refine lnI fun hln=>?_
  |fail)<;>(conv=>whnf)))
 ·exfalso;omega
 ·refine⟨⟨by omega,fun e he=>?_⟩,?_⟩
  ·rcases(by omega:e=0∨e=1∨e=2) with rfl|rfl|rfl<;>rfl
  refine⟨(([[102,117,115,101],Lib.itoa a.server,Lib.itoa a.n],[32]):List (List UInt8) × List UInt8),⟨hjl,(nB rfl)⟩,?_,?_⟩
  ·(conv=>whnf)
   (repeat' ((first|with_reducible exact⟨⟩|((with_reducible refine aI ?_ ?_);focus (exact tA))|with_reducible refine iA ?_ ?_|fail)<;>(conv=>whnf)))
   all_goals (try simp only[wQ])
   all_goals try exact⟨rfl,rfl,fun h=>h,fun e he=>by rcases(by omega:e=0∨e=1∨e=2) with rfl|rfl|rfl<;>rfl⟩
   all_goals try (refine⟨fun h=>h,fun e he=>?_⟩;rcases(by omega:e=0∨e=1∨e=2) with rfl|rfl|rfl<;>rfl)
  (conv=>whnf)
  all_goals (try (show _=_;simp only[wQ]))
  all_goals (rw[hw];done)
def Arx:PC:=PC.of (fun a:Act=>[.agg a.enc]) (fun a=>Af a=true∧a.kind=5) (fun a=>.str (sS (Bt a)))
def Ary:Act→Nat→Option LR:=fun a i=>cond (Nat.beq i 15) (some (.unroll 1)) (none)
set_option maxHeartbeats 2000000 in
theorem Arz{W:World}(hW:Tabs W):GoodP (Fw W) Tryz.prog 34 Arx:=by
 have hD:=Rc hW
 have hC0:∀ a:Act,Ad (Fw W) Tryz.prog Ha:=fun a=>(Un hW)
 refine Ar (D:=Ov) (C:=fun a=>Ha) (wr:=(fun _=>false)) rfl Ap hD hC0 Tryz.func34 (Ary) (fun _=>rfl) ?_
 intro a hf hp
 clear hf
 obtain⟨hm,kk⟩:=hp
 obtain⟨f1,f2,f3,f4⟩:=Yo kk hm
 have n1: ¬a.kind=1:=by omega
 have n2: ¬a.kind=2:=by omega
 have n3: ¬a.kind=3:=by omega
 have n4: ¬a.kind=4:=by omega
 have hno: ¬Af a=false:=by rw[hm];exact Bool.true_eq_false.mp
 have hp3:C8 a=[[99,97,108,109],if a.is=true then [121,101,115] else [110,111]]:=by unfold C8;rw[if_neg n1,if_neg n2,if_neg n3,if_neg n4]
 rcases Bool.eq_false_or_eq_true a.is with hi|hi
 ·have hw:Bt a=Lib.join [[99,97,108,109],[121,101,115]] [32]:=by unfold Bt;rw[if_pos hm,hp3,hi];rfl
  have hjl:(Lib.join [[99,97,108,109],[121,101,115]] [32]).length≤140737488355328:=by
   rw[Ao2];decide
  refine⟨a,short_zero f2,?_,?_⟩
  ·exact Ac _
  (conv=>whnf)
  (repeat' ((first
   |(exact absurd (by with_reducible assumption) hno)
   |(exact absurd (by with_reducible assumption) n1)
   |(exact absurd (by with_reducible assumption) n2)
   |(exact absurd (by with_reducible assumption) n3)
   |(exact absurd (by with_reducible assumption) n4)
   |((with_reducible refine aI ?_ ?_);focus (first|with_reducible exact⟨⟩|omega|decide))
   |(split<;>rename_i hh<;>(try simp only[wS] at hh))
   |with_reducible refine lnI fun hln=>?_
   |fail)<;>(conv=>whnf)))
  all_goals try (exfalso;omega)
  all_goals try (exfalso;simp_all;done)
  all_goals (
   refine⟨(([[99,97,108,109],[121,101,115]],[32]):List (List UInt8) × List UInt8),⟨hjl,(nB rfl)⟩,?_,?_⟩
   ·(conv=>whnf)
    (repeat' ((first|with_reducible exact⟨⟩|((with_reducible refine aI ?_ ?_);focus (exact tA))|with_reducible refine iA ?_ ?_|fail)<;>(conv=>whnf)))
    all_goals (try simp only[wQ])
    all_goals try exact⟨rfl,rfl,fun h=>h,fun e he=>by rcases(by omega:e=0∨e=1) with rfl|rfl<;>rfl⟩
    all_goals try (refine⟨fun h=>h,fun e he=>?_⟩;rcases(by omega:e=0∨e=1) with rfl|rfl<;>rfl)
   (conv=>whnf)
   all_goals (try (show _=_;simp only[wQ]))
   all_goals (rw[hw];done))
 ·have hw:Bt a=Lib.join [[99,97,108,109],[110,111]] [32]:=by unfold Bt;rw[if_pos hm,hp3,hi];rfl
  have hjl:(Lib.join [[99,97,108,109],[110,111]] [32]).length≤140737488355328:=by
   rw[Ao2];decide
  refine⟨a,short_zero f2,?_,?_⟩
  ·exact Ac _
  (conv=>whnf)
  (repeat' ((first
   |(exact absurd (by with_reducible assumption) hno)
   |(exact absurd (by with_reducible assumption) n1)
   |(exact absurd (by with_reducible assumption) n2)
   |(exact absurd (by with_reducible assumption) n3)
   |(exact absurd (by with_reducible assumption) n4)
   |((with_reducible refine aI ?_ ?_);focus (first|with_reducible exact⟨⟩|omega|decide))
   |(split<;>rename_i hh<;>(try simp only[wS] at hh))
   |with_reducible refine lnI fun hln=>?_
   |fail)<;>(conv=>whnf)))
  all_goals try (exfalso;omega)
  all_goals try (exfalso;simp_all;done)
  all_goals (
   refine⟨(([[99,97,108,109],[110,111]],[32]):List (List UInt8) × List UInt8),⟨hjl,(nB rfl)⟩,?_,?_⟩
   ·(conv=>whnf)
    (repeat' ((first|with_reducible exact⟨⟩|((with_reducible refine aI ?_ ?_);focus (exact tA))|with_reducible refine iA ?_ ?_|fail)<;>(conv=>whnf)))
    all_goals (try simp only[wQ])
    all_goals try exact⟨rfl,rfl,fun h=>h,fun e he=>by rcases(by omega:e=0∨e=1) with rfl|rfl<;>rfl⟩
    all_goals try (refine⟨fun h=>h,fun e he=>?_⟩;rcases(by omega:e=0∨e=1) with rfl|rfl<;>rfl)
   (conv=>whnf)
   all_goals (try (show _=_;simp only[wQ]))
   all_goals (rw[hw];done))
end
end Go.Vc.Z
namespace Go.Vc.Z
open Go Go.Vc Go.Proofs Go.RowKit Go.Pl Go.Lib
theorem Kv{a:Act}(h:Ax [.agg a.enc]):∀ i,i<a.picks.length→ -9223372036854775808≤a.picks.getD i 0∧a.picks.getD i 0≤9223372036854775807:=by
 obtain⟨⟨_,_,_,_,_,_,_,_,_,_,_,_,_,_,_,hp,_⟩,_⟩:=h
 intro i hi
 have h1:=(hp.2 i hi).2
 exact Am.1 h1.1
theorem Tn{a:Act}(h:a.kind=2)(hm:Af a=true):a.picks.length≤1000∧a.server=0∧a.request=Ay∧a.n=0∧a.is=false:=by
 unfold Af at hm;rw[if_neg (by omega),if_pos h] at hm
 simp only[Bool.and_eq_true,decide_eq_true_eq,Bool.not_eq_true',Bb] at hm
 exact⟨hm.1.1.1.1,hm.1.1.1.2,hm.1.1.2,hm.1.2,hm.2⟩
theorem Qf{a:Act}(h:a.kind=4)(hm:Af a=true):a.picks.length≤1000∧(0≤a.server∧a.server<4)∧a.request=Ay∧a.n=0∧a.is=false:=by
 unfold Af at hm;rw[if_neg (by omega),if_neg (by omega),if_neg (by omega),if_pos h] at hm
 simp only[Bool.and_eq_true,decide_eq_true_eq,Bool.not_eq_true',Bb] at hm
 exact⟨hm.1.1.1.2,hm.1.1.1.1,hm.1.1.2,hm.1.2,hm.2⟩
theorem Le{l:List Int}(h:∀ i,i<l.length→ -9223372036854775808≤l.getD i 0∧l.getD i 0≤9223372036854775807):∀ s ∈ l.map Lib.itoa,s.length≤200:=by
 intro s hs
 obtain⟨n,hn,rfl⟩:=List.mem_map.1 hs
 obtain⟨i,hi,rfl⟩:=List.getElem_of_mem hn
 have:=h i hi
 rw[List.getD_eq_getElem?_getD,List.getElem?_eq_getElem hi] at this
 have:=Bl l[i] this.1 this.2
 omega
noncomputable section
set_option maxRecDepth 100000
attribute [local irreducible] inK Utf8.decode Utf8.encode Lib.itoa Pl.worth Pl.allDig
attribute [local irreducible] Lib.join Bw Aa
def LAl(a:Act)(B:List (List UInt8)):LoopSpec:={
 α:=Nat × List (List UInt8)
 keep:=[3,48,49,50]
 vals x:=[Aw8 2 x.2,slE 1 Ack a.picks,.int .i64 a.picks.length,.int .i64 x.1]
 heap x:=[.dead,.dead,Aw7 x.2]
 ok x:=x.1≤a.picks.length∧x.2=B++(a.picks.take x.1).map Lib.itoa
 μ x:=a.picks.length - x.1 }
def Ar0:PC:=PC.of (fun a:Act=>[.agg a.enc]) (fun a=>Af a=true∧a.kind=2) (fun a=>.str (sS (Bt a)))
def Ar1:Act→Nat→Option LR:=fun a i=>cond (Nat.beq i 15) (some (.inv (LAl a ([[116,105,99,107]])))) (none)
set_option maxHeartbeats 2000000 in
theorem Ar2{W:World}(hW:Tabs W):GoodP (Fw W) Tryz.prog 34 Ar0:=by
 have hD:=Rc hW
 have hC0:∀ a:Act,Ad (Fw W) Tryz.prog Ha:=fun a=>(Un hW)
 refine Ar (D:=Ov) (C:=fun a=>Ha) (wr:=(fun _=>false)) rfl Ap hD hC0 Tryz.func34 (Ar1) (fun _=>rfl) ?_
 intro a hf hp
 have hpf:=Le (Kv hf)
 clear hf
 obtain⟨hm,kk⟩:=hp
 obtain⟨f1,f2,f3,f4,f5⟩:=Tn kk hm
 have n1: ¬a.kind=1:=by omega
 skip
 skip
 have hno: ¬Af a=false:=by rw[hm];exact Bool.true_eq_false.mp
 skip
 have hw:Bt a=Lib.join ([[116,105,99,107]]++a.picks.map Lib.itoa) [32]:=by unfold Bt C8;rw[if_pos hm,if_neg n1];rw[if_pos kk];rfl
 have hall:∀ s ∈ [[116,105,99,107]]++a.picks.map Lib.itoa,s.length≤200:=fun s hs=>by
  rcases List.mem_append.1 hs with h|h
  ·simp only[List.mem_cons,List.not_mem_nil,or_false] at h
   rw[h];decide
  ·exact hpf s h
 refine⟨a,short_zero f3,?_,?_⟩
 ·exact Ac _
 (conv=>whnf)
 (repeat' ((first
  |(exact absurd (by with_reducible assumption) hno)
  |(exact absurd kk (by with_reducible assumption))
  |(exact absurd (by with_reducible assumption) n1)
  |(split<;>rename_i hh<;>(try simp only[wS] at hh))
  |with_reducible refine lnI fun hln=>?_
  |fail)<;>(conv=>whnf)))
 refine⟨?_,fun(x:Nat × List (List UInt8)) hx=>?_⟩
 ·(conv=>whnf)
  refine⟨((0,[[116,105,99,107]]):Nat × List (List UInt8)),[1],?_,⟨⟨rfl,(nB rfl),rfl⟩,?_,?_⟩⟩
  ·exact⟨Nat.zero_le _,by simp⟩
  ·exact tL
  ·(conv=>whnf)
   (repeat' ((first|with_reducible exact⟨⟩|((with_reducible refine aI ?_ ?_);focus (exact tA))|with_reducible refine iB ?_ ?_|fail)<;>(conv=>whnf)))
   all_goals (try simp only[wQ])
   intro e he
   have he:e<1:=he
   obtain rfl:e=0:=by omega
   exact⟨rfl,rfl⟩
 ·obtain⟨i,L⟩:=x
  obtain⟨h1,h2⟩:=hx
  change i≤a.picks.length at h1
  change L=[[116,105,99,107]]++(a.picks.take i).map Lib.itoa at h2
  have hlen:L.length=1+i:=by rw[h2];simp;omega
  have hstep:i<a.picks.length→L++[Lib.itoa (a.picks.getD (Int.toNat (i:Int)) default)]=[[116,105,99,107]]++(a.picks.take (i+1)).map Lib.itoa:=fun h=>by
   rw[h2,List.append_assoc,List.take_add_one,List.map_append,List.getElem?_eq_getElem h]
   have:a.picks.getD (Int.toNat (i:Int)) default=a.picks[i]:=by
    rw[show Int.toNat (i:Int)=i from rfl,List.getD_eq_getElem?_getD,List.getElem?_eq_getElem h];rfl
   rw[this];rfl
  rcases L with _|⟨s,L⟩
  ·exact absurd hlen (by simp;omega)
  ·have hlen2:L.length+1=1+i:=hlen
   (conv=>whnf)
   (repeat' ((first
    |((with_reducible refine aI ?_ ?_);focus (first|with_reducible exact⟨⟩|((with_reducible refine⟨?_,?_,?_⟩)<;>first|(intro e he;rcases(by omega:e=0∨e=1∨e=2∨e=3∨e=4∨e=5) with rfl|rfl|rfl|rfl|rfl|rfl<;>first|rfl|(exfalso;omega))|(with_reducible assumption)|omega|((with_reducible show Aq _ _);simp only[Aq,ty2,ty3,ty4,ty5,ty9,Cw,Co,Cx,Cp,Cu,Cy,Cv,Cz,Bm,Bj,Bn,Bi,Bo,Bp,Bq,List.length_cons,List.length_nil];first|omega|(refine⟨?_,?_⟩<;>omega)))|omega|exact tK))
    |(split<;>rename_i hh<;>(try simp only[wS] at hh))
    |fail)<;>(conv=>whnf)))
   ·have hi2:i<a.picks.length:=Int.ofNat_lt.1 (by assumption)
    (conv=>whnf)
    refine⟨((i+1,s::L++[Lib.itoa (a.picks.getD (Int.toNat (i:Int)) default)]):Nat × List (List UInt8)),[4],?_,⟨⟨rfl,(nB rfl),rfl⟩,?_,?_⟩⟩
    ·exact⟨⟨show i+1≤a.picks.length by omega,hstep hi2⟩,show a.picks.length - (i+1)<a.picks.length - i by omega⟩
    ·(conv=>whnf)
     (repeat' ((first|with_reducible exact⟨⟩|((with_reducible refine aI ?_ ?_);focus (exact tA))|with_reducible refine iA ?_ ?_|fail)<;>(conv=>whnf)))
     all_goals (try simp only[wQ])
     all_goals (try first|omega|exact⟨fun h=>h,fun _ _=>True.intro⟩)
     all_goals (try first|exact⟨by simp,Or.inl trivial⟩)
     all_goals (try simp)
    ·(conv=>whnf)
     (repeat' ((first|with_reducible exact⟨⟩|((with_reducible refine aI ?_ ?_);focus (exact tA))|with_reducible refine iB ?_ ?_|fail)<;>(conv=>whnf)))
     all_goals (try simp only[wQ])
     exact⟨by simp,fun e he=>⟨Xn (l:=s::L) rfl (fun _ _=>rfl) rfl (by simpa using he),rfl⟩⟩
   ·have hie:i=a.picks.length:=by omega
    rw[hie,List.take_length] at h2
    refine⟨⟨by omega,fun e he=>rfl⟩,?_⟩
    refine⟨((s::L,[32]):List (List UInt8) × List UInt8),⟨by have:=K0 [32] 200 (s::L) (by rw[h2];exact hall);simp at this;show(Lib.join (s::L) [32]).length≤_;omega,by show(s::L).length≤_;simp;omega⟩,?_,?_⟩
    ·exact tL
    (conv=>whnf)
    all_goals (try (show _=_;simp only[wQ]))
    all_goals (rw[hw,h2];done)
def Ar3:PC:=PC.of (fun a:Act=>[.agg a.enc]) (fun a=>Af a=true∧a.kind=4) (fun a=>.str (sS (Bt a)))
def Ar4:Act→Nat→Option LR:=fun a i=>cond (Nat.beq i 15) (some (.inv (LAl a ([[99,114,97,115,104],Lib.itoa a.server])))) (none)
set_option maxHeartbeats 2000000 in
theorem Ar5{W:World}(hW:Tabs W):GoodP (Fw W) Tryz.prog 34 Ar3:=by
 have hD:=Rc hW
 have hC0:∀ a:Act,Ad (Fw W) Tryz.prog Ha:=fun a=>(Un hW)
 refine Ar (D:=Ov) (C:=fun a=>Ha) (wr:=(fun _=>false)) rfl Ap hD hC0 Tryz.func34 (Ar4) (fun _=>rfl) ?_
 intro a hf hp
 have hpf:=Le (Kv hf)
 clear hf
 obtain⟨hm,kk⟩:=hp
 obtain⟨f1,f2,f3,f4,f5⟩:=Qf kk hm
 have n1: ¬a.kind=1:=by omega
 have n2: ¬a.kind=2:=by omega
 have n3: ¬a.kind=3:=by omega
 have hno: ¬Af a=false:=by rw[hm];exact Bool.true_eq_false.mp
 have hi:=Bl a.server (by omega) (by omega)
 have hw:Bt a=Lib.join ([[99,114,97,115,104],Lib.itoa a.server]++a.picks.map Lib.itoa) [32]:=by unfold Bt C8;rw[if_pos hm,if_neg n1];rw[if_neg n2,if_neg n3,if_pos kk];rfl
 have hall:∀ s ∈ [[99,114,97,115,104],Lib.itoa a.server]++a.picks.map Lib.itoa,s.length≤200:=fun s hs=>by
  rcases List.mem_append.1 hs with h|h
  ·simp only[List.mem_cons,List.not_mem_nil,or_false] at h
   rcases h with h|h<;>rw[h];decide;omega
  ·exact hpf s h
 refine⟨a,short_zero f3,?_,?_⟩
 ·exact Ac _
 (conv=>whnf)
 (repeat' ((first
  |(exact absurd (by with_reducible assumption) hno)
  |(exact absurd kk (by with_reducible assumption))
  |(exact absurd (by with_reducible assumption) n1)
  |(exact absurd (by with_reducible assumption) n2)
  |(exact absurd (by with_reducible assumption) n3)
  |((with_reducible refine aI ?_ ?_);focus (with_reducible exact⟨⟩))
  |(split<;>rename_i hh<;>(try simp only[wS] at hh))
  |with_reducible refine lnI fun hln=>?_
  |fail)<;>(conv=>whnf)))
 refine⟨?_,fun(x:Nat × List (List UInt8)) hx=>?_⟩
 ·(conv=>whnf)
  refine⟨((0,[[99,114,97,115,104],Lib.itoa a.server]):Nat × List (List UInt8)),[1],?_,⟨⟨rfl,(nB rfl),rfl⟩,?_,?_⟩⟩
  ·exact⟨Nat.zero_le _,by simp⟩
  ·exact tL
  ·(conv=>whnf)
   (repeat' ((first|with_reducible exact⟨⟩|((with_reducible refine aI ?_ ?_);focus (exact tA))|with_reducible refine iB ?_ ?_|fail)<;>(conv=>whnf)))
   all_goals (try simp only[wQ])
   intro e he
   have he:e<2:=he
   rcases(by omega:e=0∨e=1) with rfl|rfl<;>exact⟨rfl,rfl⟩
 ·obtain⟨i,L⟩:=x
  obtain⟨h1,h2⟩:=hx
  change i≤a.picks.length at h1
  change L=[[99,114,97,115,104],Lib.itoa a.server]++(a.picks.take i).map Lib.itoa at h2
  have hlen:L.length=2+i:=by rw[h2];simp;omega
  have hstep:i<a.picks.length→L++[Lib.itoa (a.picks.getD (Int.toNat (i:Int)) default)]=[[99,114,97,115,104],Lib.itoa a.server]++(a.picks.take (i+1)).map Lib.itoa:=fun h=>by
   rw[h2,List.append_assoc,List.take_add_one,List.map_append,List.getElem?_eq_getElem h]
   have:a.picks.getD (Int.toNat (i:Int)) default=a.picks[i]:=by
    rw[show Int.toNat (i:Int)=i from rfl,List.getD_eq_getElem?_getD,List.getElem?_eq_getElem h];rfl
   rw[this];rfl
  rcases L with _|⟨s,L⟩
  ·exact absurd hlen (by simp;omega)
  ·have hlen2:L.length+1=2+i:=hlen
   (conv=>whnf)
   (repeat' ((first
    |((with_reducible refine aI ?_ ?_);focus (first|with_reducible exact⟨⟩|((with_reducible refine⟨?_,?_,?_⟩)<;>first|(intro e he;rcases(by omega:e=0∨e=1∨e=2∨e=3∨e=4∨e=5) with rfl|rfl|rfl|rfl|rfl|rfl<;>first|rfl|(exfalso;omega))|(with_reducible assumption)|omega|((with_reducible show Aq _ _);simp only[Aq,ty2,ty3,ty4,ty5,ty9,Cw,Co,Cx,Cp,Cu,Cy,Cv,Cz,Bm,Bj,Bn,Bi,Bo,Bp,Bq,List.length_cons,List.length_nil];first|omega|(refine⟨?_,?_⟩<;>omega)))|omega|exact tK))
    |(split<;>rename_i hh<;>(try simp only[wS] at hh))
    |fail)<;>(conv=>whnf)))
   ·have hi2:i<a.picks.length:=Int.ofNat_lt.1 (by assumption)
    (conv=>whnf)
    refine⟨((i+1,s::L++[Lib.itoa (a.picks.getD (Int.toNat (i:Int)) default)]):Nat × List (List UInt8)),[4],?_,⟨⟨rfl,(nB rfl),rfl⟩,?_,?_⟩⟩
    ·exact⟨⟨show i+1≤a.picks.length by omega,hstep hi2⟩,show a.picks.length - (i+1)<a.picks.length - i by omega⟩
    ·(conv=>whnf)
     (repeat' ((first|with_reducible exact⟨⟩|((with_reducible refine aI ?_ ?_);focus (exact tA))|with_reducible refine iA ?_ ?_|fail)<;>(conv=>whnf)))
     all_goals (try simp only[wQ])
     all_goals (try first|omega|exact⟨fun h=>h,fun _ _=>True.intro⟩)
     all_goals (try first|exact⟨by simp,Or.inl trivial⟩)
     all_goals (try simp)
    ·(conv=>whnf)
     (repeat' ((first|with_reducible exact⟨⟩|((with_reducible refine aI ?_ ?_);focus (exact tA))|with_reducible refine iB ?_ ?_|fail)<;>(conv=>whnf)))
     all_goals (try simp only[wQ])
     exact⟨by simp,fun e he=>⟨Xn (l:=s::L) rfl (fun _ _=>rfl) rfl (by simpa using he),rfl⟩⟩
   ·have hie:i=a.picks.length:=by omega
    rw[hie,List.take_length] at h2
    refine⟨⟨by omega,fun e he=>rfl⟩,?_⟩
    refine⟨((s::L,[32]):List (List UInt8) × List UInt8),⟨by have:=K0 [32] 200 (s::L) (by rw[h2];exact hall);simp at this;show(Lib.join (s::L) [32]).length≤_;omega,by show(s::L).length≤_;simp;omega⟩,?_,?_⟩
    ·exact tL
    (conv=>whnf)
    all_goals (try (show _=_;simp only[wQ]))
    all_goals (rw[hw,h2];done)
end
end Go.Vc.Z
namespace Go.Vc.Z
open Go Go.Vc Go.Proofs Go.RowKit Go.Pl Go.Lib
theorem D9{a:Act}(h:Af a=true):a.kind=1∨a.kind=2∨a.kind=3∨a.kind=4∨a.kind=5:=by
 unfold Af at h
 by_cases h1:a.kind=1
 ·exact .inl h1
 by_cases h2:a.kind=2
 ·exact .inr (.inl h2)
 by_cases h3:a.kind=3
 ·exact .inr (.inr (.inl h3))
 by_cases h4:a.kind=4
 ·exact .inr (.inr (.inr (.inl h4)))
 by_cases h5:a.kind=5
 ·exact .inr (.inr (.inr (.inr h5)))
 rw[if_neg h1,if_neg h2,if_neg h3,if_neg h4,if_neg h5] at h;cases h
theorem Ar6{a:Act}(h:Af a=false):Bt a=[]:=by unfold Bt;rw[h];rfl
noncomputable section
set_option maxRecDepth 100000
attribute [local irreducible] inK Utf8.decode Utf8.encode Lib.itoa Pl.worth Pl.allDig
attribute [local irreducible] Lib.join Bw Aa
def Ar7:PC:=PC.of (fun a:Act=>[.agg a.enc]) (fun a=>Af a=false∧D5 a.request) (fun a=>.str (sS (Bt a)))
def Ao3:Act→Nat→Option LR:=fun a i=>cond (Nat.beq i 15) (some (.unroll 1)) (none)
set_option maxHeartbeats 2000000 in
theorem Ao4{W:World}(hW:Tabs W):GoodP (Fw W) Tryz.prog 34 Ar7:=by
 have hD:=Rc hW
 have hC0:∀ a:Act,Ad (Fw W) Tryz.prog Ha:=fun a=>(Un hW)
 refine Ar (D:=Ov) (C:=fun a=>Ha) (wr:=(fun _=>false)) rfl Ap hD hC0 Tryz.func34 (Ao3) (fun _=>rfl) ?_
 intro a hf hp
 clear hf
 obtain⟨hm,hsh⟩:=hp
 have hno: ¬Af a=true:=by rw[hm];exact Bool.false_ne_true
 have hw:Bt a=[]:=Ar6 hm
 refine⟨a,hsh,?_,?_⟩
 ·exact Ac _
 (conv=>whnf)
 (repeat' ((first
  |(exact absurd (by with_reducible assumption) hno)
  |(split<;>rename_i hh<;>(try simp only[wS] at hh))
  |fail)<;>(conv=>whnf)))
 all_goals (try (show _=_;simp only[wQ]))
 all_goals (rw[hw];done)
def aK:PC:=PC.of (fun a:Act=>[.agg a.enc]) (fun a=>D5 a.request) (fun a=>.str (sS (Bt a)))
theorem xI{W:World}(hW:Tabs W):GoodP (Fw W) Tryz.prog 34 aK:=by
 intro S w cs vs Q hs hv hT
 obtain⟨a,h1,h2,h3⟩:=hT
 cases hm:Af a
 ·exact Ao4 hW S w cs vs Q hs hv ⟨a,⟨hm,h1⟩,h2,h3⟩
 ·rcases D9 hm with k|k|k|k|k
  ·exact Art hW S w cs vs Q hs hv ⟨a,⟨hm,k,h1⟩,h2,h3⟩
  ·exact Ar2 hW S w cs vs Q hs hv ⟨a,⟨hm,k⟩,h2,h3⟩
  ·exact Arw hW S w cs vs Q hs hv ⟨a,⟨hm,k⟩,h2,h3⟩
  ·exact Ar5 hW S w cs vs Q hs hv ⟨a,⟨hm,k⟩,h2,h3⟩
  ·exact Arz hW S w cs vs Q hs hv ⟨a,⟨hm,k⟩,h2,h3⟩
end
end Go.Vc.Z
namespace Go.Vc.Z
open Go Go.Vc Go.Proofs Go.RowKit Go.Pl Go.Lib
theorem Aev{n:Int}(h0: -9223372036854775808≤n)(h1:n≤9223372036854775807):rpV (Lib.itoa n)=n:=by
 by_cases hs:Lib.itoa n=[45,57,50,50,51,51,55,50,48,51,54,56,53,52,55,55,53,56,48,56]
 ·rw[A2h hs]
  unfold Lib.itoa at hs
  split at hs
  ·injection hs with _ hs
   have:=congrArg worth hs
   rw[F3] at this
   have e:worth [57,50,50,51,51,55,50,48,51,54,56,53,52,55,55,53,56,48,56]=9223372036854775808:=by decide
   rw[e] at this
   omega
  ·have:=congrArg allDig hs
   rw[Ed] at this
   exact absurd this (by decide)
 ·rw[A2i hs]
  unfold Lib.itoa at hs ⊢
  split
  ·rename_i hn
   have hp:Di 45 (45::decDigits n.natAbs)=decDigits n.natAbs:=by unfold Di;rw[if_pos (by simp[Lib.hasPrefix,List.isPrefixOf])];rfl
   rw[if_pos hn] at hs
   have hw:=F3 n.natAbs
   have hz: ¬45::decDigits n.natAbs=[45,48]:=fun e=>by
    injection e with _ e
    have:=congrArg worth e
    rw[hw] at this
    have e2:worth [48]=0:=by decide
    omega
   have hm:n≠ -9223372036854775808:=fun e=>hs (by
    subst e
    show 45::decDigits 9223372036854775808=_
    have:=Aj4 (s:=[57,50,50,51,51,55,50,48,51,54,56,53,52,55,55,53,56,48,56]) (by decide) (by decide) (fun t h=>by injection h with h _;exact absurd h (by decide))
    rw[show worth [57,50,50,51,51,55,50,48,51,54,56,53,52,55,55,53,56,48,56]=9223372036854775808 by decide] at this
    rw[this])
   rw[A2g hp (Uf _) hz (by rw[hw];omega) (fun e=>by have:=congrArg List.length e;simp at this),hw]
   show -((n.natAbs:Nat):Int)=n
   omega
  ·rename_i hn
   have hp:Di 45 (decDigits n.toNat)=decDigits n.toNat:=by
    refine An2 fun _ h=>?_
    have hd:=Dw.1 (Ed n.toNat)
    cases hc:decDigits n.toNat with
    |nil=>exact absurd hc (yX _)
    |cons c t=>
     rw[hc] at h hd
     have:=hd c (by simp)
     have h:c=45:=h
     rw[h] at this
     exact absurd this.1 (by decide)
   have hw:=F3 n.toNat
   have hz: ¬decDigits n.toNat=[45,48]:=fun e=>by
    have:=Ed n.toNat
    rw[e] at this
    exact absurd this (by decide)
   rw[A2f hp (Uf _) hz (by rw[hw];omega) rfl,hw]
   show((n.toNat:Nat):Int)=n
   omega
end Go.Vc.Z
namespace Go.Vc.Z
open Go Go.Vc Go.Proofs Go.RowKit Go.Pl Go.Lib
theorem Aew:∀ (l:List UInt8) (acc:Nat),allDig l=true→acc*10 ^ l.length+worth l≤9223372036854775808→Lib.parseUint10 acc l= .ok (acc*10 ^ l.length+worth l)
 |[],acc,_,_=>by simp[Lib.parseUint10,worth]
 |c::r,acc,hd,hl=>by
  have hc:=Dw.1 hd c (by simp)
  have hr:allDig r=true:=Dw.2 fun d hm=>Dw.1 hd d (List.mem_cons_of_mem _ hm)
  have e:acc*10 ^ (c::r).length+worth (c::r)=(acc*10+(c.toNat - 48))*10 ^ r.length+worth r:=by
   rw[V5,List.length_cons,Nat.pow_succ,Nat.add_mul,Nat.mul_assoc acc 10,Nat.mul_comm 10,Nat.add_assoc]
  rw[e] at hl ⊢
  have hk:0<10 ^ r.length:=Nat.pow_pos (by decide)
  have h1:acc*10+(c.toNat - 48)≤(acc*10+(c.toNat - 48))*10 ^ r.length:=Nat.le_mul_of_pos_right _ hk
  rw[Lib.parseUint10,if_pos hc,if_neg (by omega),if_neg (by omega)]
  exact Aew r _ hr hl
theorem Ao5{u:Nat}(h:u≤9223372036854775808):Lib.parseMag (decDigits u)= .ok u:=by
 have:=Aew (decDigits u) 0 (Ed u) (by rw[F3];omega)
 rw[F3,Nat.zero_mul,Nat.zero_add] at this
 unfold Lib.parseMag;rw[if_neg (yX u),this]
theorem Ao6{D:List UInt8}{u:Nat}(h:Lib.parseMag D= .ok u)(hu:u≤9223372036854775808):Lib.atoiAll (45::D)= .ok (-(u:Int)):=by
 rw[Lib.atoiAll_minus,h]
 show(if 9223372036854775808<u then _ else _)=_
 rw[if_neg (by omega)]
theorem Ao7{c:UInt8}{t:List UInt8}{u:Nat}(hc:48≤c.toNat)(h:Lib.parseMag (c::t)= .ok u)(hu:u<9223372036854775808):Lib.atoiAll (c::t)= .ok (u:Int):=by
 rw[Lib.atoiAll_plain c t (by omega) (by omega),h]
 show(if 9223372036854775808≤u then _ else _)=_
 rw[if_neg (by omega)]
theorem nD{n:Int}(h0: -9223372036854775808≤n)(h1:n≤9223372036854775807):Dp (Lib.itoa n)=n:=by
 have e:Lib.atoiAll (Lib.itoa n)= .ok n:=by
  unfold Lib.itoa
  split
  ·rename_i hn
   rw[Ao6 (Ao5 (show n.natAbs≤9223372036854775808 by omega)) (by omega)]
   exact congrArg _ (by omega)
  ·rename_i hn
   have hm:=Ao5 (show n.toNat≤9223372036854775808 by omega)
   have hd:=Dw.1 (Ed n.toNat)
   cases hc:decDigits n.toNat with
   |nil=>exact absurd hc (yX _)
   |cons c t=>
    rw[hc] at hm hd
    rw[Ao7 (hd c (by simp)).1 hm (by omega)]
    exact congrArg _ (by omega)
 unfold Dp;rw[e]
end Go.Vc.Z
namespace Go.Vc.Z
open Go Go.Vc Go.Proofs Go.RowKit Go.Pl Go.Lib
noncomputable section
abbrev Gk:Act:=⟨0,0,Ay,0,[],false⟩
@[irreducible] def fitA(a:Act):Prop:=∀ n ∈ a.picks, -9223372036854775808≤n∧n≤9223372036854775807
open Classical in
@[irreducible] def dD(s:List UInt8):Act × Int:=if h:∃ a,Af a=true∧fitA a∧Bt a=s then(h.choose,0) else(Gk,4)
theorem zX{s:List UInt8}(h:∀ a,Af a=true→fitA a→Bt a=s→False):dD s=(Gk,4):=by
 unfold dD
 rw[dif_neg]
 rintro⟨a,h1,h2,h3⟩
 exact h a h1 h2 h3
theorem Aex{s:List UInt8}{A:Act}(h1:Af A=true)(h2:fitA A)(h3:Bt A=s)(h:∀ a,Af a=true→fitA a→Bt a=s→A=a):dD s=(A,0):=by
 have hx:∃ a,Af a=true∧fitA a∧Bt a=s:=⟨A,h1,h2,h3⟩
 unfold dD
 rw[dif_pos hx,←h _ hx.choose_spec.1 hx.choose_spec.2.1 hx.choose_spec.2.2]
theorem Md{k s n:Int}{r:Request}{b:Bool}:fitA ⟨k,s,r,n,[],b⟩:=by
 unfold fitA;intro m hm;cases hm
theorem Uo{k s n:Int}{r:Request}{b:Bool}{f:List UInt8→Int}(hf:∀ w, -9223372036854775808≤f w∧f w≤9223372036854775807){l:List (List UInt8)}:fitA ⟨k,s,r,n,l.map f,b⟩:=by
 unfold fitA
 intro m hm
 obtain⟨w,_,rfl⟩:=List.mem_map.1 hm
 exact hf w
theorem Qg(w:List UInt8): -9223372036854775808≤Dp w∧Dp w≤9223372036854775807:=by
 unfold Dp
 split
 ·exact Lib.atoiAll_bounds (by assumption)
 ·exact Lib.atoiSat_bounds _
 ·omega
theorem Agu(n:Int):(32:UInt8) ∉ Lib.itoa n:=Gj (by decide) (by decide) n
theorem Ar8{a:Act}(k:a.kind=1)(hm:Af a=true):Bt a=[100,111]++32::(Lib.itoa a.server++32::Bu a.request):=by
 unfold Bt C8;rw[if_pos hm,if_pos k];simp[Lib.join]
theorem Axq{a:Act}(k:a.kind=1)(hm:Af a=true):Aa 32 (Bt a)=[100,111]::Lib.itoa a.server::Aa 32 (Bu a.request):=by
 rw[Ar8 k hm,Qz (by decide),Qz (Agu _)]
theorem A2l{a:Act}(k:a.kind=2)(hm:Af a=true):Aa 32 (Bt a)=[116,105,99,107]::a.picks.map Lib.itoa:=by
 unfold Bt C8;rw[if_pos hm,if_neg (by omega),if_pos k]
 refine F4 (by simp) fun w hw=>?_
 rcases List.mem_cons.1 hw with h|h
 ·rw[h];decide
 ·obtain⟨n,_,rfl⟩:=List.mem_map.1 h;exact Agu n
theorem A2m{a:Act}(k:a.kind=3)(hm:Af a=true):Aa 32 (Bt a)=[[102,117,115,101],Lib.itoa a.server,Lib.itoa a.n]:=by
 unfold Bt C8;rw[if_pos hm,if_neg (by omega),if_neg (by omega),if_pos k]
 refine F4 (by simp) fun w hw=>?_
 rcases List.mem_cons.1 hw with h|h
 ·rw[h];decide
 ·rcases List.mem_cons.1 h with h|h
  ·rw[h];exact Agu _
  ·rw[List.mem_singleton.1 h];exact Agu _
theorem A2n{a:Act}(k:a.kind=4)(hm:Af a=true):Aa 32 (Bt a)=[99,114,97,115,104]::Lib.itoa a.server::a.picks.map Lib.itoa:=by
 unfold Bt C8;rw[if_pos hm,if_neg (by omega),if_neg (by omega),if_neg (by omega),if_pos k]
 refine F4 (by simp) fun w hw=>?_
 rcases List.mem_cons.1 hw with h|h
 ·rw[h];decide
 ·rcases List.mem_cons.1 h with h|h
  ·rw[h];exact Agu _
  ·obtain⟨n,_,rfl⟩:=List.mem_map.1 h;exact Agu n
theorem Axr{a:Act}(k:a.kind=5)(hm:Af a=true):Bt a=[99,97,108,109]++32::(if a.is=true then [121,101,115] else [110,111]):=by
 unfold Bt C8;rw[if_pos hm,if_neg (by omega),if_neg (by omega),if_neg (by omega),if_neg (by omega)];simp[Lib.join]
theorem A2o{a:Act}(k:a.kind=5)(hm:Af a=true):Aa 32 (Bt a)=[[99,97,108,109],if a.is=true then [121,101,115] else [110,111]]:=by
 rw[Axr k hm,Qz (by decide)]
 cases a.is
 ·rw[if_neg (by decide),Ud (by decide)]
 ·rw[if_pos rfl,Ud (by decide)]
def kwA(k:Int):List UInt8:=if k=1 then [100,111] else if k=2 then [116,105,99,107] else if k=3 then [102,117,115,101] else if k=4 then [99,114,97,115,104] else [99,97,108,109]
theorem Av8{a:Act}(hm:Af a=true):(Aa 32 (Bt a)).getD 0 []=kwA a.kind:=by
 rcases D9 hm with k|k|k|k|k
 ·rw[Axq k hm,k];rfl
 ·rw[A2l k hm,k];rfl
 ·rw[A2m k hm,k];rfl
 ·rw[A2n k hm,k];rfl
 ·rw[A2o k hm,k];rfl
theorem Ao8{s:List UInt8}{a:Act}(hm:Af a=true)(hw:Bt a=s):kwA a.kind=(Aa 32 s).getD 0 []:=by
 rw[←hw,Av8 hm]
theorem A2p{k j:Int}(hk:k=1∨k=2∨k=3∨k=4∨k=5)(hj:j=1∨j=2∨j=3∨j=4∨j=5)(h:kwA k=kwA j):k=j:=by
 rcases hk with rfl|rfl|rfl|rfl|rfl<;>rcases hj with rfl|rfl|rfl|rfl|rfl<;>first|rfl|exact absurd h (by decide)
theorem Ao9{s:List UInt8}{a:Act}{j:Int}(hm:Af a=true)(hw:Bt a=s)(hj:j=1∨j=2∨j=3∨j=4∨j=5)(h:(Aa 32 s).getD 0 []=kwA j):a.kind=j:=
 A2p (D9 hm) hj ((Ao8 hm hw).trans h)
theorem Apa{s:List UInt8}(h1: ¬(Aa 32 s).getD 0 []=[100,111])(h2: ¬(Aa 32 s).getD 0 []=[116,105,99,107])(h3: ¬(Aa 32 s).getD 0 []=[102,117,115,101])(h4: ¬(Aa 32 s).getD 0 []=[99,114,97,115,104])(h5: ¬(Aa 32 s).getD 0 []=[99,97,108,109]):dD s=(Gk,4):=by
 refine zX fun a hm _ hw=>?_
 have h:=Ao8 hm hw
 rcases D9 hm with k|k|k|k|k<;>rw[k] at h
 ·exact h1 h.symm
 ·exact h2 h.symm
 ·exact h3 h.symm
 ·exact h4 h.symm
 ·exact h5 h.symm
theorem aL{l:List Int}(h:l.length=0):l=[]:=List.length_eq_zero_iff.1 h
theorem Re{l:List Int}{f:List UInt8→Int}(hf:∀ n, -9223372036854775808≤n→n≤9223372036854775807→f (Lib.itoa n)=n)(h:∀ n ∈ l, -9223372036854775808≤n∧n≤9223372036854775807):(l.map Lib.itoa).map f=l:=by
 rw[List.map_map]
 refine(List.map_congr_left fun n hn=>?_).trans (List.map_id l)
 exact hf n (h n hn).1 (h n hn).2
@[irreducible] def To(s:List UInt8):List UInt8:=if Lib.hasPrefix s [100,111,32]=true then s.drop 3 else s
@[irreducible] def doP(s:List UInt8):List UInt8:=(Bw 32 (To s)).2.1
@[irreducible] def doR(s:List UInt8):List UInt8:=s.drop (((Aa 32 s).getD 0 []).length+((Aa 32 s).getD 1 []).length+2)
theorem Ar9(s:List UInt8):(doP s).length≤s.length:=by
 unfold doP To
 refine Nat.le_trans (Ue _ _).2 ?_
 split
 ·rw[List.length_drop];omega
 ·exact Nat.le_refl _
theorem A2q{a:Act}(k:a.kind=1)(hm:Af a=true):doP (Bt a)=Bu a.request:=by
 unfold doP To
 rw[Ar8 k hm]
 rw[if_pos (by simp[Lib.hasPrefix,List.isPrefixOf])]
 show(Bw 32 (Lib.itoa a.server++32::Bu a.request)).2.1=_
 rw[Xq (Agu _)]
theorem A2r{a:Act}(k:a.kind=1)(hm:Af a=true):doR (Bt a)=Bu a.request:=by
 unfold doR
 rw[Axq k hm,Ar8 k hm]
 show List.drop (2+(Lib.itoa a.server).length+2) ([100,111]++32::(Lib.itoa a.server++32::Bu a.request))=_
 rw[show([100,111]++32::(Lib.itoa a.server++32::Bu a.request):List UInt8)=([100,111,32]++Lib.itoa a.server++[32])++Bu a.request by simp]
 exact List.drop_left' (by simp;omega)
theorem A2s{a:Act}(k:a.kind=1)(hm:Af a=true):a=⟨1,a.server,a.request,0,[],false⟩:=by
 obtain⟨_,_,f3,f4,f5⟩:=Nq k hm
 cases a;simp only at k f3 f5 f4;subst k f3 f5;rw[aL f4]
theorem A2t{a:Act}(k:a.kind=2)(hm:Af a=true):a=⟨2,0,Ay,0,a.picks,false⟩:=by
 obtain⟨_,f2,f3,f4,f5⟩:=Tn k hm
 cases a;simp only at k f2 f3 f4 f5;subst k f2 f3 f4 f5;rfl
theorem A2u{a:Act}(k:a.kind=3)(hm:Af a=true):a=⟨3,a.server,Ay,a.n,[],false⟩:=by
 obtain⟨_,_,f3,f4,f5⟩:=Nr k hm
 cases a;simp only at k f3 f5 f4;subst k f3 f5;rw[aL f4]
theorem A2v{a:Act}(k:a.kind=4)(hm:Af a=true):a=⟨4,a.server,Ay,0,a.picks,false⟩:=by
 obtain⟨_,_,f3,f4,f5⟩:=Qf k hm
 cases a;simp only at k f3 f4 f5;subst k f3 f4 f5;rfl
theorem A2w{a:Act}(k:a.kind=5)(hm:Af a=true):a=⟨5,0,Ay,0,[],a.is⟩:=by
 obtain⟨f1,f2,f3,f4⟩:=Yo k hm
 cases a;simp only at k f1 f2 f3 f4;subst k f1 f2 f3;rw[aL f4]
theorem A4z{a:Act}(k:a.kind=1)(hm:Af a=true):Va (Bu a.request)=(a.request,0):=qN (Nq k hm).2.1
def A1(s:List UInt8):Act:=⟨1,(Aj ((Aa 32 s).getD 1 [])).1,(Va (doP s)).1,0,[],false⟩
def B1(s:List UInt8):Act:=⟨1,M1 ((Aa 32 s).getD 1 []),(Va (doR s)).1,0,[],false⟩
def A2(s:List UInt8):Act:=⟨2,0,Ay,0,((Aa 32 s).drop 1).map Dp,false⟩
def B2(s:List UInt8):Act:=⟨2,0,Ay,0,((Aa 32 s).drop 1).map rpV,false⟩
def A3(s:List UInt8):Act:=⟨3,(Aj ((Aa 32 s).getD 1 [])).1,Ay,(Aj ((Aa 32 s).getD 2 [])).1,[],false⟩
def B3(s:List UInt8):Act:=⟨3,M1 ((Aa 32 s).getD 1 []),Ay,M1 ((Aa 32 s).getD 2 []),[],false⟩
def A4(s:List UInt8):Act:=⟨4,(Aj ((Aa 32 s).getD 1 [])).1,Ay,0,((Aa 32 s).drop 2).map Dp,false⟩
def B4(s:List UInt8):Act:=⟨4,M1 ((Aa 32 s).getD 1 []),Ay,0,((Aa 32 s).drop 2).map rpV,false⟩
def A5(s:List UInt8):Act:=⟨5,0,Ay,0,[],decide ((Aa 32 s).getD 1 []=[121,101,115])⟩
def B5(s:List UInt8):Act:=⟨5,0,Ay,0,[],decide (s=[99,97,108,109,32,121,101,115])⟩
theorem Aey{s:List UInt8}{a:Act}(h:(Aa 32 s).getD 0 []=[100,111])(hm:Af a=true)(hf:fitA a)(hw:Bt a=s):A1 s=a∧B1 s=a∧(Va (doP s)).2=0∧(Va (doR s)).2=0∧3≤(Aa 32 s).length:=by
 have k:a.kind=1:=Ao9 hm hw (by decide) h
 have hb:=(Nq k hm).1
 subst hw
 have e:=A2s k hm
 unfold A1 B1
 rw[A2q k hm,A2r k hm,A4z k hm,Axq k hm]
 have hc:=Hr 32 (Bu a.request)
 refine⟨?_,?_,rfl,rfl,by simp only[List.length_cons];omega⟩
 ·refine Eq.trans ?_ e.symm
  show(⟨1,(Aj (Lib.itoa a.server)).1,a.request,0,[],false⟩:Act)=_
  rw[B9 hb.1 (by omega)]
 ·refine Eq.trans ?_ e.symm
  show(⟨1,M1 (Lib.itoa a.server),a.request,0,[],false⟩:Act)=_
  rw[M9 hb.1 (by omega)]
theorem Apb{s:List UInt8}{a:Act}(h:(Aa 32 s).getD 0 []=[116,105,99,107])(hm:Af a=true)(hf:fitA a)(hw:Bt a=s):A2 s=a∧B2 s=a:=by
 have k:a.kind=2:=Ao9 hm hw (by decide) h
 subst hw
 have e:=A2t k hm
 unfold fitA at hf
 unfold A2 B2
 rw[A2l k hm]
 constructor
 ·refine Eq.trans ?_ e.symm
  show(⟨2,0,Ay,0,(a.picks.map Lib.itoa).map Dp,false⟩:Act)=_
  rw[Re (fun n=>nD) hf]
 ·refine Eq.trans ?_ e.symm
  show(⟨2,0,Ay,0,(a.picks.map Lib.itoa).map rpV,false⟩:Act)=_
  rw[Re (fun n=>Aev) hf]
theorem Apc{s:List UInt8}{a:Act}(h:(Aa 32 s).getD 0 []=[102,117,115,101])(hm:Af a=true)(hf:fitA a)(hw:Bt a=s):A3 s=a∧B3 s=a∧(Aa 32 s).length=3:=by
 have k:a.kind=3:=Ao9 hm hw (by decide) h
 have hb:=(Nr k hm).1
 have hn:=(Nr k hm).2.1
 subst hw
 have e:=A2u k hm
 unfold A3 B3
 rw[A2m k hm]
 refine⟨?_,?_,rfl⟩
 ·refine Eq.trans ?_ e.symm
  show(⟨3,(Aj (Lib.itoa a.server)).1,Ay,(Aj (Lib.itoa a.n)).1,[],false⟩:Act)=_
  rw[B9 hb.1 (by omega),B9 hn.1 (by omega)]
 ·refine Eq.trans ?_ e.symm
  show(⟨3,M1 (Lib.itoa a.server),Ay,M1 (Lib.itoa a.n),[],false⟩:Act)=_
  rw[M9 hb.1 (by omega),M9 hn.1 (by omega)]
theorem Apd{s:List UInt8}{a:Act}(h:(Aa 32 s).getD 0 []=[99,114,97,115,104])(hm:Af a=true)(hf:fitA a)(hw:Bt a=s):A4 s=a∧B4 s=a∧2≤(Aa 32 s).length:=by
 have k:a.kind=4:=Ao9 hm hw (by decide) h
 have hb:=(Qf k hm).2.1
 subst hw
 have e:=A2v k hm
 unfold fitA at hf
 unfold A4 B4
 rw[A2n k hm]
 refine⟨?_,?_,by simp only[List.length_cons];omega⟩
 ·refine Eq.trans ?_ e.symm
  show(⟨4,(Aj (Lib.itoa a.server)).1,Ay,0,(a.picks.map Lib.itoa).map Dp,false⟩:Act)=_
  rw[B9 hb.1 (by omega),Re (fun n=>nD) hf]
 ·refine Eq.trans ?_ e.symm
  show(⟨4,M1 (Lib.itoa a.server),Ay,0,(a.picks.map Lib.itoa).map rpV,false⟩:Act)=_
  rw[M9 hb.1 (by omega),Re (fun n=>Aev) hf]
theorem Ape{s:List UInt8}{a:Act}(h:(Aa 32 s).getD 0 []=[99,97,108,109])(hm:Af a=true)(hf:fitA a)(hw:Bt a=s):A5 s=a∧B5 s=a:=by
 have k:a.kind=5:=Ao9 hm hw (by decide) h
 subst hw
 have e:=A2w k hm
 unfold A5 B5
 rw[A2o k hm,Axr k hm]
 constructor<;>(refine Eq.trans ?_ e.symm;cases a.is<;>rfl)
theorem xJ{a:Act}(hm:Af a=true)(hf:fitA a):dD (Bt a)=(a,0):=by
 refine Aex hm hf rfl fun b hb gb hw=>?_
 have h:=Ao8 hm (rfl:Bt a=Bt a)
 rcases D9 hm with k|k|k|k|k<;>rw[k] at h
 ·exact(Aey h.symm hm hf rfl).1.symm.trans (Aey h.symm hb gb hw).1
 ·exact(Apb h.symm hm hf rfl).1.symm.trans (Apb h.symm hb gb hw).1
 ·exact(Apc h.symm hm hf rfl).1.symm.trans (Apc h.symm hb gb hw).1
 ·exact(Apd h.symm hm hf rfl).1.symm.trans (Apd h.symm hb gb hw).1
 ·exact(Ape h.symm hm hf rfl).1.symm.trans (Ape h.symm hb gb hw).1
end
end Go.Vc.Z
