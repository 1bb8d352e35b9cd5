/- Acts' lines, of the kinds without picks. -/
import Derived.Test.YtpmpclbdnakniaaGreatDoorV35
import Derived.Test.YtpmpclbdnakniaaGreatDoorV34
import Derived.Test.YtpmpclbdnakniaaGreatDoorV27
set_option linter.all false
set_option linter.unusedVariables false
set_option linter.unusedSimpArgs false
namespace Go.Vc.Z
open Go Go.Vc Go.Proofs Go.RowKit Go.Pl Go.Lib
@[irreducible] noncomputable def Dt(a:Act):List (List UInt8):=
 if a.kind=1 then [[100,111],Lib.itoa a.server,Bq a.request]
 else if a.kind=2 then [116,105,99,107]::a.picks.map Lib.itoa
 else if a.kind=3 then [[102,117,115,101],Lib.itoa a.server,Lib.itoa a.n]
 else if a.kind=4 then [99,114,97,115,104]::Lib.itoa a.server::a.picks.map Lib.itoa
 else [[99,97,108,109],if a.is=true then [121,101,115] else [110,111]]
@[irreducible] noncomputable def Au(a:Act):List UInt8:=if Am a=true then Lib.join (Dt a) [32] else []
theorem Mz{a:Act}(h:a.kind=1)(hm:Am a=true):(0≤a.server∧a.server<4)∧Ah a.request=true∧a.n=0∧a.picks.length=0∧a.is=false:=by
 unfold Am at hm;rw[if_pos h] at hm
 simp only[Bool.and_eq_true,decide_eq_true_eq,Bool.not_eq_true'] at hm
 exact⟨hm.1.1.1.1,hm.1.1.1.2,hm.1.1.2,hm.1.2,hm.2⟩
theorem M0{a:Act}(h:a.kind=3)(hm:Am a=true):(0≤a.server∧a.server<4)∧(0≤a.n∧a.n≤1000000)∧a.request=As∧a.picks.length=0∧a.is=false:=by
 unfold Am at hm;rw[if_neg (by omega),if_neg (by omega),if_pos h] at hm
 simp only[Bool.and_eq_true,decide_eq_true_eq,Bool.not_eq_true',A0] at hm
 exact⟨hm.1.1.1.1,hm.1.1.1.2,hm.1.1.2,hm.1.2,hm.2⟩
theorem cC{a:Act}(h:a.kind=5)(hm:Am a=true):a.server=0∧a.request=As∧a.n=0∧a.picks.length=0:=by
 unfold Am at hm;rw[if_neg (by omega),if_neg (by omega),if_neg (by omega),if_neg (by omega),if_pos h] at hm
 simp only[Bool.and_eq_true,decide_eq_true_eq,A0] at hm
 exact⟨hm.1.1.1,hm.1.1.2,hm.1.2,hm.2⟩
theorem short_zero{r:Request}(h:r=As):E1 r:=by rw[h];exact⟨Nat.zero_le _,Nat.zero_le _⟩
theorem wJ{a:Act}(h:Bl [.agg a.enc]):Bl [.agg a.request.enc]:=by
 obtain⟨⟨_,_,h0,h1,h2,h3,h4,h5,h6,h7,h8,h9,h10,h11,_⟩,_⟩:=h
 exact⟨⟨h0,h1,h2,h3,h4,h5,h6,h7,h8,h9,h10,h11,True.intro⟩,True.intro⟩
theorem cD{r:Request}(hf:Bl [.agg r.enc]):(Bq r).length≤20000:=by
 unfold Bq;split
 ·exact sR (by assumption) hf
 ·exact Nat.zero_le _
theorem Agy(a b:List UInt8):(Lib.join [a,b] [32]).length=a.length+b.length+1:=by
 simp[Lib.join];omega
theorem Anf(a b c:List UInt8):(Lib.join [a,b,c] [32]).length=a.length+b.length+c.length+2:=by
 simp[Lib.join];omega
noncomputable section
set_option maxRecDepth 100000
attribute [local irreducible] inK Utf8.decode Utf8.encode Lib.itoa Pl.worth Pl.allDig
attribute [local irreducible] Lib.join Br Aa
def Aje:PC:=PC.of (fun a:Act=>[.agg a.enc]) (fun a=>Am a=true∧a.kind=1∧E1 a.request) (fun a=>.str (sS (Au a)))
def Lr:PT:=D1 [(24,P4),(36,Sz),(46,Iw),(62,Nf)]
theorem Nv{W:World}(hW:Tabs W):Dj (Fw W) Tryz.prog Lr:=(Ae Tryz.call24 (Um hW) (Ae Tryz.call36 (cB hW) (Ae Tryz.call46 (Ei hW) (Ae Tryz.call62 (Jx hW) A6))))
def Gd:FuncId→Option Ctr:=Av Lr []
theorem P5{W:World}(hW:Tabs W):Ad (Fw W) Tryz.prog Gd:=(A7 (Nv hW))
def Ajf:Act→Nat→Option LR:=fun a i=>cond (Nat.beq i 15) (some (.unroll 1)) (none)
set_option maxHeartbeats 2000000 in
theorem Ajg{W:World}(hW:Tabs W):GoodP (Fw W) Tryz.prog 34 Aje:=by
 have hD:=Nv hW
 have hC0:∀ a:Act,Ad (Fw W) Tryz.prog Gd:=fun a=>(P5 hW)
 refine Ax (D:=Lr) (C:=fun a=>Gd) (wr:=(fun _=>false)) rfl Aq hD hC0 Tryz.func34 (Ajf) (fun _=>rfl) ?_
 intro a hf hp
 obtain⟨hm,kk,hsh⟩:=hp
 obtain⟨f1,f2,f3,f4,f5⟩:=Mz kk hm
 have hlr:=cD (wJ hf)
 clear hf
 have hno: ¬Am a=false:=by rw[hm];exact Bool.true_eq_false.mp
 have hpk: ¬((0:Nat):Int)<(a.picks.length:Int):=by omega
 have hi:=Dd a.server (by omega) (by omega)
 have hp3:Dt a=[[100,111],Lib.itoa a.server,Bq a.request]:=by unfold Dt;rw[if_pos kk]
 have hw:Au a=Lib.join [[100,111],Lib.itoa a.server,Bq a.request] [32]:=by unfold Au;rw[if_pos hm,hp3]
 have hjl:(Lib.join [[100,111],Lib.itoa a.server,Bq a.request] [32]).length≤140737488355328:=by
  rw[Anf];simp only[List.length_cons,List.length_nil];omega
 refine⟨a,hsh,?_,?_⟩
 ·exact Aj _
 (conv=>whnf)
 (repeat' ((first
  |(exact absurd (by with_reducible assumption) hno)
  |(exact absurd kk (by with_reducible assumption))
  |((with_reducible refine aI ?_ ?_);focus (first|with_reducible exact⟨⟩|exact tO))
  |(split<;>rename_i hh<;>(try simp only[wS] at hh))
  |fail)<;>(conv=>whnf)))
 refine⟨a.request,hsh,?_,?_⟩
 ·exact Aj _
 (conv=>whnf)
 (repeat' ((first
  |((with_reducible refine aI ?_ ?_);focus (first|with_reducible exact⟨⟩|omega))
  |(split<;>rename_i hh<;>(try simp only[wS] at hh))
  |with_reducible refine lnI fun hln=>?_
  |fail)<;>(conv=>whnf)))
 ·exfalso;omega
 ·refine⟨⟨by omega,fun e he=>?_⟩,?_⟩
  ·rcases(by omega:e=0∨e=1∨e=2) with rfl|rfl|rfl<;>rfl
  refine⟨(([[100,111],Lib.itoa a.server,Bq a.request],[32]):List (List UInt8) × List UInt8),⟨hjl,(nB rfl)⟩,?_,?_⟩
  ·(conv=>whnf)
   (repeat' ((first|with_reducible exact⟨⟩|((with_reducible refine aI ?_ ?_);focus (exact tA))|with_reducible refine iA ?_ ?_|fail)<;>(conv=>whnf)))
   all_goals (try simp only[wQ])
   all_goals try exact⟨rfl,rfl,fun h=>h,fun e he=>by rcases(by omega:e=0∨e=1∨e=2) with rfl|rfl|rfl<;>rfl⟩
   all_goals try (refine⟨fun h=>h,fun e he=>?_⟩;rcases(by omega:e=0∨e=1∨e=2) with rfl|rfl|rfl<;>rfl)
  (conv=>whnf)
  all_goals (try (show _=_;simp only[wQ]))
  all_goals (rw[hw];done)
def Ajh:PC:=PC.of (fun a:Act=>[.agg a.enc]) (fun a=>Am a=true∧a.kind=3) (fun a=>.str (sS (Au a)))
def Aji:Act→Nat→Option LR:=fun a i=>cond (Nat.beq i 15) (some (.unroll 1)) (none)
set_option maxHeartbeats 2000000 in
theorem Ajj{W:World}(hW:Tabs W):GoodP (Fw W) Tryz.prog 34 Ajh:=by
 have hD:=Nv hW
 have hC0:∀ a:Act,Ad (Fw W) Tryz.prog Gd:=fun a=>(P5 hW)
 refine Ax (D:=Lr) (C:=fun a=>Gd) (wr:=(fun _=>false)) rfl Aq hD hC0 Tryz.func34 (Aji) (fun _=>rfl) ?_
 intro a hf hp
 clear hf
 obtain⟨hm,kk⟩:=hp
 obtain⟨f1,f2,f3,f4,f5⟩:=M0 kk hm
 have n1: ¬a.kind=1:=by omega
 have n2: ¬a.kind=2:=by omega
 have hno: ¬Am a=false:=by rw[hm];exact Bool.true_eq_false.mp
 have hi:=Dd a.server (by omega) (by omega)
 have hj:=Dd a.n (by omega) (by omega)
 have hp3:Dt a=[[102,117,115,101],Lib.itoa a.server,Lib.itoa a.n]:=by unfold Dt;rw[if_neg n1,if_neg n2,if_pos kk]
 have hw:Au a=Lib.join [[102,117,115,101],Lib.itoa a.server,Lib.itoa a.n] [32]:=by unfold Au;rw[if_pos hm,hp3]
 have hjl:(Lib.join [[102,117,115,101],Lib.itoa a.server,Lib.itoa a.n] [32]).length≤140737488355328:=by
  rw[Anf];simp only[List.length_cons,List.length_nil];omega
 refine⟨a,short_zero f3,?_,?_⟩
 ·exact Aj _
 (conv=>whnf)
 (repeat' ((first
  |(exact absurd (by with_reducible assumption) hno)
  |(exact absurd kk (by with_reducible assumption))
  |(exact absurd (by with_reducible assumption) n1)
  |(exact absurd (by with_reducible assumption) n2)
  |((with_reducible refine aI ?_ ?_);focus (first|with_reducible exact⟨⟩|exact tO|omega))
  |(split<;>rename_i hh<;>(try simp only[wS] at hh))
  |with_reducible refine lnI fun hln=>?_
  |fail)<;>(conv=>whnf)))
 ·exfalso;omega
 ·refine⟨⟨by omega,fun e he=>?_⟩,?_⟩
  ·rcases(by omega:e=0∨e=1∨e=2) with rfl|rfl|rfl<;>rfl
  refine⟨(([[102,117,115,101],Lib.itoa a.server,Lib.itoa a.n],[32]):List (List UInt8) × List UInt8),⟨hjl,(nB rfl)⟩,?_,?_⟩
  ·(conv=>whnf)
   (repeat' ((first|with_reducible exact⟨⟩|((with_reducible refine aI ?_ ?_);focus (exact tA))|with_reducible refine iA ?_ ?_|fail)<;>(conv=>whnf)))
   all_goals (try simp only[wQ])
   all_goals try exact⟨rfl,rfl,fun h=>h,fun e he=>by rcases(by omega:e=0∨e=1∨e=2) with rfl|rfl|rfl<;>rfl⟩
   all_goals try (refine⟨fun h=>h,fun e he=>?_⟩;rcases(by omega:e=0∨e=1∨e=2) with rfl|rfl|rfl<;>rfl)
  (conv=>whnf)
  all_goals (try (show _=_;simp only[wQ]))
  all_goals (rw[hw];done)
def Ajk:PC:=PC.of (fun a:Act=>[.agg a.enc]) (fun a=>Am a=true∧a.kind=5) (fun a=>.str (sS (Au a)))
def Ajl:Act→Nat→Option LR:=fun a i=>cond (Nat.beq i 15) (some (.unroll 1)) (none)
set_option maxHeartbeats 2000000 in
theorem Ajm{W:World}(hW:Tabs W):GoodP (Fw W) Tryz.prog 34 Ajk:=by
 have hD:=Nv hW
 have hC0:∀ a:Act,Ad (Fw W) Tryz.prog Gd:=fun a=>(P5 hW)
 refine Ax (D:=Lr) (C:=fun a=>Gd) (wr:=(fun _=>false)) rfl Aq hD hC0 Tryz.func34 (Ajl) (fun _=>rfl) ?_
 intro a hf hp
 clear hf
 obtain⟨hm,kk⟩:=hp
 obtain⟨f1,f2,f3,f4⟩:=cC kk hm
 have n1: ¬a.kind=1:=by omega
 have n2: ¬a.kind=2:=by omega
 have n3: ¬a.kind=3:=by omega
 have n4: ¬a.kind=4:=by omega
 have hno: ¬Am a=false:=by rw[hm];exact Bool.true_eq_false.mp
 have hp3:Dt a=[[99,97,108,109],if a.is=true then [121,101,115] else [110,111]]:=by unfold Dt;rw[if_neg n1,if_neg n2,if_neg n3,if_neg n4]
 rcases Bool.eq_false_or_eq_true a.is with hi|hi
 ·have hw:Au a=Lib.join [[99,97,108,109],[121,101,115]] [32]:=by unfold Au;rw[if_pos hm,hp3,hi];rfl
  have hjl:(Lib.join [[99,97,108,109],[121,101,115]] [32]).length≤140737488355328:=by
   rw[Agy];decide
  refine⟨a,short_zero f2,?_,?_⟩
  ·exact Aj _
  (conv=>whnf)
  (repeat' ((first
   |(exact absurd (by with_reducible assumption) hno)
   |(exact absurd (by with_reducible assumption) n1)
   |(exact absurd (by with_reducible assumption) n2)
   |(exact absurd (by with_reducible assumption) n3)
   |(exact absurd (by with_reducible assumption) n4)
   |((with_reducible refine aI ?_ ?_);focus (first|with_reducible exact⟨⟩|omega|decide))
   |(split<;>rename_i hh<;>(try simp only[wS] at hh))
   |with_reducible refine lnI fun hln=>?_
   |fail)<;>(conv=>whnf)))
  all_goals try (exfalso;omega)
  all_goals try (exfalso;simp_all;done)
  all_goals (
   refine⟨(([[99,97,108,109],[121,101,115]],[32]):List (List UInt8) × List UInt8),⟨hjl,(nB rfl)⟩,?_,?_⟩
   ·(conv=>whnf)
    (repeat' ((first|with_reducible exact⟨⟩|((with_reducible refine aI ?_ ?_);focus (exact tA))|with_reducible refine iA ?_ ?_|fail)<;>(conv=>whnf)))
    all_goals (try simp only[wQ])
    all_goals try exact⟨rfl,rfl,fun h=>h,fun e he=>by rcases(by omega:e=0∨e=1) with rfl|rfl<;>rfl⟩
    all_goals try (refine⟨fun h=>h,fun e he=>?_⟩;rcases(by omega:e=0∨e=1) with rfl|rfl<;>rfl)
   (conv=>whnf)
   all_goals (try (show _=_;simp only[wQ]))
   all_goals (rw[hw];done))
 ·have hw:Au a=Lib.join [[99,97,108,109],[110,111]] [32]:=by unfold Au;rw[if_pos hm,hp3,hi];rfl
  have hjl:(Lib.join [[99,97,108,109],[110,111]] [32]).length≤140737488355328:=by
   rw[Agy];decide
  refine⟨a,short_zero f2,?_,?_⟩
  ·exact Aj _
  (conv=>whnf)
  (repeat' ((first
   |(exact absurd (by with_reducible assumption) hno)
   |(exact absurd (by with_reducible assumption) n1)
   |(exact absurd (by with_reducible assumption) n2)
   |(exact absurd (by with_reducible assumption) n3)
   |(exact absurd (by with_reducible assumption) n4)
   |((with_reducible refine aI ?_ ?_);focus (first|with_reducible exact⟨⟩|omega|decide))
   |(split<;>rename_i hh<;>(try simp only[wS] at hh))
   |with_reducible refine lnI fun hln=>?_
   |fail)<;>(conv=>whnf)))
  all_goals try (exfalso;omega)
  all_goals try (exfalso;simp_all;done)
  all_goals (
   refine⟨(([[99,97,108,109],[110,111]],[32]):List (List UInt8) × List UInt8),⟨hjl,(nB rfl)⟩,?_,?_⟩
   ·(conv=>whnf)
    (repeat' ((first|with_reducible exact⟨⟩|((with_reducible refine aI ?_ ?_);focus (exact tA))|with_reducible refine iA ?_ ?_|fail)<;>(conv=>whnf)))
    all_goals (try simp only[wQ])
    all_goals try exact⟨rfl,rfl,fun h=>h,fun e he=>by rcases(by omega:e=0∨e=1) with rfl|rfl<;>rfl⟩
    all_goals try (refine⟨fun h=>h,fun e he=>?_⟩;rcases(by omega:e=0∨e=1) with rfl|rfl<;>rfl)
   (conv=>whnf)
   all_goals (try (show _=_;simp only[wQ]))
   all_goals (rw[hw];done))
end
end Go.Vc.Z
namespace Go.Vc.Z
open Go Go.Vc Go.Proofs Go.RowKit Go.Pl Go.Lib
theorem Rj{a:Act}(h:Bl [.agg a.enc]):∀ i,i<a.picks.length→ -9223372036854775808≤a.picks.getD i 0∧a.picks.getD i 0≤9223372036854775807:=by
 obtain⟨⟨_,_,_,_,_,_,_,_,_,_,_,_,_,_,_,hp,_⟩,_⟩:=h
 intro i hi
 have h1:=(hp.2 i hi).2
 exact Ar.1 h1.1
theorem S0{a:Act}(h:a.kind=2)(hm:Am a=true):a.picks.length≤1000∧a.server=0∧a.request=As∧a.n=0∧a.is=false:=by
 unfold Am at hm;rw[if_neg (by omega),if_pos h] at hm
 simp only[Bool.and_eq_true,decide_eq_true_eq,Bool.not_eq_true',A0] at hm
 exact⟨hm.1.1.1.1,hm.1.1.1.2,hm.1.1.2,hm.1.2,hm.2⟩
theorem Pf{a:Act}(h:a.kind=4)(hm:Am a=true):a.picks.length≤1000∧(0≤a.server∧a.server<4)∧a.request=As∧a.n=0∧a.is=false:=by
 unfold Am at hm;rw[if_neg (by omega),if_neg (by omega),if_neg (by omega),if_pos h] at hm
 simp only[Bool.and_eq_true,decide_eq_true_eq,Bool.not_eq_true',A0] at hm
 exact⟨hm.1.1.1.2,hm.1.1.1.1,hm.1.1.2,hm.1.2,hm.2⟩
theorem Pg{l:List Int}(h:∀ i,i<l.length→ -9223372036854775808≤l.getD i 0∧l.getD i 0≤9223372036854775807):∀ s ∈ l.map Lib.itoa,s.length≤200:=by
 intro s hs
 obtain⟨n,hn,rfl⟩:=List.mem_map.1 hs
 obtain⟨i,hi,rfl⟩:=List.getElem_of_mem hn
 have:=h i hi
 rw[List.getD_eq_getElem?_getD,List.getElem?_eq_getElem hi] at this
 have:=Dd l[i] this.1 this.2
 omega
noncomputable section
set_option maxRecDepth 100000
attribute [local irreducible] inK Utf8.decode Utf8.encode Lib.itoa Pl.worth Pl.allDig
attribute [local irreducible] Lib.join Br Aa
def LAl(a:Act)(B:List (List UInt8)):LoopSpec:={
 α:=Nat × List (List UInt8)
 keep:=[3,48,49,50]
 vals x:=[An2 2 x.2,slE 1 wE a.picks,.int .i64 a.picks.length,.int .i64 x.1]
 heap x:=[.dead,.dead,An1 x.2]
 ok x:=x.1≤a.picks.length∧x.2=B++(a.picks.take x.1).map Lib.itoa
 μ x:=a.picks.length - x.1 }
def Ajn:PC:=PC.of (fun a:Act=>[.agg a.enc]) (fun a=>Am a=true∧a.kind=2) (fun a=>.str (sS (Au a)))
def Ajo:Act→Nat→Option LR:=fun a i=>cond (Nat.beq i 15) (some (.inv (LAl a ([[116,105,99,107]])))) (none)
set_option maxHeartbeats 2000000 in
theorem Ajp{W:World}(hW:Tabs W):GoodP (Fw W) Tryz.prog 34 Ajn:=by
 have hD:=Nv hW
 have hC0:∀ a:Act,Ad (Fw W) Tryz.prog Gd:=fun a=>(P5 hW)
 refine Ax (D:=Lr) (C:=fun a=>Gd) (wr:=(fun _=>false)) rfl Aq hD hC0 Tryz.func34 (Ajo) (fun _=>rfl) ?_
 intro a hf hp
 have hpf:=Pg (Rj hf)
 clear hf
 obtain⟨hm,kk⟩:=hp
 obtain⟨f1,f2,f3,f4,f5⟩:=S0 kk hm
 have n1: ¬a.kind=1:=by omega
 skip
 skip
 have hno: ¬Am a=false:=by rw[hm];exact Bool.true_eq_false.mp
 skip
 have hw:Au a=Lib.join ([[116,105,99,107]]++a.picks.map Lib.itoa) [32]:=by unfold Au Dt;rw[if_pos hm,if_neg n1];rw[if_pos kk];rfl
 have hall:∀ s ∈ [[116,105,99,107]]++a.picks.map Lib.itoa,s.length≤200:=fun s hs=>by
  rcases List.mem_append.1 hs with h|h
  ·simp only[List.mem_cons,List.not_mem_nil,or_false] at h
   rw[h];decide
  ·exact hpf s h
 refine⟨a,short_zero f3,?_,?_⟩
 ·exact Aj _
 (conv=>whnf)
 (repeat' ((first
  |(exact absurd (by with_reducible assumption) hno)
  |(exact absurd kk (by with_reducible assumption))
  |(exact absurd (by with_reducible assumption) n1)
  |(split<;>rename_i hh<;>(try simp only[wS] at hh))
  |with_reducible refine lnI fun hln=>?_
  |fail)<;>(conv=>whnf)))
 refine⟨?_,fun(x:Nat × List (List UInt8)) hx=>?_⟩
 ·(conv=>whnf)
  refine⟨((0,[[116,105,99,107]]):Nat × List (List UInt8)),[1],?_,⟨⟨rfl,(nB rfl),rfl⟩,?_,?_⟩⟩
  ·exact⟨Nat.zero_le _,by simp⟩
  ·exact tL
  ·(conv=>whnf)
   (repeat' ((first|with_reducible exact⟨⟩|((with_reducible refine aI ?_ ?_);focus (exact tA))|with_reducible refine iB ?_ ?_|fail)<;>(conv=>whnf)))
   all_goals (try simp only[wQ])
   intro e he
   have he:e<1:=he
   obtain rfl:e=0:=by omega
   exact⟨rfl,rfl⟩
 ·obtain⟨i,L⟩:=x
  obtain⟨h1,h2⟩:=hx
  change i≤a.picks.length at h1
  change L=[[116,105,99,107]]++(a.picks.take i).map Lib.itoa at h2
  have hlen:L.length=1+i:=by rw[h2];simp;omega
  have hstep:i<a.picks.length→L++[Lib.itoa (a.picks.getD (Int.toNat (i:Int)) default)]=[[116,105,99,107]]++(a.picks.take (i+1)).map Lib.itoa:=fun h=>by
   rw[h2,List.append_assoc,List.take_add_one,List.map_append,List.getElem?_eq_getElem h]
   have:a.picks.getD (Int.toNat (i:Int)) default=a.picks[i]:=by
    rw[show Int.toNat (i:Int)=i from rfl,List.getD_eq_getElem?_getD,List.getElem?_eq_getElem h];rfl
   rw[this];rfl
  rcases L with _|⟨s,L⟩
  ·exact absurd hlen (by simp;omega)
  ·have hlen2:L.length+1=1+i:=hlen
   (conv=>whnf)
   (repeat' ((first
    |((with_reducible refine aI ?_ ?_);focus (first|with_reducible exact⟨⟩|((with_reducible refine⟨?_,?_,?_⟩)<;>first|(intro e he;rcases(by omega:e=0∨e=1∨e=2∨e=3∨e=4∨e=5) with rfl|rfl|rfl|rfl|rfl|rfl<;>first|rfl|(exfalso;omega))|(with_reducible assumption)|omega|((with_reducible show Ag _ _);simp only[Ag,ty2,ty3,ty4,ty5,ty9,Cn,Ch,Co,Ci,Cl,Cp,Cq,Cr,Bf,Bc,Bg,Bd,Bh,Bi,Bj,List.length_cons,List.length_nil];first|omega|(refine⟨?_,?_⟩<;>omega)))|omega|exact tK))
    |(split<;>rename_i hh<;>(try simp only[wS] at hh))
    |fail)<;>(conv=>whnf)))
   ·have hi2:i<a.picks.length:=Int.ofNat_lt.1 (by assumption)
    (conv=>whnf)
    refine⟨((i+1,s::L++[Lib.itoa (a.picks.getD (Int.toNat (i:Int)) default)]):Nat × List (List UInt8)),[4],?_,⟨⟨rfl,(nB rfl),rfl⟩,?_,?_⟩⟩
    ·exact⟨⟨show i+1≤a.picks.length by omega,hstep hi2⟩,show a.picks.length - (i+1)<a.picks.length - i by omega⟩
    ·(conv=>whnf)
     (repeat' ((first|with_reducible exact⟨⟩|((with_reducible refine aI ?_ ?_);focus (exact tA))|with_reducible refine iA ?_ ?_|fail)<;>(conv=>whnf)))
     all_goals (try simp only[wQ])
     all_goals (try first|omega|exact⟨fun h=>h,fun _ _=>True.intro⟩)
     all_goals (try first|exact⟨by simp,Or.inl trivial⟩)
     all_goals (try simp)
    ·(conv=>whnf)
     (repeat' ((first|with_reducible exact⟨⟩|((with_reducible refine aI ?_ ?_);focus (exact tA))|with_reducible refine iB ?_ ?_|fail)<;>(conv=>whnf)))
     all_goals (try simp only[wQ])
     exact⟨by simp,fun e he=>⟨R8 (l:=s::L) rfl (fun _ _=>rfl) rfl (by simpa using he),rfl⟩⟩
   ·have hie:i=a.picks.length:=by omega
    rw[hie,List.take_length] at h2
    refine⟨⟨by omega,fun e he=>rfl⟩,?_⟩
    refine⟨((s::L,[32]):List (List UInt8) × List UInt8),⟨by have:=Ng [32] 200 (s::L) (by rw[h2];exact hall);simp at this;show(Lib.join (s::L) [32]).length≤_;omega,by show(s::L).length≤_;simp;omega⟩,?_,?_⟩
    ·exact tL
    (conv=>whnf)
    all_goals (try (show _=_;simp only[wQ]))
    all_goals (rw[hw,h2];done)
def Ajq:PC:=PC.of (fun a:Act=>[.agg a.enc]) (fun a=>Am a=true∧a.kind=4) (fun a=>.str (sS (Au a)))
def Ajr:Act→Nat→Option LR:=fun a i=>cond (Nat.beq i 15) (some (.inv (LAl a ([[99,114,97,115,104],Lib.itoa a.server])))) (none)
set_option maxHeartbeats 2000000 in
theorem Ajs{W:World}(hW:Tabs W):GoodP (Fw W) Tryz.prog 34 Ajq:=by
 have hD:=Nv hW
 have hC0:∀ a:Act,Ad (Fw W) Tryz.prog Gd:=fun a=>(P5 hW)
 refine Ax (D:=Lr) (C:=fun a=>Gd) (wr:=(fun _=>false)) rfl Aq hD hC0 Tryz.func34 (Ajr) (fun _=>rfl) ?_
 intro a hf hp
 have hpf:=Pg (Rj hf)
 clear hf
 obtain⟨hm,kk⟩:=hp
 obtain⟨f1,f2,f3,f4,f5⟩:=Pf kk hm
 have n1: ¬a.kind=1:=by omega
 have n2: ¬a.kind=2:=by omega
 have n3: ¬a.kind=3:=by omega
 have hno: ¬Am a=false:=by rw[hm];exact Bool.true_eq_false.mp
 have hi:=Dd a.server (by omega) (by omega)
 have hw:Au a=Lib.join ([[99,114,97,115,104],Lib.itoa a.server]++a.picks.map Lib.itoa) [32]:=by unfold Au Dt;rw[if_pos hm,if_neg n1];rw[if_neg n2,if_neg n3,if_pos kk];rfl
 have hall:∀ s ∈ [[99,114,97,115,104],Lib.itoa a.server]++a.picks.map Lib.itoa,s.length≤200:=fun s hs=>by
  rcases List.mem_append.1 hs with h|h
  ·simp only[List.mem_cons,List.not_mem_nil,or_false] at h
   rcases h with h|h<;>rw[h];decide;omega
  ·exact hpf s h
 refine⟨a,short_zero f3,?_,?_⟩
 ·exact Aj _
 (conv=>whnf)
 (repeat' ((first
  |(exact absurd (by with_reducible assumption) hno)
  |(exact absurd kk (by with_reducible assumption))
  |(exact absurd (by with_reducible assumption) n1)
  |(exact absurd (by with_reducible assumption) n2)
  |(exact absurd (by with_reducible assumption) n3)
  |((with_reducible refine aI ?_ ?_);focus (with_reducible exact⟨⟩))
  |(split<;>rename_i hh<;>(try simp only[wS] at hh))
  |with_reducible refine lnI fun hln=>?_
  |fail)<;>(conv=>whnf)))
 refine⟨?_,fun(x:Nat × List (List UInt8)) hx=>?_⟩
 ·(conv=>whnf)
  refine⟨((0,[[99,114,97,115,104],Lib.itoa a.server]):Nat × List (List UInt8)),[1],?_,⟨⟨rfl,(nB rfl),rfl⟩,?_,?_⟩⟩
  ·exact⟨Nat.zero_le _,by simp⟩
  ·exact tL
  ·(conv=>whnf)
   (repeat' ((first|with_reducible exact⟨⟩|((with_reducible refine aI ?_ ?_);focus (exact tA))|with_reducible refine iB ?_ ?_|fail)<;>(conv=>whnf)))
   all_goals (try simp only[wQ])
   intro e he
   have he:e<2:=he
   rcases(by omega:e=0∨e=1) with rfl|rfl<;>exact⟨rfl,rfl⟩
 ·obtain⟨i,L⟩:=x
  obtain⟨h1,h2⟩:=hx
  change i≤a.picks.length at h1
  change L=[[99,114,97,115,104],Lib.itoa a.server]++(a.picks.take i).map Lib.itoa at h2
  have hlen:L.length=2+i:=by rw[h2];simp;omega
  have hstep:i<a.picks.length→L++[Lib.itoa (a.picks.getD (Int.toNat (i:Int)) default)]=[[99,114,97,115,104],Lib.itoa a.server]++(a.picks.take (i+1)).map Lib.itoa:=fun h=>by
   rw[h2,List.append_assoc,List.take_add_one,List.map_append,List.getElem?_eq_getElem h]
   have:a.picks.getD (Int.toNat (i:Int)) default=a.picks[i]:=by
    rw[show Int.toNat (i:Int)=i from rfl,List.getD_eq_getElem?_getD,List.getElem?_eq_getElem h];rfl
   rw[this];rfl
  rcases L with _|⟨s,L⟩
  ·exact absurd hlen (by simp;omega)
  ·have hlen2:L.length+1=2+i:=hlen
   (conv=>whnf)
   (repeat' ((first
    |((with_reducible refine aI ?_ ?_);focus (first|with_reducible exact⟨⟩|((with_reducible refine⟨?_,?_,?_⟩)<;>first|(intro e he;rcases(by omega:e=0∨e=1∨e=2∨e=3∨e=4∨e=5) with rfl|rfl|rfl|rfl|rfl|rfl<;>first|rfl|(exfalso;omega))|(with_reducible assumption)|omega|((with_reducible show Ag _ _);simp only[Ag,ty2,ty3,ty4,ty5,ty9,Cn,Ch,Co,Ci,Cl,Cp,Cq,Cr,Bf,Bc,Bg,Bd,Bh,Bi,Bj,List.length_cons,List.length_nil];first|omega|(refine⟨?_,?_⟩<;>omega)))|omega|exact tK))
    |(split<;>rename_i hh<;>(try simp only[wS] at hh))
    |fail)<;>(conv=>whnf)))
   ·have hi2:i<a.picks.length:=Int.ofNat_lt.1 (by assumption)
    (conv=>whnf)
    refine⟨((i+1,s::L++[Lib.itoa (a.picks.getD (Int.toNat (i:Int)) default)]):Nat × List (List UInt8)),[4],?_,⟨⟨rfl,(nB rfl),rfl⟩,?_,?_⟩⟩
    ·exact⟨⟨show i+1≤a.picks.length by omega,hstep hi2⟩,show a.picks.length - (i+1)<a.picks.length - i by omega⟩
    ·(conv=>whnf)
     (repeat' ((first|with_reducible exact⟨⟩|((with_reducible refine aI ?_ ?_);focus (exact tA))|with_reducible refine iA ?_ ?_|fail)<;>(conv=>whnf)))
     all_goals (try simp only[wQ])
     all_goals (try first|omega|exact⟨fun h=>h,fun _ _=>True.intro⟩)
     all_goals (try first|exact⟨by simp,Or.inl trivial⟩)
     all_goals (try simp)
    ·(conv=>whnf)
     (repeat' ((first|with_reducible exact⟨⟩|((with_reducible refine aI ?_ ?_);focus (exact tA))|with_reducible refine iB ?_ ?_|fail)<;>(conv=>whnf)))
     all_goals (try simp only[wQ])
     exact⟨by simp,fun e he=>⟨R8 (l:=s::L) rfl (fun _ _=>rfl) rfl (by simpa using he),rfl⟩⟩
   ·have hie:i=a.picks.length:=by omega
    rw[hie,List.take_length] at h2
    refine⟨⟨by omega,fun e he=>rfl⟩,?_⟩
    refine⟨((s::L,[32]):List (List UInt8) × List UInt8),⟨by have:=Ng [32] 200 (s::L) (by rw[h2];exact hall);simp at this;show(Lib.join (s::L) [32]).length≤_;omega,by show(s::L).length≤_;simp;omega⟩,?_,?_⟩
    ·exact tL
    (conv=>whnf)
    all_goals (try (show _=_;simp only[wQ]))
    all_goals (rw[hw,h2];done)
end
end Go.Vc.Z
namespace Go.Vc.Z
open Go Go.Vc Go.Proofs Go.RowKit Go.Pl Go.Lib
theorem En{a:Act}(h:Am a=true):a.kind=1∨a.kind=2∨a.kind=3∨a.kind=4∨a.kind=5:=by
 unfold Am at h
 by_cases h1:a.kind=1
 ·exact .inl h1
 by_cases h2:a.kind=2
 ·exact .inr (.inl h2)
 by_cases h3:a.kind=3
 ·exact .inr (.inr (.inl h3))
 by_cases h4:a.kind=4
 ·exact .inr (.inr (.inr (.inl h4)))
 by_cases h5:a.kind=5
 ·exact .inr (.inr (.inr (.inr h5)))
 rw[if_neg h1,if_neg h2,if_neg h3,if_neg h4,if_neg h5] at h;cases h
theorem Ajt{a:Act}(h:Am a=false):Au a=[]:=by unfold Au;rw[h];rfl
noncomputable section
set_option maxRecDepth 100000
attribute [local irreducible] inK Utf8.decode Utf8.encode Lib.itoa Pl.worth Pl.allDig
attribute [local irreducible] Lib.join Br Aa
def Aju:PC:=PC.of (fun a:Act=>[.agg a.enc]) (fun a=>Am a=false∧E1 a.request) (fun a=>.str (sS (Au a)))
def Agz:Act→Nat→Option LR:=fun a i=>cond (Nat.beq i 15) (some (.unroll 1)) (none)
set_option maxHeartbeats 2000000 in
theorem Ag0{W:World}(hW:Tabs W):GoodP (Fw W) Tryz.prog 34 Aju:=by
 have hD:=Nv hW
 have hC0:∀ a:Act,Ad (Fw W) Tryz.prog Gd:=fun a=>(P5 hW)
 refine Ax (D:=Lr) (C:=fun a=>Gd) (wr:=(fun _=>false)) rfl Aq hD hC0 Tryz.func34 (Agz) (fun _=>rfl) ?_
 intro a hf hp
 clear hf
 obtain⟨hm,hsh⟩:=hp
 have hno: ¬Am a=true:=by rw[hm];exact Bool.false_ne_true
 have hw:Au a=[]:=Ajt hm
 refine⟨a,hsh,?_,?_⟩
 ·exact Aj _
 (conv=>whnf)
 (repeat' ((first
  |(exact absurd (by with_reducible assumption) hno)
  |(split<;>rename_i hh<;>(try simp only[wS] at hh))
  |fail)<;>(conv=>whnf)))
 all_goals (try (show _=_;simp only[wQ]))
 all_goals (rw[hw];done)
def Us:PC:=PC.of (fun a:Act=>[.agg a.enc]) (fun a=>E1 a.request) (fun a=>.str (sS (Au a)))
theorem nT{W:World}(hW:Tabs W):GoodP (Fw W) Tryz.prog 34 Us:=by
 intro S w cs vs Q hs hv hT
 obtain⟨a,h1,h2,h3⟩:=hT
 cases hm:Am a
 ·exact Ag0 hW S w cs vs Q hs hv ⟨a,⟨hm,h1⟩,h2,h3⟩
 ·rcases En hm with k|k|k|k|k
  ·exact Ajg hW S w cs vs Q hs hv ⟨a,⟨hm,k,h1⟩,h2,h3⟩
  ·exact Ajp hW S w cs vs Q hs hv ⟨a,⟨hm,k⟩,h2,h3⟩
  ·exact Ajj hW S w cs vs Q hs hv ⟨a,⟨hm,k⟩,h2,h3⟩
  ·exact Ajs hW S w cs vs Q hs hv ⟨a,⟨hm,k⟩,h2,h3⟩
  ·exact Ajm hW S w cs vs Q hs hv ⟨a,⟨hm,k⟩,h2,h3⟩
end
end Go.Vc.Z
namespace Go.Vc.Z
open Go Go.Vc Go.Proofs Go.RowKit Go.Pl Go.Lib
theorem wK{n:Int}(h0: -9223372036854775808≤n)(h1:n≤9223372036854775807):rpV (Lib.itoa n)=n:=by
 by_cases hs:Lib.itoa n=[45,57,50,50,51,51,55,50,48,51,54,56,53,52,55,55,53,56,48,56]
 ·rw[Atl hs]
  unfold Lib.itoa at hs
  split at hs
  ·injection hs with _ hs
   have:=congrArg worth hs
   rw[G3] at this
   have e:worth [57,50,50,51,51,55,50,48,51,54,56,53,52,55,55,53,56,48,56]=9223372036854775808:=by decide
   rw[e] at this
   omega
  ·have:=congrArg allDig hs
   rw[E9] at this
   exact absurd this (by decide)
 ·rw[Atm hs]
  unfold Lib.itoa at hs ⊢
  split
  ·rename_i hn
   have hp:Da 45 (45::decDigits n.natAbs)=decDigits n.natAbs:=by unfold Da;rw[if_pos (by simp[Lib.hasPrefix,List.isPrefixOf])];rfl
   rw[if_pos hn] at hs
   have hw:=G3 n.natAbs
   have hz: ¬45::decDigits n.natAbs=[45,48]:=fun e=>by
    injection e with _ e
    have:=congrArg worth e
    rw[hw] at this
    have e2:worth [48]=0:=by decide
    omega
   have hm:n≠ -9223372036854775808:=fun e=>hs (by
    subst e
    show 45::decDigits 9223372036854775808=_
    have:=Aci (s:=[57,50,50,51,51,55,50,48,51,54,56,53,52,55,55,53,56,48,56]) (by decide) (by decide) (fun t h=>by injection h with h _;exact absurd h (by decide))
    rw[show worth [57,50,50,51,51,55,50,48,51,54,56,53,52,55,55,53,56,48,56]=9223372036854775808 by decide] at this
    rw[this])
   rw[Atk hp (Pz _) hz (by rw[hw];omega) (fun e=>by have:=congrArg List.length e;simp at this),hw]
   show -((n.natAbs:Nat):Int)=n
   omega
  ·rename_i hn
   have hp:Da 45 (decDigits n.toNat)=decDigits n.toNat:=by
    refine Agf fun _ h=>?_
    have hd:=E8.1 (E9 n.toNat)
    cases hc:decDigits n.toNat with
    |nil=>exact absurd hc (oY _)
    |cons c t=>
     rw[hc] at h hd
     have:=hd c (by simp)
     have h:c=45:=h
     rw[h] at this
     exact absurd this.1 (by decide)
   have hw:=G3 n.toNat
   have hz: ¬decDigits n.toNat=[45,48]:=fun e=>by
    have:=E9 n.toNat
    rw[e] at this
    exact absurd this (by decide)
   rw[Atj hp (Pz _) hz (by rw[hw];omega) rfl,hw]
   show((n.toNat:Nat):Int)=n
   omega
end Go.Vc.Z
namespace Go.Vc.Z
open Go Go.Vc Go.Proofs Go.RowKit Go.Pl Go.Lib
theorem wL:∀ (l:List UInt8) (acc:Nat),allDig l=true→acc*10 ^ l.length+worth l≤9223372036854775808→Lib.parseUint10 acc l= .ok (acc*10 ^ l.length+worth l)
 |[],acc,_,_=>by simp[Lib.parseUint10,worth]
 |c::r,acc,hd,hl=>by
  have hc:=E8.1 hd c (by simp)
  have hr:allDig r=true:=E8.2 fun d hm=>E8.1 hd d (List.mem_cons_of_mem _ hm)
  have e:acc*10 ^ (c::r).length+worth (c::r)=(acc*10+(c.toNat - 48))*10 ^ r.length+worth r:=by
   rw[X0,List.length_cons,Nat.pow_succ,Nat.add_mul,Nat.mul_assoc acc 10,Nat.mul_comm 10,Nat.add_assoc]
  rw[e] at hl ⊢
  have hk:0<10 ^ r.length:=Nat.pow_pos (by decide)
  have h1:acc*10+(c.toNat - 48)≤(acc*10+(c.toNat - 48))*10 ^ r.length:=Nat.le_mul_of_pos_right _ hk
  rw[Lib.parseUint10,if_pos hc,if_neg (by omega),if_neg (by omega)]
  exact wL r _ hr hl
theorem Ag1{u:Nat}(h:u≤9223372036854775808):Lib.parseMag (decDigits u)= .ok u:=by
 have:=wL (decDigits u) 0 (E9 u) (by rw[G3];omega)
 rw[G3,Nat.zero_mul,Nat.zero_add] at this
 unfold Lib.parseMag;rw[if_neg (oY u),this]
theorem Ag2{D:List UInt8}{u:Nat}(h:Lib.parseMag D= .ok u)(hu:u≤9223372036854775808):Lib.atoiAll (45::D)= .ok (-(u:Int)):=by
 rw[Lib.atoiAll_minus,h]
 show(if 9223372036854775808<u then _ else _)=_
 rw[if_neg (by omega)]
theorem Ag3{c:UInt8}{t:List UInt8}{u:Nat}(hc:48≤c.toNat)(h:Lib.parseMag (c::t)= .ok u)(hu:u<9223372036854775808):Lib.atoiAll (c::t)= .ok (u:Int):=by
 rw[Lib.atoiAll_plain c t (by omega) (by omega),h]
 show(if 9223372036854775808≤u then _ else _)=_
 rw[if_neg (by omega)]
theorem cE{n:Int}(h0: -9223372036854775808≤n)(h1:n≤9223372036854775807):Dk (Lib.itoa n)=n:=by
 have e:Lib.atoiAll (Lib.itoa n)= .ok n:=by
  unfold Lib.itoa
  split
  ·rename_i hn
   rw[Ag2 (Ag1 (show n.natAbs≤9223372036854775808 by omega)) (by omega)]
   exact congrArg _ (by omega)
  ·rename_i hn
   have hm:=Ag1 (show n.toNat≤9223372036854775808 by omega)
   have hd:=E8.1 (E9 n.toNat)
   cases hc:decDigits n.toNat with
   |nil=>exact absurd hc (oY _)
   |cons c t=>
    rw[hc] at hm hd
    rw[Ag3 (hd c (by simp)).1 hm (by omega)]
    exact congrArg _ (by omega)
 unfold Dk;rw[e]
end Go.Vc.Z
namespace Go.Vc.Z
open Go Go.Vc Go.Proofs Go.RowKit Go.Pl Go.Lib
noncomputable section
abbrev Hw:Act:=⟨0,0,As,0,[],false⟩
@[irreducible] def fitA(a:Act):Prop:=∀ n ∈ a.picks, -9223372036854775808≤n∧n≤9223372036854775807
open Classical in
@[irreducible] def zE(s:List UInt8):Act × Int:=if h:∃ a,Am a=true∧fitA a∧Au a=s then(h.choose,0) else(Hw,4)
theorem Abh{s:List UInt8}(h:∀ a,Am a=true→fitA a→Au a=s→False):zE s=(Hw,4):=by
 unfold zE
 rw[dif_neg]
 rintro⟨a,h1,h2,h3⟩
 exact h a h1 h2 h3
theorem wM{s:List UInt8}{A:Act}(h1:Am A=true)(h2:fitA A)(h3:Au A=s)(h:∀ a,Am a=true→fitA a→Au a=s→A=a):zE s=(A,0):=by
 have hx:∃ a,Am a=true∧fitA a∧Au a=s:=⟨A,h1,h2,h3⟩
 unfold zE
 rw[dif_pos hx,←h _ hx.choose_spec.1 hx.choose_spec.2.1 hx.choose_spec.2.2]
theorem Ix{k s n:Int}{r:Request}{b:Bool}:fitA ⟨k,s,r,n,[],b⟩:=by
 unfold fitA;intro m hm;cases hm
theorem P6{k s n:Int}{r:Request}{b:Bool}{f:List UInt8→Int}(hf:∀ w, -9223372036854775808≤f w∧f w≤9223372036854775807){l:List (List UInt8)}:fitA ⟨k,s,r,n,l.map f,b⟩:=by
 unfold fitA
 intro m hm
 obtain⟨w,_,rfl⟩:=List.mem_map.1 hm
 exact hf w
theorem M1(w:List UInt8): -9223372036854775808≤Dk w∧Dk w≤9223372036854775807:=by
 unfold Dk
 split
 ·exact Lib.atoiAll_bounds (by assumption)
 ·exact Lib.atoiSat_bounds _
 ·omega
theorem zF(n:Int):(32:UInt8) ∉ Lib.itoa n:=Fu (by decide) (by decide) n
theorem Ajv{a:Act}(k:a.kind=1)(hm:Am a=true):Au a=[100,111]++32::(Lib.itoa a.server++32::Bq a.request):=by
 unfold Au Dt;rw[if_pos hm,if_pos k];simp[Lib.join]
theorem Aor{a:Act}(k:a.kind=1)(hm:Am a=true):Aa 32 (Au a)=[100,111]::Lib.itoa a.server::Aa 32 (Bq a.request):=by
 rw[Ajv k hm,Nk (by decide),Nk (zF _)]
theorem Atn{a:Act}(k:a.kind=2)(hm:Am a=true):Aa 32 (Au a)=[116,105,99,107]::a.picks.map Lib.itoa:=by
 unfold Au Dt;rw[if_pos hm,if_neg (by omega),if_pos k]
 refine Fg (by simp) fun w hw=>?_
 rcases List.mem_cons.1 hw with h|h
 ·rw[h];decide
 ·obtain⟨n,_,rfl⟩:=List.mem_map.1 h;exact zF n
theorem Ato{a:Act}(k:a.kind=3)(hm:Am a=true):Aa 32 (Au a)=[[102,117,115,101],Lib.itoa a.server,Lib.itoa a.n]:=by
 unfold Au Dt;rw[if_pos hm,if_neg (by omega),if_neg (by omega),if_pos k]
 refine Fg (by simp) fun w hw=>?_
 rcases List.mem_cons.1 hw with h|h
 ·rw[h];decide
 ·rcases List.mem_cons.1 h with h|h
  ·rw[h];exact zF _
  ·rw[List.mem_singleton.1 h];exact zF _
theorem Atp{a:Act}(k:a.kind=4)(hm:Am a=true):Aa 32 (Au a)=[99,114,97,115,104]::Lib.itoa a.server::a.picks.map Lib.itoa:=by
 unfold Au Dt;rw[if_pos hm,if_neg (by omega),if_neg (by omega),if_neg (by omega),if_pos k]
 refine Fg (by simp) fun w hw=>?_
 rcases List.mem_cons.1 hw with h|h
 ·rw[h];decide
 ·rcases List.mem_cons.1 h with h|h
  ·rw[h];exact zF _
  ·obtain⟨n,_,rfl⟩:=List.mem_map.1 h;exact zF n
theorem Ajw{a:Act}(k:a.kind=5)(hm:Am a=true):Au a=[99,97,108,109]++32::(if a.is=true then [121,101,115] else [110,111]):=by
 unfold Au Dt;rw[if_pos hm,if_neg (by omega),if_neg (by omega),if_neg (by omega),if_neg (by omega)];simp[Lib.join]
theorem Atq{a:Act}(k:a.kind=5)(hm:Am a=true):Aa 32 (Au a)=[[99,97,108,109],if a.is=true then [121,101,115] else [110,111]]:=by
 rw[Ajw k hm,Nk (by decide)]
 cases a.is
 ·rw[if_neg (by decide),Px (by decide)]
 ·rw[if_pos rfl,Px (by decide)]
def kwA(k:Int):List UInt8:=if k=1 then [100,111] else if k=2 then [116,105,99,107] else if k=3 then [102,117,115,101] else if k=4 then [99,114,97,115,104] else [99,97,108,109]
theorem Ang{a:Act}(hm:Am a=true):(Aa 32 (Au a)).getD 0 []=kwA a.kind:=by
 rcases En hm with k|k|k|k|k
 ·rw[Aor k hm,k];rfl
 ·rw[Atn k hm,k];rfl
 ·rw[Ato k hm,k];rfl
 ·rw[Atp k hm,k];rfl
 ·rw[Atq k hm,k];rfl
theorem Ag4{s:List UInt8}{a:Act}(hm:Am a=true)(hw:Au a=s):kwA a.kind=(Aa 32 s).getD 0 []:=by
 rw[←hw,Ang hm]
theorem Atr{k j:Int}(hk:k=1∨k=2∨k=3∨k=4∨k=5)(hj:j=1∨j=2∨j=3∨j=4∨j=5)(h:kwA k=kwA j):k=j:=by
 rcases hk with rfl|rfl|rfl|rfl|rfl<;>rcases hj with rfl|rfl|rfl|rfl|rfl<;>first|rfl|exact absurd h (by decide)
theorem Ag5{s:List UInt8}{a:Act}{j:Int}(hm:Am a=true)(hw:Au a=s)(hj:j=1∨j=2∨j=3∨j=4∨j=5)(h:(Aa 32 s).getD 0 []=kwA j):a.kind=j:=
 Atr (En hm) hj ((Ag4 hm hw).trans h)
theorem Ag6{s:List UInt8}(h1: ¬(Aa 32 s).getD 0 []=[100,111])(h2: ¬(Aa 32 s).getD 0 []=[116,105,99,107])(h3: ¬(Aa 32 s).getD 0 []=[102,117,115,101])(h4: ¬(Aa 32 s).getD 0 []=[99,114,97,115,104])(h5: ¬(Aa 32 s).getD 0 []=[99,97,108,109]):zE s=(Hw,4):=by
 refine Abh fun a hm _ hw=>?_
 have h:=Ag4 hm hw
 rcases En hm with k|k|k|k|k<;>rw[k] at h
 ·exact h1 h.symm
 ·exact h2 h.symm
 ·exact h3 h.symm
 ·exact h4 h.symm
 ·exact h5 h.symm
theorem Ut{l:List Int}(h:l.length=0):l=[]:=List.length_eq_zero_iff.1 h
theorem Nw{l:List Int}{f:List UInt8→Int}(hf:∀ n, -9223372036854775808≤n→n≤9223372036854775807→f (Lib.itoa n)=n)(h:∀ n ∈ l, -9223372036854775808≤n∧n≤9223372036854775807):(l.map Lib.itoa).map f=l:=by
 rw[List.map_map]
 refine(List.map_congr_left fun n hn=>?_).trans (List.map_id l)
 exact hf n (h n hn).1 (h n hn).2
@[irreducible] def Ph(s:List UInt8):List UInt8:=if Lib.hasPrefix s [100,111,32]=true then s.drop 3 else s
@[irreducible] def doP(s:List UInt8):List UInt8:=(Br 32 (Ph s)).2.1
@[irreducible] def doR(s:List UInt8):List UInt8:=s.drop (((Aa 32 s).getD 0 []).length+((Aa 32 s).getD 1 []).length+2)
theorem Ajx(s:List UInt8):(doP s).length≤s.length:=by
 unfold doP Ph
 refine Nat.le_trans (Py _ _).2 ?_
 split
 ·rw[List.length_drop];omega
 ·exact Nat.le_refl _
theorem Ats{a:Act}(k:a.kind=1)(hm:Am a=true):doP (Au a)=Bq a.request:=by
 unfold doP Ph
 rw[Ajv k hm]
 rw[if_pos (by simp[Lib.hasPrefix,List.isPrefixOf])]
 show(Br 32 (Lib.itoa a.server++32::Bq a.request)).2.1=_
 rw[Sa (zF _)]
theorem Att{a:Act}(k:a.kind=1)(hm:Am a=true):doR (Au a)=Bq a.request:=by
 unfold doR
 rw[Aor k hm,Ajv k hm]
 show List.drop (2+(Lib.itoa a.server).length+2) ([100,111]++32::(Lib.itoa a.server++32::Bq a.request))=_
 rw[show([100,111]++32::(Lib.itoa a.server++32::Bq a.request):List UInt8)=([100,111,32]++Lib.itoa a.server++[32])++Bq a.request by simp]
 exact List.drop_left' (by simp;omega)
theorem Atu{a:Act}(k:a.kind=1)(hm:Am a=true):a=⟨1,a.server,a.request,0,[],false⟩:=by
 obtain⟨_,_,f3,f4,f5⟩:=Mz k hm
 cases a;simp only at k f3 f5 f4;subst k f3 f5;rw[Ut f4]
theorem Atv{a:Act}(k:a.kind=2)(hm:Am a=true):a=⟨2,0,As,0,a.picks,false⟩:=by
 obtain⟨_,f2,f3,f4,f5⟩:=S0 k hm
 cases a;simp only at k f2 f3 f4 f5;subst k f2 f3 f4 f5;rfl
theorem Atw{a:Act}(k:a.kind=3)(hm:Am a=true):a=⟨3,a.server,As,a.n,[],false⟩:=by
 obtain⟨_,_,f3,f4,f5⟩:=M0 k hm
 cases a;simp only at k f3 f5 f4;subst k f3 f5;rw[Ut f4]
theorem Atx{a:Act}(k:a.kind=4)(hm:Am a=true):a=⟨4,a.server,As,0,a.picks,false⟩:=by
 obtain⟨_,_,f3,f4,f5⟩:=Pf k hm
 cases a;simp only at k f3 f4 f5;subst k f3 f4 f5;rfl
theorem Aty{a:Act}(k:a.kind=5)(hm:Am a=true):a=⟨5,0,As,0,[],a.is⟩:=by
 obtain⟨f1,f2,f3,f4⟩:=cC k hm
 cases a;simp only at k f1 f2 f3 f4;subst k f1 f2 f3;rw[Ut f4]
theorem Av4{a:Act}(k:a.kind=1)(hm:Am a=true):Qc (Bq a.request)=(a.request,0):=mP (Mz k hm).2.1
def A1(s:List UInt8):Act:=⟨1,(An ((Aa 32 s).getD 1 [])).1,(Qc (doP s)).1,0,[],false⟩
def B1(s:List UInt8):Act:=⟨1,Lx ((Aa 32 s).getD 1 []),(Qc (doR s)).1,0,[],false⟩
def A2(s:List UInt8):Act:=⟨2,0,As,0,((Aa 32 s).drop 1).map Dk,false⟩
def B2(s:List UInt8):Act:=⟨2,0,As,0,((Aa 32 s).drop 1).map rpV,false⟩
def A3(s:List UInt8):Act:=⟨3,(An ((Aa 32 s).getD 1 [])).1,As,(An ((Aa 32 s).getD 2 [])).1,[],false⟩
def B3(s:List UInt8):Act:=⟨3,Lx ((Aa 32 s).getD 1 []),As,Lx ((Aa 32 s).getD 2 []),[],false⟩
def A4(s:List UInt8):Act:=⟨4,(An ((Aa 32 s).getD 1 [])).1,As,0,((Aa 32 s).drop 2).map Dk,false⟩
def B4(s:List UInt8):Act:=⟨4,Lx ((Aa 32 s).getD 1 []),As,0,((Aa 32 s).drop 2).map rpV,false⟩
def A5(s:List UInt8):Act:=⟨5,0,As,0,[],decide ((Aa 32 s).getD 1 []=[121,101,115])⟩
def B5(s:List UInt8):Act:=⟨5,0,As,0,[],decide (s=[99,97,108,109,32,121,101,115])⟩
theorem wN{s:List UInt8}{a:Act}(h:(Aa 32 s).getD 0 []=[100,111])(hm:Am a=true)(hf:fitA a)(hw:Au a=s):A1 s=a∧B1 s=a∧(Qc (doP s)).2=0∧(Qc (doR s)).2=0∧3≤(Aa 32 s).length:=by
 have k:a.kind=1:=Ag5 hm hw (by decide) h
 have hb:=(Mz k hm).1
 subst hw
 have e:=Atu k hm
 unfold A1 B1
 rw[Ats k hm,Att k hm,Av4 k hm,Aor k hm]
 have hc:=Gp 32 (Bq a.request)
 refine⟨?_,?_,rfl,rfl,by simp only[List.length_cons];omega⟩
 ·refine Eq.trans ?_ e.symm
  show(⟨1,(An (Lib.itoa a.server)).1,a.request,0,[],false⟩:Act)=_
  rw[Bz hb.1 (by omega)]
 ·refine Eq.trans ?_ e.symm
  show(⟨1,Lx (Lib.itoa a.server),a.request,0,[],false⟩:Act)=_
  rw[Nm hb.1 (by omega)]
theorem Ag7{s:List UInt8}{a:Act}(h:(Aa 32 s).getD 0 []=[116,105,99,107])(hm:Am a=true)(hf:fitA a)(hw:Au a=s):A2 s=a∧B2 s=a:=by
 have k:a.kind=2:=Ag5 hm hw (by decide) h
 subst hw
 have e:=Atv k hm
 unfold fitA at hf
 unfold A2 B2
 rw[Atn k hm]
 constructor
 ·refine Eq.trans ?_ e.symm
  show(⟨2,0,As,0,(a.picks.map Lib.itoa).map Dk,false⟩:Act)=_
  rw[Nw (fun n=>cE) hf]
 ·refine Eq.trans ?_ e.symm
  show(⟨2,0,As,0,(a.picks.map Lib.itoa).map rpV,false⟩:Act)=_
  rw[Nw (fun n=>wK) hf]
theorem Ag8{s:List UInt8}{a:Act}(h:(Aa 32 s).getD 0 []=[102,117,115,101])(hm:Am a=true)(hf:fitA a)(hw:Au a=s):A3 s=a∧B3 s=a∧(Aa 32 s).length=3:=by
 have k:a.kind=3:=Ag5 hm hw (by decide) h
 have hb:=(M0 k hm).1
 have hn:=(M0 k hm).2.1
 subst hw
 have e:=Atw k hm
 unfold A3 B3
 rw[Ato k hm]
 refine⟨?_,?_,rfl⟩
 ·refine Eq.trans ?_ e.symm
  show(⟨3,(An (Lib.itoa a.server)).1,As,(An (Lib.itoa a.n)).1,[],false⟩:Act)=_
  rw[Bz hb.1 (by omega),Bz hn.1 (by omega)]
 ·refine Eq.trans ?_ e.symm
  show(⟨3,Lx (Lib.itoa a.server),As,Lx (Lib.itoa a.n),[],false⟩:Act)=_
  rw[Nm hb.1 (by omega),Nm hn.1 (by omega)]
theorem Ag9{s:List UInt8}{a:Act}(h:(Aa 32 s).getD 0 []=[99,114,97,115,104])(hm:Am a=true)(hf:fitA a)(hw:Au a=s):A4 s=a∧B4 s=a∧2≤(Aa 32 s).length:=by
 have k:a.kind=4:=Ag5 hm hw (by decide) h
 have hb:=(Pf k hm).2.1
 subst hw
 have e:=Atx k hm
 unfold fitA at hf
 unfold A4 B4
 rw[Atp k hm]
 refine⟨?_,?_,by simp only[List.length_cons];omega⟩
 ·refine Eq.trans ?_ e.symm
  show(⟨4,(An (Lib.itoa a.server)).1,As,0,(a.picks.map Lib.itoa).map Dk,false⟩:Act)=_
  rw[Bz hb.1 (by omega),Nw (fun n=>cE) hf]
 ·refine Eq.trans ?_ e.symm
  show(⟨4,Lx (Lib.itoa a.server),As,0,(a.picks.map Lib.itoa).map rpV,false⟩:Act)=_
  rw[Nm hb.1 (by omega),Nw (fun n=>wK) hf]
theorem Aha{s:List UInt8}{a:Act}(h:(Aa 32 s).getD 0 []=[99,97,108,109])(hm:Am a=true)(hf:fitA a)(hw:Au a=s):A5 s=a∧B5 s=a:=by
 have k:a.kind=5:=Ag5 hm hw (by decide) h
 subst hw
 have e:=Aty k hm
 unfold A5 B5
 rw[Atq k hm,Ajw k hm]
 constructor<;>(refine Eq.trans ?_ e.symm;cases a.is<;>rfl)
theorem Adg{a:Act}(hm:Am a=true)(hf:fitA a):zE (Au a)=(a,0):=by
 refine wM hm hf rfl fun b hb gb hw=>?_
 have h:=Ag4 hm (rfl:Au a=Au a)
 rcases En hm with k|k|k|k|k<;>rw[k] at h
 ·exact(wN h.symm hm hf rfl).1.symm.trans (wN h.symm hb gb hw).1
 ·exact(Ag7 h.symm hm hf rfl).1.symm.trans (Ag7 h.symm hb gb hw).1
 ·exact(Ag8 h.symm hm hf rfl).1.symm.trans (Ag8 h.symm hb gb hw).1
 ·exact(Ag9 h.symm hm hf rfl).1.symm.trans (Ag9 h.symm hb gb hw).1
 ·exact(Aha h.symm hm hf rfl).1.symm.trans (Aha h.symm hb gb hw).1
end
end Go.Vc.Z
