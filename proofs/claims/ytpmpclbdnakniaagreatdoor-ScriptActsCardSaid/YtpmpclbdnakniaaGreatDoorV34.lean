/- Acts' lines, of the kinds without picks. -/
import Derived.Test.YtpmpclbdnakniaaGreatDoorV33
import Derived.Test.YtpmpclbdnakniaaGreatDoorV32
import Derived.Test.YtpmpclbdnakniaaGreatDoorV14
set_option linter.all false
set_option linter.unusedVariables false
set_option linter.unusedSimpArgs false
namespace Go.Vc.Z
open Go Go.Vc Go.Proofs Go.RowKit Go.Pl Go.Lib
@[irreducible] noncomputable def Dk(a:Act):List (List UInt8):=
 if a.kind=1 then [[100,111],Lib.itoa a.server,Bf a.request]
 else if a.kind=2 then [116,105,99,107]::a.picks.map Lib.itoa
 else if a.kind=3 then [[102,117,115,101],Lib.itoa a.server,Lib.itoa a.n]
 else if a.kind=4 then [99,114,97,115,104]::Lib.itoa a.server::a.picks.map Lib.itoa
 else [[99,97,108,109],if a.is=true then [121,101,115] else [110,111]]
@[irreducible] noncomputable def Cc(a:Act):List UInt8:=if Ah a=true then Lib.join (Dk a) [32] else []
theorem Qu{a:Act}(h:a.kind=1)(hm:Ah a=true):(0≤a.server∧a.server<4)∧Af a.request=true∧a.n=0∧a.picks.length=0∧a.is=false:=by
 unfold Ah at hm;rw[if_pos h] at hm
 simp only[Bool.and_eq_true,decide_eq_true_eq,Bool.not_eq_true'] at hm
 exact⟨hm.1.1.1.1,hm.1.1.1.2,hm.1.1.2,hm.1.2,hm.2⟩
theorem Qv{a:Act}(h:a.kind=3)(hm:Ah a=true):(0≤a.server∧a.server<4)∧(0≤a.n∧a.n≤1000000)∧a.request=An∧a.picks.length=0∧a.is=false:=by
 unfold Ah at hm;rw[if_neg (by omega),if_neg (by omega),if_pos h] at hm
 simp only[Bool.and_eq_true,decide_eq_true_eq,Bool.not_eq_true',Ba] at hm
 exact⟨hm.1.1.1.1,hm.1.1.1.2,hm.1.1.2,hm.1.2,hm.2⟩
theorem lO{a:Act}(h:a.kind=5)(hm:Ah a=true):a.server=0∧a.request=An∧a.n=0∧a.picks.length=0:=by
 unfold Ah at hm;rw[if_neg (by omega),if_neg (by omega),if_neg (by omega),if_neg (by omega),if_pos h] at hm
 simp only[Bool.and_eq_true,decide_eq_true_eq,Ba] at hm
 exact⟨hm.1.1.1,hm.1.1.2,hm.1.2,hm.2⟩
theorem short_zero{r:Request}(h:r=An):Fy r:=by rw[h];exact⟨Nat.zero_le _,Nat.zero_le _⟩
theorem Tt{a:Act}(h:A0 [.agg a.enc]):A0 [.agg a.request.enc]:=by
 obtain⟨⟨_,_,h0,h1,h2,h3,h4,h5,h6,h7,h8,h9,h10,h11,_⟩,_⟩:=h
 exact⟨⟨h0,h1,h2,h3,h4,h5,h6,h7,h8,h9,h10,h11,True.intro⟩,True.intro⟩
theorem N4{r:Request}(hf:A0 [.agg r.enc]):(Bf r).length≤20000:=by
 unfold Bf;split
 ·exact Abe (by assumption) hf
 ·exact Nat.zero_le _
theorem Atz(a b:List UInt8):(Lib.join [a,b] [32]).length=a.length+b.length+1:=by
 simp[Lib.join];omega
theorem At0(a b c:List UInt8):(Lib.join [a,b,c] [32]).length=a.length+b.length+c.length+2:=by
 simp[Lib.join];omega
noncomputable section
set_option maxRecDepth 100000
attribute [local irreducible] inK Utf8.decode Utf8.encode Lib.itoa Pl.worth Pl.allDig
attribute [local irreducible] Lib.join Ca Aa
def Apc:PC:=PC.of (fun a:Act=>[.agg a.enc]) (fun a=>Ah a=true∧a.kind=1∧Fy a.request) (fun a=>.str (sS (Cc a)))
def O6:PT:=C8 [(24,Ur),(36,Ye),(46,Mg),(62,Ug)]
theorem Rm{W:World}(hW:Tabs W):Ct (Fw W) Tryz.prog O6:=(Ab Tryz.call24 (Z1 hW) (Ab Tryz.call36 (lJ hW) (Ab Tryz.call46 (Gf hW) (Ab Tryz.call62 (P2 hW) Av))))
def Hq:FuncId→Option Ctr:=Az O6 []
theorem Us{W:World}(hW:Tabs W):Ad (Fw W) Tryz.prog Hq:=(Aw (Rm hW))
def Apd:Act→Nat→Option LR:=fun a i=>cond (Nat.beq i 15) (some (.unroll 1)) (none)
set_option maxHeartbeats 2000000 in
theorem Ape{W:World}(hW:Tabs W):GoodP (Fw W) Tryz.prog 34 Apc:=by
 have hD:=Rm hW
 have hC0:∀ a:Act,Ad (Fw W) Tryz.prog Hq:=fun a=>(Us hW)
 refine As (D:=O6) (C:=fun a=>Hq) (wr:=(fun _=>false)) rfl Ao hD hC0 Tryz.func34 (Apd) (fun _=>rfl) ?_
 intro a hf hp
 obtain⟨hm,kk,hsh⟩:=hp
 obtain⟨f1,f2,f3,f4,f5⟩:=Qu kk hm
 have hlr:=N4 (Tt hf)
 clear hf
 have hno: ¬Ah a=false:=by rw[hm];exact Bool.true_eq_false.mp
 have hpk: ¬((0:Nat):Int)<(a.picks.length:Int):=by omega
 have hi:=Bv a.server (by omega) (by omega)
 have hp3:Dk a=[[100,111],Lib.itoa a.server,Bf a.request]:=by unfold Dk;rw[if_pos kk]
 have hw:Cc a=Lib.join [[100,111],Lib.itoa a.server,Bf a.request] [32]:=by unfold Cc;rw[if_pos hm,hp3]
 have hjl:(Lib.join [[100,111],Lib.itoa a.server,Bf a.request] [32]).length≤140737488355328:=by
  rw[At0];simp only[List.length_cons,List.length_nil];omega
 refine⟨a,hsh,?_,?_⟩
 ·exact Ac _
 (conv=>whnf)
 (repeat' ((first
  |(exact absurd (by with_reducible assumption) hno)
  |(exact absurd kk (by with_reducible assumption))
  |((with_reducible refine aI ?_ ?_);focus (first|with_reducible exact⟨⟩|exact tO))
  |(split<;>rename_i hh<;>(try simp only[wS] at hh))
  |fail)<;>(conv=>whnf)))
 refine⟨a.request,hsh,?_,?_⟩
 ·exact Ac _
 (conv=>whnf)
 (repeat' ((first
  |((with_reducible refine aI ?_ ?_);focus (first|with_reducible exact⟨⟩|omega))
  |(split<;>rename_i hh<;>(try simp only[wS] at hh))
  |with_reducible refine lnI fun hln=>?_
  |fail)<;>(conv=>whnf)))
 ·exfalso;omega
 ·refine⟨⟨by omega,fun e he=>?_⟩,?_⟩
  ·rcases(by omega:e=0∨e=1∨e=2) with rfl|rfl|rfl<;>rfl
  refine⟨(([[100,111],Lib.itoa a.server,Bf a.request],[32]):List (List UInt8) × List UInt8),⟨hjl,(nB rfl)⟩,?_,?_⟩
  ·(conv=>whnf)
   (repeat' ((first|with_reducible exact⟨⟩|((with_reducible refine aI ?_ ?_);focus (exact tA))|with_reducible refine iA ?_ ?_|fail)<;>(conv=>whnf)))
   all_goals (try simp only[wQ])
   all_goals try exact⟨rfl,rfl,fun h=>h,fun e he=>by rcases(by omega:e=0∨e=1∨e=2) with rfl|rfl|rfl<;>rfl⟩
   all_goals try (refine⟨fun h=>h,fun e he=>?_⟩;rcases(by omega:e=0∨e=1∨e=2) with rfl|rfl|rfl<;>rfl)
  (conv=>whnf)
  all_goals (try (show _=_;simp only[wQ]))
  all_goals (rw[hw];done)
def Apf:PC:=PC.of (fun a:Act=>[.agg a.enc]) (fun a=>Ah a=true∧a.kind=3) (fun a=>.str (sS (Cc a)))
def Apg:Act→Nat→Option LR:=fun a i=>cond (Nat.beq i 15) (some (.unroll 1)) (none)
set_option maxHeartbeats 2000000 in
theorem Aph{W:World}(hW:Tabs W):GoodP (Fw W) Tryz.prog 34 Apf:=by
 have hD:=Rm hW
 have hC0:∀ a:Act,Ad (Fw W) Tryz.prog Hq:=fun a=>(Us hW)
 refine As (D:=O6) (C:=fun a=>Hq) (wr:=(fun _=>false)) rfl Ao hD hC0 Tryz.func34 (Apg) (fun _=>rfl) ?_
 intro a hf hp
 clear hf
 obtain⟨hm,kk⟩:=hp
 obtain⟨f1,f2,f3,f4,f5⟩:=Qv kk hm
 have n1: ¬a.kind=1:=by omega
 have n2: ¬a.kind=2:=by omega
 have hno: ¬Ah a=false:=by rw[hm];exact Bool.true_eq_false.mp
 have hi:=Bv a.server (by omega) (by omega)
 have hj:=Bv a.n (by omega) (by omega)
 have hp3:Dk a=[[102,117,115,101],Lib.itoa a.server,Lib.itoa a.n]:=by unfold Dk;rw[if_neg n1,if_neg n2,if_pos kk]
 have hw:Cc a=Lib.join [[102,117,115,101],Lib.itoa a.server,Lib.itoa a.n] [32]:=by unfold Cc;rw[if_pos hm,hp3]
 have hjl:(Lib.join [[102,117,115,101],Lib.itoa a.server,Lib.itoa a.n] [32]).length≤140737488355328:=by
  rw[At0];simp only[List.length_cons,List.length_nil];omega
 refine⟨a,short_zero f3,?_,?_⟩
 ·exact Ac _
 (conv=>whnf)
 (repeat' ((first
  |(exact absurd (by with_reducible assumption) hno)
  |(exact absurd kk (by with_reducible assumption))
  |(exact absurd (by with_reducible assumption) n1)
  |(exact absurd (by with_reducible assumption) n2)
  |((with_reducible refine aI ?_ ?_);focus (first|with_reducible exact⟨⟩|exact tO|omega))
  |(split<;>rename_i hh<;>(try simp only[wS] at hh))
  |with_reducible refine lnI fun hln=>?_
  |fail)<;>(conv=>whnf)))
 ·exfalso;omega
 ·refine⟨⟨by omega,fun e he=>?_⟩,?_⟩
  ·rcases(by omega:e=0∨e=1∨e=2) with rfl|rfl|rfl<;>rfl
  refine⟨(([[102,117,115,101],Lib.itoa a.server,Lib.itoa a.n],[32]):List (List UInt8) × List UInt8),⟨hjl,(nB rfl)⟩,?_,?_⟩
  ·(conv=>whnf)
   (repeat' ((first|with_reducible exact⟨⟩|((with_reducible refine aI ?_ ?_);focus (exact tA))|with_reducible refine iA ?_ ?_|fail)<;>(conv=>whnf)))
   all_goals (try simp only[wQ])
   all_goals try exact⟨rfl,rfl,fun h=>h,fun e he=>by rcases(by omega:e=0∨e=1∨e=2) with rfl|rfl|rfl<;>rfl⟩
   all_goals try (refine⟨fun h=>h,fun e he=>?_⟩;rcases(by omega:e=0∨e=1∨e=2) with rfl|rfl|rfl<;>rfl)
  (conv=>whnf)
  all_goals (try (show _=_;simp only[wQ]))
  all_goals (rw[hw];done)
def Api:PC:=PC.of (fun a:Act=>[.agg a.enc]) (fun a=>Ah a=true∧a.kind=5) (fun a=>.str (sS (Cc a)))
def Apj:Act→Nat→Option LR:=fun a i=>cond (Nat.beq i 15) (some (.unroll 1)) (none)
set_option maxHeartbeats 2000000 in
theorem Apk{W:World}(hW:Tabs W):GoodP (Fw W) Tryz.prog 34 Api:=by
 have hD:=Rm hW
 have hC0:∀ a:Act,Ad (Fw W) Tryz.prog Hq:=fun a=>(Us hW)
 refine As (D:=O6) (C:=fun a=>Hq) (wr:=(fun _=>false)) rfl Ao hD hC0 Tryz.func34 (Apj) (fun _=>rfl) ?_
 intro a hf hp
 clear hf
 obtain⟨hm,kk⟩:=hp
 obtain⟨f1,f2,f3,f4⟩:=lO kk hm
 have n1: ¬a.kind=1:=by omega
 have n2: ¬a.kind=2:=by omega
 have n3: ¬a.kind=3:=by omega
 have n4: ¬a.kind=4:=by omega
 have hno: ¬Ah a=false:=by rw[hm];exact Bool.true_eq_false.mp
 have hp3:Dk a=[[99,97,108,109],if a.is=true then [121,101,115] else [110,111]]:=by unfold Dk;rw[if_neg n1,if_neg n2,if_neg n3,if_neg n4]
 rcases Bool.eq_false_or_eq_true a.is with hi|hi
 ·have hw:Cc a=Lib.join [[99,97,108,109],[121,101,115]] [32]:=by unfold Cc;rw[if_pos hm,hp3,hi];rfl
  have hjl:(Lib.join [[99,97,108,109],[121,101,115]] [32]).length≤140737488355328:=by
   rw[Atz];decide
  refine⟨a,short_zero f2,?_,?_⟩
  ·exact Ac _
  (conv=>whnf)
  (repeat' ((first
   |(exact absurd (by with_reducible assumption) hno)
   |(exact absurd (by with_reducible assumption) n1)
   |(exact absurd (by with_reducible assumption) n2)
   |(exact absurd (by with_reducible assumption) n3)
   |(exact absurd (by with_reducible assumption) n4)
   |((with_reducible refine aI ?_ ?_);focus (first|with_reducible exact⟨⟩|omega|decide))
   |(split<;>rename_i hh<;>(try simp only[wS] at hh))
   |with_reducible refine lnI fun hln=>?_
   |fail)<;>(conv=>whnf)))
  all_goals try (exfalso;omega)
  all_goals try (exfalso;simp_all;done)
  all_goals (
   refine⟨(([[99,97,108,109],[121,101,115]],[32]):List (List UInt8) × List UInt8),⟨hjl,(nB rfl)⟩,?_,?_⟩
   ·(conv=>whnf)
    (repeat' ((first|with_reducible exact⟨⟩|((with_reducible refine aI ?_ ?_);focus (exact tA))|with_reducible refine iA ?_ ?_|fail)<;>(conv=>whnf)))
    all_goals (try simp only[wQ])
    all_goals try exact⟨rfl,rfl,fun h=>h,fun e he=>by rcases(by omega:e=0∨e=1) with rfl|rfl<;>rfl⟩
    all_goals try (refine⟨fun h=>h,fun e he=>?_⟩;rcases(by omega:e=0∨e=1) with rfl|rfl<;>rfl)
   (conv=>whnf)
   all_goals (try (show _=_;simp only[wQ]))
   all_goals (rw[hw];done))
 ·have hw:Cc a=Lib.join [[99,97,108,109],[110,111]] [32]:=by unfold Cc;rw[if_pos hm,hp3,hi];rfl
  have hjl:(Lib.join [[99,97,108,109],[110,111]] [32]).length≤140737488355328:=by
   rw[Atz];decide
  refine⟨a,short_zero f2,?_,?_⟩
  ·exact Ac _
  (conv=>whnf)
  (repeat' ((first
   |(exact absurd (by with_reducible assumption) hno)
   |(exact absurd (by with_reducible assumption) n1)
   |(exact absurd (by with_reducible assumption) n2)
   |(exact absurd (by with_reducible assumption) n3)
   |(exact absurd (by with_reducible assumption) n4)
   |((with_reducible refine aI ?_ ?_);focus (first|with_reducible exact⟨⟩|omega|decide))
   |(split<;>rename_i hh<;>(try simp only[wS] at hh))
   |with_reducible refine lnI fun hln=>?_
   |fail)<;>(conv=>whnf)))
  all_goals try (exfalso;omega)
  all_goals try (exfalso;simp_all;done)
  all_goals (
   refine⟨(([[99,97,108,109],[110,111]],[32]):List (List UInt8) × List UInt8),⟨hjl,(nB rfl)⟩,?_,?_⟩
   ·(conv=>whnf)
    (repeat' ((first|with_reducible exact⟨⟩|((with_reducible refine aI ?_ ?_);focus (exact tA))|with_reducible refine iA ?_ ?_|fail)<;>(conv=>whnf)))
    all_goals (try simp only[wQ])
    all_goals try exact⟨rfl,rfl,fun h=>h,fun e he=>by rcases(by omega:e=0∨e=1) with rfl|rfl<;>rfl⟩
    all_goals try (refine⟨fun h=>h,fun e he=>?_⟩;rcases(by omega:e=0∨e=1) with rfl|rfl<;>rfl)
   (conv=>whnf)
   all_goals (try (show _=_;simp only[wQ]))
   all_goals (rw[hw];done))
end
end Go.Vc.Z
namespace Go.Vc.Z
open Go Go.Vc Go.Proofs Go.RowKit Go.Pl Go.Lib
theorem K2{a:Act}(h:A0 [.agg a.enc]):∀ i,i<a.picks.length→ -9223372036854775808≤a.picks.getD i 0∧a.picks.getD i 0≤9223372036854775807:=by
 obtain⟨⟨_,_,_,_,_,_,_,_,_,_,_,_,_,_,_,hp,_⟩,_⟩:=h
 intro i hi
 have h1:=(hp.2 i hi).2
 exact Ak.1 h1.1
theorem Yf{a:Act}(h:a.kind=2)(hm:Ah a=true):a.picks.length≤1000∧a.server=0∧a.request=An∧a.n=0∧a.is=false:=by
 unfold Ah at hm;rw[if_neg (by omega),if_pos h] at hm
 simp only[Bool.and_eq_true,decide_eq_true_eq,Bool.not_eq_true',Ba] at hm
 exact⟨hm.1.1.1.1,hm.1.1.1.2,hm.1.1.2,hm.1.2,hm.2⟩
theorem Tu{a:Act}(h:a.kind=4)(hm:Ah a=true):a.picks.length≤1000∧(0≤a.server∧a.server<4)∧a.request=An∧a.n=0∧a.is=false:=by
 unfold Ah at hm;rw[if_neg (by omega),if_neg (by omega),if_neg (by omega),if_pos h] at hm
 simp only[Bool.and_eq_true,decide_eq_true_eq,Bool.not_eq_true',Ba] at hm
 exact⟨hm.1.1.1.2,hm.1.1.1.1,hm.1.1.2,hm.1.2,hm.2⟩
theorem Ll{l:List Int}(h:∀ i,i<l.length→ -9223372036854775808≤l.getD i 0∧l.getD i 0≤9223372036854775807):∀ s ∈ l.map Lib.itoa,s.length≤200:=by
 intro s hs
 obtain⟨n,hn,rfl⟩:=List.mem_map.1 hs
 obtain⟨i,hi,rfl⟩:=List.getElem_of_mem hn
 have:=h i hi
 rw[List.getD_eq_getElem?_getD,List.getElem?_eq_getElem hi] at this
 have:=Bv l[i] this.1 this.2
 omega
noncomputable section
set_option maxRecDepth 100000
attribute [local irreducible] inK Utf8.decode Utf8.encode Lib.itoa Pl.worth Pl.allDig
attribute [local irreducible] Lib.join Ca Aa
def LAl(a:Act)(B:List (List UInt8)):LoopSpec:={
 α:=Nat × List (List UInt8)
 keep:=[3,48,49,50]
 vals x:=[Auy 2 x.2,slE 1 fZ a.picks,.int .i64 a.picks.length,.int .i64 x.1]
 heap x:=[.dead,.dead,Aux x.2]
 ok x:=x.1≤a.picks.length∧x.2=B++(a.picks.take x.1).map Lib.itoa
 μ x:=a.picks.length - x.1 }
def Apl:PC:=PC.of (fun a:Act=>[.agg a.enc]) (fun a=>Ah a=true∧a.kind=2) (fun a=>.str (sS (Cc a)))
def Apm:Act→Nat→Option LR:=fun a i=>cond (Nat.beq i 15) (some (.inv (LAl a ([[116,105,99,107]])))) (none)
set_option maxHeartbeats 2000000 in
theorem Apn{W:World}(hW:Tabs W):GoodP (Fw W) Tryz.prog 34 Apl:=by
 have hD:=Rm hW
 have hC0:∀ a:Act,Ad (Fw W) Tryz.prog Hq:=fun a=>(Us hW)
 refine As (D:=O6) (C:=fun a=>Hq) (wr:=(fun _=>false)) rfl Ao hD hC0 Tryz.func34 (Apm) (fun _=>rfl) ?_
 intro a hf hp
 have hpf:=Ll (K2 hf)
 clear hf
 obtain⟨hm,kk⟩:=hp
 obtain⟨f1,f2,f3,f4,f5⟩:=Yf kk hm
 have n1: ¬a.kind=1:=by omega
 skip
 skip
 have hno: ¬Ah a=false:=by rw[hm];exact Bool.true_eq_false.mp
 skip
 have hw:Cc a=Lib.join ([[116,105,99,107]]++a.picks.map Lib.itoa) [32]:=by unfold Cc Dk;rw[if_pos hm,if_neg n1];rw[if_pos kk];rfl
 have hall:∀ s ∈ [[116,105,99,107]]++a.picks.map Lib.itoa,s.length≤200:=fun s hs=>by
  rcases List.mem_append.1 hs with h|h
  ·simp only[List.mem_cons,List.not_mem_nil,or_false] at h
   rw[h];decide
  ·exact hpf s h
 refine⟨a,short_zero f3,?_,?_⟩
 ·exact Ac _
 (conv=>whnf)
 (repeat' ((first
  |(exact absurd (by with_reducible assumption) hno)
  |(exact absurd kk (by with_reducible assumption))
  |(exact absurd (by with_reducible assumption) n1)
  |(split<;>rename_i hh<;>(try simp only[wS] at hh))
  |with_reducible refine lnI fun hln=>?_
  |fail)<;>(conv=>whnf)))
 refine⟨?_,fun(x:Nat × List (List UInt8)) hx=>?_⟩
 ·(conv=>whnf)
  refine⟨((0,[[116,105,99,107]]):Nat × List (List UInt8)),[1],?_,⟨⟨rfl,(nB rfl),rfl⟩,?_,?_⟩⟩
  ·exact⟨Nat.zero_le _,by simp⟩
  ·exact tL
  ·(conv=>whnf)
   (repeat' ((first|with_reducible exact⟨⟩|((with_reducible refine aI ?_ ?_);focus (exact tA))|with_reducible refine iB ?_ ?_|fail)<;>(conv=>whnf)))
   all_goals (try simp only[wQ])
   intro e he
   have he:e<1:=he
   obtain rfl:e=0:=by omega
   exact⟨rfl,rfl⟩
 ·obtain⟨i,L⟩:=x
  obtain⟨h1,h2⟩:=hx
  change i≤a.picks.length at h1
  change L=[[116,105,99,107]]++(a.picks.take i).map Lib.itoa at h2
  have hlen:L.length=1+i:=by rw[h2];simp;omega
  have hstep:i<a.picks.length→L++[Lib.itoa (a.picks.getD (Int.toNat (i:Int)) default)]=[[116,105,99,107]]++(a.picks.take (i+1)).map Lib.itoa:=fun h=>by
   rw[h2,List.append_assoc,List.take_add_one,List.map_append,List.getElem?_eq_getElem h]
   have:a.picks.getD (Int.toNat (i:Int)) default=a.picks[i]:=by
    rw[show Int.toNat (i:Int)=i from rfl,List.getD_eq_getElem?_getD,List.getElem?_eq_getElem h];rfl
   rw[this];rfl
  rcases L with _|⟨s,L⟩
  ·exact absurd hlen (by simp;omega)
  ·have hlen2:L.length+1=1+i:=hlen
   (conv=>whnf)
   (repeat' ((first
    |((with_reducible refine aI ?_ ?_);focus (first|with_reducible exact⟨⟩|((with_reducible refine⟨?_,?_,?_⟩)<;>first|(intro e he;rcases(by omega:e=0∨e=1∨e=2∨e=3∨e=4∨e=5) with rfl|rfl|rfl|rfl|rfl|rfl<;>first|rfl|(exfalso;omega))|(with_reducible assumption)|omega|((with_reducible show Ap _ _);simp only[Ap,ty2,ty3,ty4,ty5,ty9,Cu,Ck,Cv,Cl,Cq,Cw,Cx,Cy,Bm,Bl,Bn,Bo,Bp,Bq,Br,List.length_cons,List.length_nil];first|omega|(refine⟨?_,?_⟩<;>omega)))|omega|exact tK))
    |(split<;>rename_i hh<;>(try simp only[wS] at hh))
    |fail)<;>(conv=>whnf)))
   ·have hi2:i<a.picks.length:=Int.ofNat_lt.1 (by assumption)
    (conv=>whnf)
    refine⟨((i+1,s::L++[Lib.itoa (a.picks.getD (Int.toNat (i:Int)) default)]):Nat × List (List UInt8)),[4],?_,⟨⟨rfl,(nB rfl),rfl⟩,?_,?_⟩⟩
    ·exact⟨⟨show i+1≤a.picks.length by omega,hstep hi2⟩,show a.picks.length - (i+1)<a.picks.length - i by omega⟩
    ·(conv=>whnf)
     (repeat' ((first|with_reducible exact⟨⟩|((with_reducible refine aI ?_ ?_);focus (exact tA))|with_reducible refine iA ?_ ?_|fail)<;>(conv=>whnf)))
     all_goals (try simp only[wQ])
     all_goals (try first|omega|exact⟨fun h=>h,fun _ _=>True.intro⟩)
     all_goals (try first|exact⟨by simp,Or.inl trivial⟩)
     all_goals (try simp)
    ·(conv=>whnf)
     (repeat' ((first|with_reducible exact⟨⟩|((with_reducible refine aI ?_ ?_);focus (exact tA))|with_reducible refine iB ?_ ?_|fail)<;>(conv=>whnf)))
     all_goals (try simp only[wQ])
     exact⟨by simp,fun e he=>⟨Xl (l:=s::L) rfl (fun _ _=>rfl) rfl (by simpa using he),rfl⟩⟩
   ·have hie:i=a.picks.length:=by omega
    rw[hie,List.take_length] at h2
    refine⟨⟨by omega,fun e he=>rfl⟩,?_⟩
    refine⟨((s::L,[32]):List (List UInt8) × List UInt8),⟨by have:=K4 [32] 200 (s::L) (by rw[h2];exact hall);simp at this;show(Lib.join (s::L) [32]).length≤_;omega,by show(s::L).length≤_;simp;omega⟩,?_,?_⟩
    ·exact tL
    (conv=>whnf)
    all_goals (try (show _=_;simp only[wQ]))
    all_goals (rw[hw,h2];done)
def Apo:PC:=PC.of (fun a:Act=>[.agg a.enc]) (fun a=>Ah a=true∧a.kind=4) (fun a=>.str (sS (Cc a)))
def App:Act→Nat→Option LR:=fun a i=>cond (Nat.beq i 15) (some (.inv (LAl a ([[99,114,97,115,104],Lib.itoa a.server])))) (none)
set_option maxHeartbeats 2000000 in
theorem Apq{W:World}(hW:Tabs W):GoodP (Fw W) Tryz.prog 34 Apo:=by
 have hD:=Rm hW
 have hC0:∀ a:Act,Ad (Fw W) Tryz.prog Hq:=fun a=>(Us hW)
 refine As (D:=O6) (C:=fun a=>Hq) (wr:=(fun _=>false)) rfl Ao hD hC0 Tryz.func34 (App) (fun _=>rfl) ?_
 intro a hf hp
 have hpf:=Ll (K2 hf)
 clear hf
 obtain⟨hm,kk⟩:=hp
 obtain⟨f1,f2,f3,f4,f5⟩:=Tu kk hm
 have n1: ¬a.kind=1:=by omega
 have n2: ¬a.kind=2:=by omega
 have n3: ¬a.kind=3:=by omega
 have hno: ¬Ah a=false:=by rw[hm];exact Bool.true_eq_false.mp
 have hi:=Bv a.server (by omega) (by omega)
 have hw:Cc a=Lib.join ([[99,114,97,115,104],Lib.itoa a.server]++a.picks.map Lib.itoa) [32]:=by unfold Cc Dk;rw[if_pos hm,if_neg n1];rw[if_neg n2,if_neg n3,if_pos kk];rfl
 have hall:∀ s ∈ [[99,114,97,115,104],Lib.itoa a.server]++a.picks.map Lib.itoa,s.length≤200:=fun s hs=>by
  rcases List.mem_append.1 hs with h|h
  ·simp only[List.mem_cons,List.not_mem_nil,or_false] at h
   rcases h with h|h<;>rw[h];decide;omega
  ·exact hpf s h
 refine⟨a,short_zero f3,?_,?_⟩
 ·exact Ac _
 (conv=>whnf)
 (repeat' ((first
  |(exact absurd (by with_reducible assumption) hno)
  |(exact absurd kk (by with_reducible assumption))
  |(exact absurd (by with_reducible assumption) n1)
  |(exact absurd (by with_reducible assumption) n2)
  |(exact absurd (by with_reducible assumption) n3)
  |((with_reducible refine aI ?_ ?_);focus (with_reducible exact⟨⟩))
  |(split<;>rename_i hh<;>(try simp only[wS] at hh))
  |with_reducible refine lnI fun hln=>?_
  |fail)<;>(conv=>whnf)))
 refine⟨?_,fun(x:Nat × List (List UInt8)) hx=>?_⟩
 ·(conv=>whnf)
  refine⟨((0,[[99,114,97,115,104],Lib.itoa a.server]):Nat × List (List UInt8)),[1],?_,⟨⟨rfl,(nB rfl),rfl⟩,?_,?_⟩⟩
  ·exact⟨Nat.zero_le _,by simp⟩
  ·exact tL
  ·(conv=>whnf)
   (repeat' ((first|with_reducible exact⟨⟩|((with_reducible refine aI ?_ ?_);focus (exact tA))|with_reducible refine iB ?_ ?_|fail)<;>(conv=>whnf)))
   all_goals (try simp only[wQ])
   intro e he
   have he:e<2:=he
   rcases(by omega:e=0∨e=1) with rfl|rfl<;>exact⟨rfl,rfl⟩
 ·obtain⟨i,L⟩:=x
  obtain⟨h1,h2⟩:=hx
  change i≤a.picks.length at h1
  change L=[[99,114,97,115,104],Lib.itoa a.server]++(a.picks.take i).map Lib.itoa at h2
  have hlen:L.length=2+i:=by rw[h2];simp;omega
  have hstep:i<a.picks.length→L++[Lib.itoa (a.picks.getD (Int.toNat (i:Int)) default)]=[[99,114,97,115,104],Lib.itoa a.server]++(a.picks.take (i+1)).map Lib.itoa:=fun h=>by
   rw[h2,List.append_assoc,List.take_add_one,List.map_append,List.getElem?_eq_getElem h]
   have:a.picks.getD (Int.toNat (i:Int)) default=a.picks[i]:=by
    rw[show Int.toNat (i:Int)=i from rfl,List.getD_eq_getElem?_getD,List.getElem?_eq_getElem h];rfl
   rw[this];rfl
  rcases L with _|⟨s,L⟩
  ·exact absurd hlen (by simp;omega)
  ·have hlen2:L.length+1=2+i:=hlen
   (conv=>whnf)
   (repeat' ((first
    |((with_reducible refine aI ?_ ?_);focus (first|with_reducible exact⟨⟩|((with_reducible refine⟨?_,?_,?_⟩)<;>first|(intro e he;rcases(by omega:e=0∨e=1∨e=2∨e=3∨e=4∨e=5) with rfl|rfl|rfl|rfl|rfl|rfl<;>first|rfl|(exfalso;omega))|(with_reducible assumption)|omega|((with_reducible show Ap _ _);simp only[Ap,ty2,ty3,ty4,ty5,ty9,Cu,Ck,Cv,Cl,Cq,Cw,Cx,Cy,Bm,Bl,Bn,Bo,Bp,Bq,Br,List.length_cons,List.length_nil];first|omega|(refine⟨?_,?_⟩<;>omega)))|omega|exact tK))
    |(split<;>rename_i hh<;>(try simp only[wS] at hh))
    |fail)<;>(conv=>whnf)))
   ·have hi2:i<a.picks.length:=Int.ofNat_lt.1 (by assumption)
    (conv=>whnf)
    refine⟨((i+1,s::L++[Lib.itoa (a.picks.getD (Int.toNat (i:Int)) default)]):Nat × List (List UInt8)),[4],?_,⟨⟨rfl,(nB rfl),rfl⟩,?_,?_⟩⟩
    ·exact⟨⟨show i+1≤a.picks.length by omega,hstep hi2⟩,show a.picks.length - (i+1)<a.picks.length - i by omega⟩
    ·(conv=>whnf)
     (repeat' ((first|with_reducible exact⟨⟩|((with_reducible refine aI ?_ ?_);focus (exact tA))|with_reducible refine iA ?_ ?_|fail)<;>(conv=>whnf)))
     all_goals (try simp only[wQ])
     all_goals (try first|omega|exact⟨fun h=>h,fun _ _=>True.intro⟩)
     all_goals (try first|exact⟨by simp,Or.inl trivial⟩)
     all_goals (try simp)
    ·(conv=>whnf)
     (repeat' ((first|with_reducible exact⟨⟩|((with_reducible refine aI ?_ ?_);focus (exact tA))|with_reducible refine iB ?_ ?_|fail)<;>(conv=>whnf)))
     all_goals (try simp only[wQ])
     exact⟨by simp,fun e he=>⟨Xl (l:=s::L) rfl (fun _ _=>rfl) rfl (by simpa using he),rfl⟩⟩
   ·have hie:i=a.picks.length:=by omega
    rw[hie,List.take_length] at h2
    refine⟨⟨by omega,fun e he=>rfl⟩,?_⟩
    refine⟨((s::L,[32]):List (List UInt8) × List UInt8),⟨by have:=K4 [32] 200 (s::L) (by rw[h2];exact hall);simp at this;show(Lib.join (s::L) [32]).length≤_;omega,by show(s::L).length≤_;simp;omega⟩,?_,?_⟩
    ·exact tL
    (conv=>whnf)
    all_goals (try (show _=_;simp only[wQ]))
    all_goals (rw[hw,h2];done)
end
end Go.Vc.Z
namespace Go.Vc.Z
open Go Go.Vc Go.Proofs Go.RowKit Go.Pl Go.Lib
theorem Gd{a:Act}(h:Ah a=true):a.kind=1∨a.kind=2∨a.kind=3∨a.kind=4∨a.kind=5:=by
 unfold Ah at h
 by_cases h1:a.kind=1
 ·exact .inl h1
 by_cases h2:a.kind=2
 ·exact .inr (.inl h2)
 by_cases h3:a.kind=3
 ·exact .inr (.inr (.inl h3))
 by_cases h4:a.kind=4
 ·exact .inr (.inr (.inr (.inl h4)))
 by_cases h5:a.kind=5
 ·exact .inr (.inr (.inr (.inr h5)))
 rw[if_neg h1,if_neg h2,if_neg h3,if_neg h4,if_neg h5] at h;cases h
theorem Ahn{a:Act}(h:Ah a=false):Cc a=[]:=by unfold Cc;rw[h];rfl
noncomputable section
set_option maxRecDepth 100000
attribute [local irreducible] inK Utf8.decode Utf8.encode Lib.itoa Pl.worth Pl.allDig
attribute [local irreducible] Lib.join Ca Aa
def Apr:PC:=PC.of (fun a:Act=>[.agg a.enc]) (fun a=>Ah a=false∧Fy a.request) (fun a=>.str (sS (Cc a)))
def Ank:Act→Nat→Option LR:=fun a i=>cond (Nat.beq i 15) (some (.unroll 1)) (none)
set_option maxHeartbeats 2000000 in
theorem Anl{W:World}(hW:Tabs W):GoodP (Fw W) Tryz.prog 34 Apr:=by
 have hD:=Rm hW
 have hC0:∀ a:Act,Ad (Fw W) Tryz.prog Hq:=fun a=>(Us hW)
 refine As (D:=O6) (C:=fun a=>Hq) (wr:=(fun _=>false)) rfl Ao hD hC0 Tryz.func34 (Ank) (fun _=>rfl) ?_
 intro a hf hp
 clear hf
 obtain⟨hm,hsh⟩:=hp
 have hno: ¬Ah a=true:=by rw[hm];exact Bool.false_ne_true
 have hw:Cc a=[]:=Ahn hm
 refine⟨a,hsh,?_,?_⟩
 ·exact Ac _
 (conv=>whnf)
 (repeat' ((first
  |(exact absurd (by with_reducible assumption) hno)
  |(split<;>rename_i hh<;>(try simp only[wS] at hh))
  |fail)<;>(conv=>whnf)))
 all_goals (try (show _=_;simp only[wQ]))
 all_goals (rw[hw];done)
def Z3:PC:=PC.of (fun a:Act=>[.agg a.enc]) (fun a=>Fy a.request) (fun a=>.str (sS (Cc a)))
theorem wA{W:World}(hW:Tabs W):GoodP (Fw W) Tryz.prog 34 Z3:=by
 intro S w cs vs Q hs hv hT
 obtain⟨a,h1,h2,h3⟩:=hT
 cases hm:Ah a
 ·exact Anl hW S w cs vs Q hs hv ⟨a,⟨hm,h1⟩,h2,h3⟩
 ·rcases Gd hm with k|k|k|k|k
  ·exact Ape hW S w cs vs Q hs hv ⟨a,⟨hm,k,h1⟩,h2,h3⟩
  ·exact Apn hW S w cs vs Q hs hv ⟨a,⟨hm,k⟩,h2,h3⟩
  ·exact Aph hW S w cs vs Q hs hv ⟨a,⟨hm,k⟩,h2,h3⟩
  ·exact Apq hW S w cs vs Q hs hv ⟨a,⟨hm,k⟩,h2,h3⟩
  ·exact Apk hW S w cs vs Q hs hv ⟨a,⟨hm,k⟩,h2,h3⟩
end
end Go.Vc.Z
namespace Go.Vc.Z
open Go Go.Vc Go.Proofs Go.RowKit Go.Pl Go.Lib
theorem Adv{n:Int}(h0: -9223372036854775808≤n)(h1:n≤9223372036854775807):rpV (Lib.itoa n)=n:=by
 by_cases hs:Lib.itoa n=[45,57,50,50,51,51,55,50,48,51,54,56,53,52,55,55,53,56,48,56]
 ·rw[Am3 hs]
  unfold Lib.itoa at hs
  split at hs
  ·injection hs with _ hs
   have:=congrArg worth hs
   rw[Eo] at this
   have e:worth [57,50,50,51,51,55,50,48,51,54,56,53,52,55,55,53,56,48,56]=9223372036854775808:=by decide
   rw[e] at this
   omega
  ·have:=congrArg allDig hs
   rw[D6] at this
   exact absurd this (by decide)
 ·rw[Am4 hs]
  unfold Lib.itoa at hs ⊢
  split
  ·rename_i hn
   have hp:Ay 45 (45::decDigits n.natAbs)=decDigits n.natAbs:=by unfold Ay;rw[if_pos (by simp[Lib.hasPrefix,List.isPrefixOf])];rfl
   rw[if_pos hn] at hs
   have hw:=Eo n.natAbs
   have hz: ¬45::decDigits n.natAbs=[45,48]:=fun e=>by
    injection e with _ e
    have:=congrArg worth e
    rw[hw] at this
    have e2:worth [48]=0:=by decide
    omega
   have hm:n≠ -9223372036854775808:=fun e=>hs (by
    subst e
    show 45::decDigits 9223372036854775808=_
    have:=oL (s:=[57,50,50,51,51,55,50,48,51,54,56,53,52,55,55,53,56,48,56]) (by decide) (by decide) (fun t h=>by injection h with h _;exact absurd h (by decide))
    rw[show worth [57,50,50,51,51,55,50,48,51,54,56,53,52,55,55,53,56,48,56]=9223372036854775808 by decide] at this
    rw[this])
   rw[Ac9 hp (Qc _) hz (by rw[hw];omega) (fun e=>by have:=congrArg List.length e;simp at this),hw]
   show -((n.natAbs:Nat):Int)=n
   omega
  ·rename_i hn
   have hp:Ay 45 (decDigits n.toNat)=decDigits n.toNat:=by
    refine Qf fun _ h=>?_
    have hd:=D5.1 (D6 n.toNat)
    cases hc:decDigits n.toNat with
    |nil=>exact absurd hc (xI _)
    |cons c t=>
     rw[hc] at h hd
     have:=hd c (by simp)
     have h:c=45:=h
     rw[h] at this
     exact absurd this.1 (by decide)
   have hw:=Eo n.toNat
   have hz: ¬decDigits n.toNat=[45,48]:=fun e=>by
    have:=D6 n.toNat
    rw[e] at this
    exact absurd this (by decide)
   rw[kX hp (Qc _) hz (by rw[hw];omega) rfl,hw]
   show((n.toNat:Nat):Int)=n
   omega
end Go.Vc.Z
namespace Go.Vc.Z
open Go Go.Vc Go.Proofs Go.RowKit Go.Pl Go.Lib
theorem Adw:∀ (l:List UInt8) (acc:Nat),allDig l=true→acc*10 ^ l.length+worth l≤9223372036854775808→Lib.parseUint10 acc l= .ok (acc*10 ^ l.length+worth l)
 |[],acc,_,_=>by simp[Lib.parseUint10,worth]
 |c::r,acc,hd,hl=>by
  have hc:=D5.1 hd c (by simp)
  have hr:allDig r=true:=D5.2 fun d hm=>D5.1 hd d (List.mem_cons_of_mem _ hm)
  have e:acc*10 ^ (c::r).length+worth (c::r)=(acc*10+(c.toNat - 48))*10 ^ r.length+worth r:=by
   rw[Mx,List.length_cons,Nat.pow_succ,Nat.add_mul,Nat.mul_assoc acc 10,Nat.mul_comm 10,Nat.add_assoc]
  rw[e] at hl ⊢
  have hk:0<10 ^ r.length:=Nat.pow_pos (by decide)
  have h1:acc*10+(c.toNat - 48)≤(acc*10+(c.toNat - 48))*10 ^ r.length:=Nat.le_mul_of_pos_right _ hk
  rw[Lib.parseUint10,if_pos hc,if_neg (by omega),if_neg (by omega)]
  exact Adw r _ hr hl
theorem Anm{u:Nat}(h:u≤9223372036854775808):Lib.parseMag (decDigits u)= .ok u:=by
 have:=Adw (decDigits u) 0 (D6 u) (by rw[Eo];omega)
 rw[Eo,Nat.zero_mul,Nat.zero_add] at this
 unfold Lib.parseMag;rw[if_neg (xI u),this]
theorem Ann{D:List UInt8}{u:Nat}(h:Lib.parseMag D= .ok u)(hu:u≤9223372036854775808):Lib.atoiAll (45::D)= .ok (-(u:Int)):=by
 rw[Lib.atoiAll_minus,h]
 show(if 9223372036854775808<u then _ else _)=_
 rw[if_neg (by omega)]
theorem Ano{c:UInt8}{t:List UInt8}{u:Nat}(hc:48≤c.toNat)(h:Lib.parseMag (c::t)= .ok u)(hu:u<9223372036854775808):Lib.atoiAll (c::t)= .ok (u:Int):=by
 rw[Lib.atoiAll_plain c t (by omega) (by omega),h]
 show(if 9223372036854775808≤u then _ else _)=_
 rw[if_neg (by omega)]
theorem lP{n:Int}(h0: -9223372036854775808≤n)(h1:n≤9223372036854775807):Dw (Lib.itoa n)=n:=by
 have e:Lib.atoiAll (Lib.itoa n)= .ok n:=by
  unfold Lib.itoa
  split
  ·rename_i hn
   rw[Ann (Anm (show n.natAbs≤9223372036854775808 by omega)) (by omega)]
   exact congrArg _ (by omega)
  ·rename_i hn
   have hm:=Anm (show n.toNat≤9223372036854775808 by omega)
   have hd:=D5.1 (D6 n.toNat)
   cases hc:decDigits n.toNat with
   |nil=>exact absurd hc (xI _)
   |cons c t=>
    rw[hc] at hm hd
    rw[Ano (hd c (by simp)).1 hm (by omega)]
    exact congrArg _ (by omega)
 unfold Dw;rw[e]
end Go.Vc.Z
namespace Go.Vc.Z
open Go Go.Vc Go.Proofs Go.RowKit Go.Pl Go.Lib
noncomputable section
abbrev D1:Act:=⟨0,0,An,0,[],false⟩
@[irreducible] def fitA(a:Act):Prop:=∀ n ∈ a.picks, -9223372036854775808≤n∧n≤9223372036854775807
open Classical in
@[irreducible] def lV(s:List UInt8):Act × Int:=if h:∃ a,Ah a=true∧fitA a∧Cc a=s then(h.choose,0) else(D1,4)
theorem cZ{s:List UInt8}(h:∀ a,Ah a=true→fitA a→Cc a=s→False):lV s=(D1,4):=by
 unfold lV
 rw[dif_neg]
 rintro⟨a,h1,h2,h3⟩
 exact h a h1 h2 h3
theorem lW{s:List UInt8}{A:Act}(h1:Ah A=true)(h2:fitA A)(h3:Cc A=s)(h:∀ a,Ah a=true→fitA a→Cc a=s→A=a):lV s=(A,0):=by
 have hx:∃ a,Ah a=true∧fitA a∧Cc a=s:=⟨A,h1,h2,h3⟩
 unfold lV
 rw[dif_pos hx,←h _ hx.choose_spec.1 hx.choose_spec.2.1 hx.choose_spec.2.2]
theorem Gz{k s n:Int}{r:Request}{b:Bool}:fitA ⟨k,s,r,n,[],b⟩:=by
 unfold fitA;intro m hm;cases hm
theorem J4{k s n:Int}{r:Request}{b:Bool}{f:List UInt8→Int}(hf:∀ w, -9223372036854775808≤f w∧f w≤9223372036854775807){l:List (List UInt8)}:fitA ⟨k,s,r,n,l.map f,b⟩:=by
 unfold fitA
 intro m hm
 obtain⟨w,_,rfl⟩:=List.mem_map.1 hm
 exact hf w
theorem Qw(w:List UInt8): -9223372036854775808≤Dw w∧Dw w≤9223372036854775807:=by
 unfold Dw
 split
 ·exact Lib.atoiAll_bounds (by assumption)
 ·exact Lib.atoiSat_bounds _
 ·omega
theorem lY(w:List UInt8): -9223372036854775808≤rpV w∧rpV w≤9223372036854775807:=by
 unfold rpV Ma
 repeat' split
 all_goals omega
theorem Afo(n:Int):(32:UInt8) ∉ Lib.itoa n:=Fl (by decide) (by decide) n
theorem Aps{a:Act}(k:a.kind=1)(hm:Ah a=true):Cc a=[100,111]++32::(Lib.itoa a.server++32::Bf a.request):=by
 unfold Cc Dk;rw[if_pos hm,if_pos k];simp[Lib.join]
theorem Avh{a:Act}(k:a.kind=1)(hm:Ah a=true):Aa 32 (Cc a)=[100,111]::Lib.itoa a.server::Aa 32 (Bf a.request):=by
 rw[Aps k hm,Jr (by decide),Jr (Afo _)]
theorem A0j{a:Act}(k:a.kind=2)(hm:Ah a=true):Aa 32 (Cc a)=[116,105,99,107]::a.picks.map Lib.itoa:=by
 unfold Cc Dk;rw[if_pos hm,if_neg (by omega),if_pos k]
 refine Ko (by simp) fun w hw=>?_
 rcases List.mem_cons.1 hw with h|h
 ·rw[h];decide
 ·obtain⟨n,_,rfl⟩:=List.mem_map.1 h;exact Afo n
theorem A0k{a:Act}(k:a.kind=3)(hm:Ah a=true):Aa 32 (Cc a)=[[102,117,115,101],Lib.itoa a.server,Lib.itoa a.n]:=by
 unfold Cc Dk;rw[if_pos hm,if_neg (by omega),if_neg (by omega),if_pos k]
 refine Ko (by simp) fun w hw=>?_
 rcases List.mem_cons.1 hw with h|h
 ·rw[h];decide
 ·rcases List.mem_cons.1 h with h|h
  ·rw[h];exact Afo _
  ·rw[List.mem_singleton.1 h];exact Afo _
theorem A0l{a:Act}(k:a.kind=4)(hm:Ah a=true):Aa 32 (Cc a)=[99,114,97,115,104]::Lib.itoa a.server::a.picks.map Lib.itoa:=by
 unfold Cc Dk;rw[if_pos hm,if_neg (by omega),if_neg (by omega),if_neg (by omega),if_pos k]
 refine Ko (by simp) fun w hw=>?_
 rcases List.mem_cons.1 hw with h|h
 ·rw[h];decide
 ·rcases List.mem_cons.1 h with h|h
  ·rw[h];exact Afo _
  ·obtain⟨n,_,rfl⟩:=List.mem_map.1 h;exact Afo n
theorem Avi{a:Act}(k:a.kind=5)(hm:Ah a=true):Cc a=[99,97,108,109]++32::(if a.is=true then [121,101,115] else [110,111]):=by
 unfold Cc Dk;rw[if_pos hm,if_neg (by omega),if_neg (by omega),if_neg (by omega),if_neg (by omega)];simp[Lib.join]
theorem A0m{a:Act}(k:a.kind=5)(hm:Ah a=true):Aa 32 (Cc a)=[[99,97,108,109],if a.is=true then [121,101,115] else [110,111]]:=by
 rw[Avi k hm,Jr (by decide)]
 cases a.is
 ·rw[if_neg (by decide),K5 (by decide)]
 ·rw[if_pos rfl,K5 (by decide)]
def kwA(k:Int):List UInt8:=if k=1 then [100,111] else if k=2 then [116,105,99,107] else if k=3 then [102,117,115,101] else if k=4 then [99,114,97,115,104] else [99,97,108,109]
theorem A0n{a:Act}(hm:Ah a=true):(Aa 32 (Cc a)).getD 0 []=kwA a.kind:=by
 rcases Gd hm with k|k|k|k|k
 ·rw[Avh k hm,k];rfl
 ·rw[A0j k hm,k];rfl
 ·rw[A0k k hm,k];rfl
 ·rw[A0l k hm,k];rfl
 ·rw[A0m k hm,k];rfl
theorem Anp{s:List UInt8}{a:Act}(hm:Ah a=true)(hw:Cc a=s):kwA a.kind=(Aa 32 s).getD 0 []:=by
 rw[←hw,A0n hm]
theorem A0o{k j:Int}(hk:k=1∨k=2∨k=3∨k=4∨k=5)(hj:j=1∨j=2∨j=3∨j=4∨j=5)(h:kwA k=kwA j):k=j:=by
 rcases hk with rfl|rfl|rfl|rfl|rfl<;>rcases hj with rfl|rfl|rfl|rfl|rfl<;>first|rfl|exact absurd h (by decide)
theorem Anq{s:List UInt8}{a:Act}{j:Int}(hm:Ah a=true)(hw:Cc a=s)(hj:j=1∨j=2∨j=3∨j=4∨j=5)(h:(Aa 32 s).getD 0 []=kwA j):a.kind=j:=
 A0o (Gd hm) hj ((Anp hm hw).trans h)
theorem wB{s:List UInt8}(h1: ¬(Aa 32 s).getD 0 []=[100,111])(h2: ¬(Aa 32 s).getD 0 []=[116,105,99,107])(h3: ¬(Aa 32 s).getD 0 []=[102,117,115,101])(h4: ¬(Aa 32 s).getD 0 []=[99,114,97,115,104])(h5: ¬(Aa 32 s).getD 0 []=[99,97,108,109]):lV s=(D1,4):=by
 refine cZ fun a hm _ hw=>?_
 have h:=Anp hm hw
 rcases Gd hm with k|k|k|k|k<;>rw[k] at h
 ·exact h1 h.symm
 ·exact h2 h.symm
 ·exact h3 h.symm
 ·exact h4 h.symm
 ·exact h5 h.symm
theorem Z4{l:List Int}(h:l.length=0):l=[]:=List.length_eq_zero_iff.1 h
theorem Rn{l:List Int}{f:List UInt8→Int}(hf:∀ n, -9223372036854775808≤n→n≤9223372036854775807→f (Lib.itoa n)=n)(h:∀ n ∈ l, -9223372036854775808≤n∧n≤9223372036854775807):(l.map Lib.itoa).map f=l:=by
 rw[List.map_map]
 refine(List.map_congr_left fun n hn=>?_).trans (List.map_id l)
 exact hf n (h n hn).1 (h n hn).2
@[irreducible] def Tv(s:List UInt8):List UInt8:=if Lib.hasPrefix s [100,111,32]=true then s.drop 3 else s
@[irreducible] def doP(s:List UInt8):List UInt8:=(Ca 32 (Tv s)).2.1
@[irreducible] def doR(s:List UInt8):List UInt8:=s.drop (((Aa 32 s).getD 0 []).length+((Aa 32 s).getD 1 []).length+2)
theorem Apt(s:List UInt8):(doP s).length≤s.length:=by
 unfold doP Tv
 refine Nat.le_trans (Uk _ _).2 ?_
 split
 ·rw[List.length_drop];omega
 ·exact Nat.le_refl _
theorem Apu(s:List UInt8):(doR s).length≤s.length:=by
 unfold doR;rw[List.length_drop];omega
theorem A0p{a:Act}(k:a.kind=1)(hm:Ah a=true):doP (Cc a)=Bf a.request:=by
 unfold doP Tv
 rw[Aps k hm]
 rw[if_pos (by simp[Lib.hasPrefix,List.isPrefixOf])]
 show(Ca 32 (Lib.itoa a.server++32::Bf a.request)).2.1=_
 rw[Uj (Afo _)]
theorem A0q{a:Act}(k:a.kind=1)(hm:Ah a=true):doR (Cc a)=Bf a.request:=by
 unfold doR
 rw[Avh k hm,Aps k hm]
 show List.drop (2+(Lib.itoa a.server).length+2) ([100,111]++32::(Lib.itoa a.server++32::Bf a.request))=_
 rw[show([100,111]++32::(Lib.itoa a.server++32::Bf a.request):List UInt8)=([100,111,32]++Lib.itoa a.server++[32])++Bf a.request by simp]
 exact List.drop_left' (by simp;omega)
theorem A0r{a:Act}(k:a.kind=1)(hm:Ah a=true):a=⟨1,a.server,a.request,0,[],false⟩:=by
 obtain⟨_,_,f3,f4,f5⟩:=Qu k hm
 cases a;simp only at k f3 f5 f4;subst k f3 f5;rw[Z4 f4]
theorem A0s{a:Act}(k:a.kind=2)(hm:Ah a=true):a=⟨2,0,An,0,a.picks,false⟩:=by
 obtain⟨_,f2,f3,f4,f5⟩:=Yf k hm
 cases a;simp only at k f2 f3 f4 f5;subst k f2 f3 f4 f5;rfl
theorem A0t{a:Act}(k:a.kind=3)(hm:Ah a=true):a=⟨3,a.server,An,a.n,[],false⟩:=by
 obtain⟨_,_,f3,f4,f5⟩:=Qv k hm
 cases a;simp only at k f3 f5 f4;subst k f3 f5;rw[Z4 f4]
theorem A0u{a:Act}(k:a.kind=4)(hm:Ah a=true):a=⟨4,a.server,An,0,a.picks,false⟩:=by
 obtain⟨_,_,f3,f4,f5⟩:=Tu k hm
 cases a;simp only at k f3 f4 f5;subst k f3 f4 f5;rfl
theorem A0v{a:Act}(k:a.kind=5)(hm:Ah a=true):a=⟨5,0,An,0,[],a.is⟩:=by
 obtain⟨f1,f2,f3,f4⟩:=lO k hm
 cases a;simp only at k f1 f2 f3 f4;subst k f1 f2 f3;rw[Z4 f4]
theorem A2g{a:Act}(k:a.kind=1)(hm:Ah a=true):R6 (Bf a.request)=(a.request,0):=pI (Qu k hm).2.1
def A1(s:List UInt8):Act:=⟨1,(Aq ((Aa 32 s).getD 1 [])).1,(R6 (doP s)).1,0,[],false⟩
def B1(s:List UInt8):Act:=⟨1,A9 ((Aa 32 s).getD 1 []),(R6 (doR s)).1,0,[],false⟩
def A2(s:List UInt8):Act:=⟨2,0,An,0,((Aa 32 s).drop 1).map Dw,false⟩
def B2(s:List UInt8):Act:=⟨2,0,An,0,((Aa 32 s).drop 1).map rpV,false⟩
def A3(s:List UInt8):Act:=⟨3,(Aq ((Aa 32 s).getD 1 [])).1,An,(Aq ((Aa 32 s).getD 2 [])).1,[],false⟩
def B3(s:List UInt8):Act:=⟨3,A9 ((Aa 32 s).getD 1 []),An,A9 ((Aa 32 s).getD 2 []),[],false⟩
def A4(s:List UInt8):Act:=⟨4,(Aq ((Aa 32 s).getD 1 [])).1,An,0,((Aa 32 s).drop 2).map Dw,false⟩
def B4(s:List UInt8):Act:=⟨4,A9 ((Aa 32 s).getD 1 []),An,0,((Aa 32 s).drop 2).map rpV,false⟩
def A5(s:List UInt8):Act:=⟨5,0,An,0,[],decide ((Aa 32 s).getD 1 []=[121,101,115])⟩
def B5(s:List UInt8):Act:=⟨5,0,An,0,[],decide (s=[99,97,108,109,32,121,101,115])⟩
theorem cI{s:List UInt8}{a:Act}(h:(Aa 32 s).getD 0 []=[100,111])(hm:Ah a=true)(hf:fitA a)(hw:Cc a=s):A1 s=a∧B1 s=a∧(R6 (doP s)).2=0∧(R6 (doR s)).2=0∧3≤(Aa 32 s).length:=by
 have k:a.kind=1:=Anq hm hw (by decide) h
 have hb:=(Qu k hm).1
 subst hw
 have e:=A0r k hm
 unfold A1 B1
 rw[A0p k hm,A0q k hm,A2g k hm,Avh k hm]
 have hc:=Ei 32 (Bf a.request)
 refine⟨?_,?_,rfl,rfl,by simp only[List.length_cons];omega⟩
 ·refine Eq.trans ?_ e.symm
  show(⟨1,(Aq (Lib.itoa a.server)).1,a.request,0,[],false⟩:Act)=_
  rw[C3 hb.1 (by omega)]
 ·refine Eq.trans ?_ e.symm
  show(⟨1,A9 (Lib.itoa a.server),a.request,0,[],false⟩:Act)=_
  rw[C4 hb.1 (by omega)]
theorem Adx{s:List UInt8}{a:Act}(h:(Aa 32 s).getD 0 []=[116,105,99,107])(hm:Ah a=true)(hf:fitA a)(hw:Cc a=s):A2 s=a∧B2 s=a:=by
 have k:a.kind=2:=Anq hm hw (by decide) h
 subst hw
 have e:=A0s k hm
 unfold fitA at hf
 unfold A2 B2
 rw[A0j k hm]
 constructor
 ·refine Eq.trans ?_ e.symm
  show(⟨2,0,An,0,(a.picks.map Lib.itoa).map Dw,false⟩:Act)=_
  rw[Rn (fun n=>lP) hf]
 ·refine Eq.trans ?_ e.symm
  show(⟨2,0,An,0,(a.picks.map Lib.itoa).map rpV,false⟩:Act)=_
  rw[Rn (fun n=>Adv) hf]
theorem yM{s:List UInt8}{a:Act}(h:(Aa 32 s).getD 0 []=[102,117,115,101])(hm:Ah a=true)(hf:fitA a)(hw:Cc a=s):A3 s=a∧B3 s=a∧(Aa 32 s).length=3:=by
 have k:a.kind=3:=Anq hm hw (by decide) h
 have hb:=(Qv k hm).1
 have hn:=(Qv k hm).2.1
 subst hw
 have e:=A0t k hm
 unfold A3 B3
 rw[A0k k hm]
 refine⟨?_,?_,rfl⟩
 ·refine Eq.trans ?_ e.symm
  show(⟨3,(Aq (Lib.itoa a.server)).1,An,(Aq (Lib.itoa a.n)).1,[],false⟩:Act)=_
  rw[C3 hb.1 (by omega),C3 hn.1 (by omega)]
 ·refine Eq.trans ?_ e.symm
  show(⟨3,A9 (Lib.itoa a.server),An,A9 (Lib.itoa a.n),[],false⟩:Act)=_
  rw[C4 hb.1 (by omega),C4 hn.1 (by omega)]
theorem Ady{s:List UInt8}{a:Act}(h:(Aa 32 s).getD 0 []=[99,114,97,115,104])(hm:Ah a=true)(hf:fitA a)(hw:Cc a=s):A4 s=a∧B4 s=a∧2≤(Aa 32 s).length:=by
 have k:a.kind=4:=Anq hm hw (by decide) h
 have hb:=(Tu k hm).2.1
 subst hw
 have e:=A0u k hm
 unfold fitA at hf
 unfold A4 B4
 rw[A0l k hm]
 refine⟨?_,?_,by simp only[List.length_cons];omega⟩
 ·refine Eq.trans ?_ e.symm
  show(⟨4,(Aq (Lib.itoa a.server)).1,An,0,(a.picks.map Lib.itoa).map Dw,false⟩:Act)=_
  rw[C3 hb.1 (by omega),Rn (fun n=>lP) hf]
 ·refine Eq.trans ?_ e.symm
  show(⟨4,A9 (Lib.itoa a.server),An,0,(a.picks.map Lib.itoa).map rpV,false⟩:Act)=_
  rw[C4 hb.1 (by omega),Rn (fun n=>Adv) hf]
theorem Adz{s:List UInt8}{a:Act}(h:(Aa 32 s).getD 0 []=[99,97,108,109])(hm:Ah a=true)(hf:fitA a)(hw:Cc a=s):A5 s=a∧B5 s=a:=by
 have k:a.kind=5:=Anq hm hw (by decide) h
 subst hw
 have e:=A0v k hm
 unfold A5 B5
 rw[A0m k hm,Avi k hm]
 constructor<;>(refine Eq.trans ?_ e.symm;cases a.is<;>rfl)
theorem wC{a:Act}(hm:Ah a=true)(hf:fitA a):lV (Cc a)=(a,0):=by
 refine lW hm hf rfl fun b hb gb hw=>?_
 have h:=Anp hm (rfl:Cc a=Cc a)
 rcases Gd hm with k|k|k|k|k<;>rw[k] at h
 ·exact(cI h.symm hm hf rfl).1.symm.trans (cI h.symm hb gb hw).1
 ·exact(Adx h.symm hm hf rfl).1.symm.trans (Adx h.symm hb gb hw).1
 ·exact(yM h.symm hm hf rfl).1.symm.trans (yM h.symm hb gb hw).1
 ·exact(Ady h.symm hm hf rfl).1.symm.trans (Ady h.symm hb gb hw).1
 ·exact(Adz h.symm hm hf rfl).1.symm.trans (Adz h.symm hb gb hw).1
end
end Go.Vc.Z
