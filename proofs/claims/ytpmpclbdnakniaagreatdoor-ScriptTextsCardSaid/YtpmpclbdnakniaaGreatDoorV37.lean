/- Acts' lines, of the kinds without picks. -/
import Derived.Test.YtpmpclbdnakniaaGreatDoorV36
import Derived.Test.YtpmpclbdnakniaaGreatDoorV35
import Derived.Test.YtpmpclbdnakniaaGreatDoorV27
set_option linter.all false
set_option maxHeartbeats 8000000
namespace Go.Vc.Z
open Go Go.Vc Go.Proofs Go.RowKit Go.Pl Go.Lib
@[irreducible] noncomputable def Cx(a:Act):List (List UInt8):=
 if a.kind=1 then [[100,111],Lib.itoa a.server,Be a.request]
 else if a.kind=2 then [116,105,99,107]::a.picks.map Lib.itoa
 else if a.kind=3 then [[102,117,115,101],Lib.itoa a.server,Lib.itoa a.n]
 else if a.kind=4 then [99,114,97,115,104]::Lib.itoa a.server::a.picks.map Lib.itoa
 else [[99,97,108,109],if a.is=true then [121,101,115] else [110,111]]
@[irreducible] noncomputable def Bh(a:Act):List UInt8:=if Ag a=true then Lib.join (Cx a) [32] else []
theorem O0{a:Act}(h:a.kind=1)(hm:Ag a=true):(0≤a.server∧a.server<4)∧Af a.request=true∧a.n=0∧a.picks.length=0∧a.is=false:=by
 unfold Ag at hm;rw[if_pos h] at hm;simp only[Bool.and_eq_true,decide_eq_true_eq,Bool.not_eq_true'] at hm;exact⟨hm.1.1.1.1,hm.1.1.1.2,hm.1.1.2,hm.1.2,hm.2⟩
theorem O1{a:Act}(h:a.kind=3)(hm:Ag a=true):(0≤a.server∧a.server<4)∧(0≤a.n∧a.n≤1000000)∧a.request=An∧a.picks.length=0∧a.is=false:=by
 unfold Ag at hm;rw[if_neg (by omega),if_neg (by omega),if_pos h] at hm
 simp only[Bool.and_eq_true,decide_eq_true_eq,Bool.not_eq_true',Bc] at hm;exact⟨hm.1.1.1.1,hm.1.1.1.2,hm.1.1.2,hm.1.2,hm.2⟩
theorem aT{a:Act}(h:a.kind=5)(hm:Ag a=true):a.server=0∧a.request=An∧a.n=0∧a.picks.length=0:=by
 unfold Ag at hm;rw[if_neg (by omega),if_neg (by omega),if_neg (by omega),if_neg (by omega),if_pos h] at hm
 simp only[Bool.and_eq_true,decide_eq_true_eq,Bc] at hm;exact⟨hm.1.1.1,hm.1.1.2,hm.1.2,hm.2⟩
theorem short_zero{r:Request}(h:r=An):Eh r:=by rw[h];exact⟨Nat.zero_le _,Nat.zero_le _⟩
theorem Vn{a:Act}(h:Az [.agg a.enc]):Az [.agg a.request.enc]:=by
 obtain⟨⟨_,_,h0,h1,h2,h3,h4,h5,h6,h7,h8,h9,h10,h11,_⟩,_⟩:=h;exact⟨⟨h0,h1,h2,h3,h4,h5,h6,h7,h8,h9,h10,h11,True.intro⟩,True.intro⟩
theorem O2{r:Request}(hf:Az [.agg r.enc]):(Be r).length≤20000:=by
 unfold Be;split
 ·exact Ae9 (by assumption) hf
 ·exact Nat.zero_le _
theorem Asr(a b:List UInt8):(Lib.join [a,b] [32]).length=a.length+b.length+1:=by
 simp[Lib.join];omega
theorem Azy(a b c:List UInt8):(Lib.join [a,b,c] [32]).length=a.length+b.length+c.length+2:=by
 simp[Lib.join];omega
noncomputable section
set_option maxRecDepth 100000
attribute [local irreducible] inK Utf8.decode Utf8.encode Lib.itoa Pl.worth Pl.allDig
attribute [local irreducible] Lib.join Bp Aa
def Au7:PC:=PC.of (fun a:Act=>[.agg a.enc]) (fun a=>Ag a=true∧a.kind=1∧Eh a.request) (fun a=>.str (sS (Bh a)))
def P9:PT:=Cg [(24,Wl),(36,aS),(46,Lo),(62,Sl)]
theorem S7{W:World}(hW:Tabs W):Cb (Fw W) Tryz.prog P9:=(Ab Tryz.call24 (cW hW) (Ab Tryz.call36 (qN hW) (Ab Tryz.call46 (Er hW) (Ab Tryz.call62 (Nn hW) Aq))))
def Hr:FuncId→Option Ctr:=Av P9 []
theorem Wn{W:World}(hW:Tabs W):Ad (Fw W) Tryz.prog Hr:=(Ar (S7 hW))
def Au8:Act→Nat→Option LR:=fun a i=>cond (Nat.beq i 15) (some (.unroll 1)) (none)
theorem Au9{W:World}(hW:Tabs W):GoodP (Fw W) Tryz.prog 34 Au7:=by
 have hD:=S7 hW;have hC0:∀ a:Act,Ad (Fw W) Tryz.prog Hr:=fun a=>(Wn hW);refine As (D:=P9) (C:=fun a=>Hr) (wr:=(fun _=>false)) rfl Ao hD hC0 Tryz.func34 (Au8) (fun _=>rfl) ?_;intro a hf hp;obtain⟨hm,kk,hsh⟩:=hp;obtain⟨f1,f2,f3,f4,f5⟩:=O0 kk hm;have hlr:=O2 (Vn hf);clear hf;have hno: ¬Ag a=false:=by rw[hm];exact Bool.true_eq_false.mp
 have hpk: ¬((0:Nat):Int)<(a.picks.length:Int):=by omega
 have hi:=Bj a.server (by omega) (by omega)
 have hp3:Cx a=[[100,111],Lib.itoa a.server,Be a.request]:=by unfold Cx;rw[if_pos kk]
 have hw:Bh a=Lib.join [[100,111],Lib.itoa a.server,Be a.request] [32]:=by unfold Bh;rw[if_pos hm,hp3]
 have hjl:(Lib.join [[100,111],Lib.itoa a.server,Be a.request] [32]).length≤140737488355328:=by
  rw[Azy];simp only[List.length_cons,List.length_nil];omega
 refine⟨a,hsh,?_,?_⟩
 ·exact Ac _
 (conv=>whnf)
 (repeat' (first|(exact absurd (by with_reducible assumption) hno)|(exact absurd kk (by with_reducible assumption))|refine⟨tU,?_⟩|split<;>rename_i hh<;>try simp only[wS] at hh)<;>conv=>whnf)
 refine⟨a.request,hsh,?_,?_⟩
 ·exact Ac _
 (conv=>whnf)
 (repeat' (first|refine⟨tU,?_⟩|split<;>rename_i hh<;>try simp only[wS] at hh|with_reducible refine lnI fun hln=>?_)<;>conv=>whnf)
 ·exfalso;omega
 ·refine⟨⟨by omega,fun e he=>?_⟩,?_⟩
  ·rcases(by omega:e=0∨e=1∨e=2) with rfl|rfl|rfl<;>rfl
  refine⟨(([[100,111],Lib.itoa a.server,Be a.request],[32]):List (List UInt8) × List UInt8),⟨hjl,(nB rfl)⟩,?_,?_⟩
  ·(conv=>whnf)
   (repeat' (first|with_reducible exact⟨⟩|refine⟨tA,?_⟩|with_reducible refine iA ?_ ?_)<;>conv=>whnf)
   all_goals try simp only[wQ]
   all_goals try exact⟨rfl,rfl,fun h=>h,fun e he=>by rcases(by omega:e=0∨e=1∨e=2) with rfl|rfl|rfl<;>rfl⟩
   all_goals try (refine⟨fun h=>h,fun e he=>?_⟩;rcases(by omega:e=0∨e=1∨e=2) with rfl|rfl|rfl<;>rfl)
  (conv=>whnf)
  all_goals try(show _=_;simp only[wQ])
  all_goals (rw[hw];done)
def Ava:PC:=PC.of (fun a:Act=>[.agg a.enc]) (fun a=>Ag a=true∧a.kind=3) (fun a=>.str (sS (Bh a)))
def Avb:Act→Nat→Option LR:=fun a i=>cond (Nat.beq i 15) (some (.unroll 1)) (none)
theorem Avc{W:World}(hW:Tabs W):GoodP (Fw W) Tryz.prog 34 Ava:=by
 have hD:=S7 hW;have hC0:∀ a:Act,Ad (Fw W) Tryz.prog Hr:=fun a=>(Wn hW);refine As (D:=P9) (C:=fun a=>Hr) (wr:=(fun _=>false)) rfl Ao hD hC0 Tryz.func34 (Avb) (fun _=>rfl) ?_;intro a hf hp;clear hf;obtain⟨hm,kk⟩:=hp;obtain⟨f1,f2,f3,f4,f5⟩:=O1 kk hm;have n1: ¬a.kind=1:=by omega
 have n2: ¬a.kind=2:=by omega
 have hno: ¬Ag a=false:=by rw[hm];exact Bool.true_eq_false.mp
 have hi:=Bj a.server (by omega) (by omega)
 have hj:=Bj a.n (by omega) (by omega)
 have hp3:Cx a=[[102,117,115,101],Lib.itoa a.server,Lib.itoa a.n]:=by unfold Cx;rw[if_neg n1,if_neg n2,if_pos kk]
 have hw:Bh a=Lib.join [[102,117,115,101],Lib.itoa a.server,Lib.itoa a.n] [32]:=by unfold Bh;rw[if_pos hm,hp3]
 have hjl:(Lib.join [[102,117,115,101],Lib.itoa a.server,Lib.itoa a.n] [32]).length≤140737488355328:=by
  rw[Azy];simp only[List.length_cons,List.length_nil];omega
 refine⟨a,short_zero f3,?_,?_⟩
 ·exact Ac _
 (conv=>whnf)
 (repeat' (first|(exact absurd (by with_reducible assumption) hno)|(exact absurd kk (by with_reducible assumption))|(exact absurd (by with_reducible assumption) n1)|(exact absurd (by with_reducible assumption) n2)|refine⟨tU,?_⟩|split<;>rename_i hh<;>try simp only[wS] at hh|with_reducible refine lnI fun hln=>?_)<;>conv=>whnf)
 ·exfalso;omega
 ·refine⟨⟨by omega,fun e he=>?_⟩,?_⟩
  ·rcases(by omega:e=0∨e=1∨e=2) with rfl|rfl|rfl<;>rfl
  refine⟨(([[102,117,115,101],Lib.itoa a.server,Lib.itoa a.n],[32]):List (List UInt8) × List UInt8),⟨hjl,(nB rfl)⟩,?_,?_⟩
  ·(conv=>whnf)
   (repeat' (first|with_reducible exact⟨⟩|refine⟨tA,?_⟩|with_reducible refine iA ?_ ?_)<;>conv=>whnf)
   all_goals try simp only[wQ]
   all_goals try exact⟨rfl,rfl,fun h=>h,fun e he=>by rcases(by omega:e=0∨e=1∨e=2) with rfl|rfl|rfl<;>rfl⟩
   all_goals try (refine⟨fun h=>h,fun e he=>?_⟩;rcases(by omega:e=0∨e=1∨e=2) with rfl|rfl|rfl<;>rfl)
  (conv=>whnf)
  all_goals try(show _=_;simp only[wQ])
  all_goals (rw[hw];done)
def Avd:PC:=PC.of (fun a:Act=>[.agg a.enc]) (fun a=>Ag a=true∧a.kind=5) (fun a=>.str (sS (Bh a)))
def Ave:Act→Nat→Option LR:=fun a i=>cond (Nat.beq i 15) (some (.unroll 1)) (none)
theorem Avf{W:World}(hW:Tabs W):GoodP (Fw W) Tryz.prog 34 Avd:=by
 have hD:=S7 hW;have hC0:∀ a:Act,Ad (Fw W) Tryz.prog Hr:=fun a=>(Wn hW);refine As (D:=P9) (C:=fun a=>Hr) (wr:=(fun _=>false)) rfl Ao hD hC0 Tryz.func34 (Ave) (fun _=>rfl) ?_;intro a hf hp;clear hf;obtain⟨hm,kk⟩:=hp;obtain⟨f1,f2,f3,f4⟩:=aT kk hm;have n1: ¬a.kind=1:=by omega
 have n2: ¬a.kind=2:=by omega
 have n3: ¬a.kind=3:=by omega
 have n4: ¬a.kind=4:=by omega
 have hno: ¬Ag a=false:=by rw[hm];exact Bool.true_eq_false.mp
 have hp3:Cx a=[[99,97,108,109],if a.is=true then [121,101,115] else [110,111]]:=by unfold Cx;rw[if_neg n1,if_neg n2,if_neg n3,if_neg n4]
 rcases Bool.eq_false_or_eq_true a.is with hi|hi
 ·have hw:Bh a=Lib.join [[99,97,108,109],[121,101,115]] [32]:=by unfold Bh;rw[if_pos hm,hp3,hi];rfl
  have hjl:(Lib.join [[99,97,108,109],[121,101,115]] [32]).length≤140737488355328:=by
   rw[Asr];decide
  refine⟨a,short_zero f2,?_,?_⟩
  ·exact Ac _
  (conv=>whnf)
  (repeat' (first|(exact absurd (by with_reducible assumption) hno)|(exact absurd (by with_reducible assumption) n1)|(exact absurd (by with_reducible assumption) n2)|(exact absurd (by with_reducible assumption) n3)|(exact absurd (by with_reducible assumption) n4)|refine⟨tU,?_⟩|split<;>rename_i hh<;>try simp only[wS] at hh|with_reducible refine lnI fun hln=>?_)<;>conv=>whnf)
  all_goals try (exfalso;omega)
  all_goals try (exfalso;simp_all;done)
  all_goals (
   refine⟨(([[99,97,108,109],[121,101,115]],[32]):List (List UInt8) × List UInt8),⟨hjl,(nB rfl)⟩,?_,?_⟩
   ·(conv=>whnf)
    (repeat' (first|with_reducible exact⟨⟩|refine⟨tA,?_⟩|with_reducible refine iA ?_ ?_)<;>conv=>whnf)
    all_goals try simp only[wQ]
    all_goals try exact⟨rfl,rfl,fun h=>h,fun e he=>by rcases(by omega:e=0∨e=1) with rfl|rfl<;>rfl⟩
    all_goals try (refine⟨fun h=>h,fun e he=>?_⟩;rcases(by omega:e=0∨e=1) with rfl|rfl<;>rfl)
   (conv=>whnf)
   all_goals try(show _=_;simp only[wQ])
   all_goals (rw[hw];done))
 ·have hw:Bh a=Lib.join [[99,97,108,109],[110,111]] [32]:=by unfold Bh;rw[if_pos hm,hp3,hi];rfl
  have hjl:(Lib.join [[99,97,108,109],[110,111]] [32]).length≤140737488355328:=by
   rw[Asr];decide
  refine⟨a,short_zero f2,?_,?_⟩
  ·exact Ac _
  (conv=>whnf)
  (repeat' (first|(exact absurd (by with_reducible assumption) hno)|(exact absurd (by with_reducible assumption) n1)|(exact absurd (by with_reducible assumption) n2)|(exact absurd (by with_reducible assumption) n3)|(exact absurd (by with_reducible assumption) n4)|refine⟨tU,?_⟩|split<;>rename_i hh<;>try simp only[wS] at hh|with_reducible refine lnI fun hln=>?_)<;>conv=>whnf)
  all_goals try (exfalso;omega)
  all_goals try (exfalso;simp_all;done)
  all_goals (
   refine⟨(([[99,97,108,109],[110,111]],[32]):List (List UInt8) × List UInt8),⟨hjl,(nB rfl)⟩,?_,?_⟩
   ·(conv=>whnf)
    (repeat' (first|with_reducible exact⟨⟩|refine⟨tA,?_⟩|with_reducible refine iA ?_ ?_)<;>conv=>whnf)
    all_goals try simp only[wQ]
    all_goals try exact⟨rfl,rfl,fun h=>h,fun e he=>by rcases(by omega:e=0∨e=1) with rfl|rfl<;>rfl⟩
    all_goals try (refine⟨fun h=>h,fun e he=>?_⟩;rcases(by omega:e=0∨e=1) with rfl|rfl<;>rfl)
   (conv=>whnf)
   all_goals try(show _=_;simp only[wQ])
   all_goals (rw[hw];done))
end
end Go.Vc.Z
namespace Go.Vc.Z
open Go Go.Vc Go.Proofs Go.RowKit Go.Pl Go.Lib
theorem O3{a:Act}(h:Az [.agg a.enc]):∀ i,i<a.picks.length→ -9223372036854775808≤a.picks.getD i 0∧a.picks.getD i 0≤9223372036854775807:=by
 obtain⟨⟨_,_,_,_,_,_,_,_,_,_,_,_,_,_,_,hp,_⟩,_⟩:=h;intro i hi;have h1:=(hp.2 i hi).2;exact Aw.1 h1.1
theorem Vo{a:Act}(h:a.kind=2)(hm:Ag a=true):a.picks.length≤1000∧a.server=0∧a.request=An∧a.n=0∧a.is=false:=by
 unfold Ag at hm;rw[if_neg (by omega),if_pos h] at hm
 simp only[Bool.and_eq_true,decide_eq_true_eq,Bool.not_eq_true',Bc] at hm;exact⟨hm.1.1.1.1,hm.1.1.1.2,hm.1.1.2,hm.1.2,hm.2⟩
theorem R1{a:Act}(h:a.kind=4)(hm:Ag a=true):a.picks.length≤1000∧(0≤a.server∧a.server<4)∧a.request=An∧a.n=0∧a.is=false:=by
 unfold Ag at hm;rw[if_neg (by omega),if_neg (by omega),if_neg (by omega),if_pos h] at hm
 simp only[Bool.and_eq_true,decide_eq_true_eq,Bool.not_eq_true',Bc] at hm;exact⟨hm.1.1.1.2,hm.1.1.1.1,hm.1.1.2,hm.1.2,hm.2⟩
theorem Ma{l:List Int}(h:∀ i,i<l.length→ -9223372036854775808≤l.getD i 0∧l.getD i 0≤9223372036854775807):∀ s ∈ l.map Lib.itoa,s.length≤200:=by
 intro s hs;obtain⟨n,hn,rfl⟩:=List.mem_map.1 hs;obtain⟨i,hi,rfl⟩:=List.getElem_of_mem hn;have:=h i hi;rw[List.getD_eq_getElem?_getD,List.getElem?_eq_getElem hi] at this;have:=Bj l[i] this.1 this.2;omega
noncomputable section
set_option maxRecDepth 100000
attribute [local irreducible] inK Utf8.decode Utf8.encode Lib.itoa Pl.worth Pl.allDig
attribute [local irreducible] Lib.join Bp Aa
def LAl(a:Act)(B:List (List UInt8)):LoopSpec:={
 α:=Nat × List (List UInt8)
 keep:=[3,48,49,50]
 vals x:=[A0p 2 x.2,slE 1 pG a.picks,.int .i64 a.picks.length,.int .i64 x.1]
 heap x:=[.dead,.dead,A0o x.2]
 ok x:=x.1≤a.picks.length∧x.2=B++(a.picks.take x.1).map Lib.itoa
 μ x:=a.picks.length - x.1 }
def Avg:PC:=PC.of (fun a:Act=>[.agg a.enc]) (fun a=>Ag a=true∧a.kind=2) (fun a=>.str (sS (Bh a)))
def Avh:Act→Nat→Option LR:=fun a i=>cond (Nat.beq i 15) (some (.inv (LAl a ([[116,105,99,107]])))) (none)
theorem Avi{W:World}(hW:Tabs W):GoodP (Fw W) Tryz.prog 34 Avg:=by
 have hD:=S7 hW;have hC0:∀ a:Act,Ad (Fw W) Tryz.prog Hr:=fun a=>(Wn hW);refine As (D:=P9) (C:=fun a=>Hr) (wr:=(fun _=>false)) rfl Ao hD hC0 Tryz.func34 (Avh) (fun _=>rfl) ?_;intro a hf hp;have hpf:=Ma (O3 hf);clear hf;obtain⟨hm,kk⟩:=hp;obtain⟨f1,f2,f3,f4,f5⟩:=Vo kk hm;have n1: ¬a.kind=1:=by omega
 skip
 skip
 have hno: ¬Ag a=false:=by rw[hm];exact Bool.true_eq_false.mp
 skip
 have hw:Bh a=Lib.join ([[116,105,99,107]]++a.picks.map Lib.itoa) [32]:=by unfold Bh Cx;rw[if_pos hm,if_neg n1];rw[if_pos kk];rfl
 have hall:∀ s ∈ [[116,105,99,107]]++a.picks.map Lib.itoa,s.length≤200:=fun s hs=>by
  rcases List.mem_append.1 hs with h|h
  ·simp only[List.mem_cons,List.not_mem_nil,or_false] at h;rw[h];decide
  ·exact hpf s h
 refine⟨a,short_zero f3,?_,?_⟩
 ·exact Ac _
 (conv=>whnf)
 (repeat' (first|(exact absurd (by with_reducible assumption) hno)|(exact absurd kk (by with_reducible assumption))|(exact absurd (by with_reducible assumption) n1)|split<;>rename_i hh<;>try simp only[wS] at hh|with_reducible refine lnI fun hln=>?_)<;>conv=>whnf)
 refine⟨?_,fun(x:Nat × List (List UInt8)) hx=>?_⟩
 ·(conv=>whnf)
  refine⟨((0,[[116,105,99,107]]):Nat × List (List UInt8)),[1],?_,⟨⟨rfl,(nB rfl),rfl⟩,?_,?_⟩⟩
  ·exact⟨Nat.zero_le _,by simp⟩
  ·exact tL
  ·(conv=>whnf)
   (repeat' (first|with_reducible exact⟨⟩|refine⟨tA,?_⟩|with_reducible refine iB ?_ ?_)<;>conv=>whnf)
   all_goals try simp only[wQ]
   intro e he;have he:e<1:=he;obtain rfl:e=0:=by omega
   exact⟨rfl,rfl⟩
 ·obtain⟨i,L⟩:=x;obtain⟨h1,h2⟩:=hx;change i≤a.picks.length at h1;change L=[[116,105,99,107]]++(a.picks.take i).map Lib.itoa at h2;have hlen:L.length=1+i:=by rw[h2];simp;omega
  have hstep:i<a.picks.length→L++[Lib.itoa (a.picks.getD (Int.toNat (i:Int)) default)]=[[116,105,99,107]]++(a.picks.take (i+1)).map Lib.itoa:=fun h=>by
   rw[h2,List.append_assoc,List.take_add_one,List.map_append,List.getElem?_eq_getElem h];have:a.picks.getD (Int.toNat (i:Int)) default=a.picks[i]:=by
    rw[show Int.toNat (i:Int)=i from rfl,List.getD_eq_getElem?_getD,List.getElem?_eq_getElem h];rfl
   rw[this];rfl
  rcases L with _|⟨s,L⟩
  ·exact absurd hlen (by simp;omega)
  ·have hlen2:L.length+1=1+i:=hlen
   (conv=>whnf)
   (repeat' (first|refine⟨tU,?_⟩|split<;>rename_i hh<;>try simp only[wS] at hh)<;>conv=>whnf)
   ·have hi2:i<a.picks.length:=Int.ofNat_lt.1 (by assumption)
    (conv=>whnf)
    refine⟨((i+1,s::L++[Lib.itoa (a.picks.getD (Int.toNat (i:Int)) default)]):Nat × List (List UInt8)),[4],?_,⟨⟨rfl,(nB rfl),rfl⟩,?_,?_⟩⟩
    ·exact⟨⟨show i+1≤a.picks.length by omega,hstep hi2⟩,show a.picks.length - (i+1)<a.picks.length - i by omega⟩
    ·(conv=>whnf)
     (repeat' (first|with_reducible exact⟨⟩|refine⟨tA,?_⟩|with_reducible refine iA ?_ ?_)<;>conv=>whnf)
     all_goals try simp only[wQ]
     all_goals (try first|omega|exact⟨fun h=>h,fun _ _=>True.intro⟩)
     all_goals (try first|exact⟨by simp,Or.inl trivial⟩)
     all_goals (try simp)
    ·(conv=>whnf)
     (repeat' (first|with_reducible exact⟨⟩|refine⟨tA,?_⟩|with_reducible refine iB ?_ ?_)<;>conv=>whnf)
     all_goals try simp only[wQ]
     exact⟨by simp,fun e he=>⟨Zr (l:=s::L) rfl (fun _ _=>rfl) rfl (by simpa using he),rfl⟩⟩
   ·have hie:i=a.picks.length:=(by omega);rw[hie,List.take_length] at h2;refine⟨⟨by omega,fun e he=>rfl⟩,?_⟩
    refine⟨((s::L,[32]):List (List UInt8) × List UInt8),⟨by have:=Lp [32] 200 (s::L) (by rw[h2];exact hall);simp at this;show(Lib.join (s::L) [32]).length≤_;omega,by show(s::L).length≤_;simp;omega⟩,?_,?_⟩
    ·exact tL
    (conv=>whnf)
    all_goals try(show _=_;simp only[wQ])
    all_goals (rw[hw,h2];done)
def Avj:PC:=PC.of (fun a:Act=>[.agg a.enc]) (fun a=>Ag a=true∧a.kind=4) (fun a=>.str (sS (Bh a)))
def Avk:Act→Nat→Option LR:=fun a i=>cond (Nat.beq i 15) (some (.inv (LAl a ([[99,114,97,115,104],Lib.itoa a.server])))) (none)
theorem Avl{W:World}(hW:Tabs W):GoodP (Fw W) Tryz.prog 34 Avj:=by
 have hD:=S7 hW;have hC0:∀ a:Act,Ad (Fw W) Tryz.prog Hr:=fun a=>(Wn hW);refine As (D:=P9) (C:=fun a=>Hr) (wr:=(fun _=>false)) rfl Ao hD hC0 Tryz.func34 (Avk) (fun _=>rfl) ?_;intro a hf hp;have hpf:=Ma (O3 hf);clear hf;obtain⟨hm,kk⟩:=hp;obtain⟨f1,f2,f3,f4,f5⟩:=R1 kk hm;have n1: ¬a.kind=1:=by omega
 have n2: ¬a.kind=2:=by omega
 have n3: ¬a.kind=3:=by omega
 have hno: ¬Ag a=false:=by rw[hm];exact Bool.true_eq_false.mp
 have hi:=Bj a.server (by omega) (by omega)
 have hw:Bh a=Lib.join ([[99,114,97,115,104],Lib.itoa a.server]++a.picks.map Lib.itoa) [32]:=by unfold Bh Cx;rw[if_pos hm,if_neg n1];rw[if_neg n2,if_neg n3,if_pos kk];rfl
 have hall:∀ s ∈ [[99,114,97,115,104],Lib.itoa a.server]++a.picks.map Lib.itoa,s.length≤200:=fun s hs=>by
  rcases List.mem_append.1 hs with h|h
  ·simp only[List.mem_cons,List.not_mem_nil,or_false] at h;rcases h with h|h<;>rw[h];decide;omega
  ·exact hpf s h
 refine⟨a,short_zero f3,?_,?_⟩
 ·exact Ac _
 (conv=>whnf)
 (repeat' (first|(exact absurd (by with_reducible assumption) hno)|(exact absurd kk (by with_reducible assumption))|(exact absurd (by with_reducible assumption) n1)|(exact absurd (by with_reducible assumption) n2)|(exact absurd (by with_reducible assumption) n3)|refine⟨tU,?_⟩|split<;>rename_i hh<;>try simp only[wS] at hh|with_reducible refine lnI fun hln=>?_)<;>conv=>whnf)
 refine⟨?_,fun(x:Nat × List (List UInt8)) hx=>?_⟩
 ·(conv=>whnf)
  refine⟨((0,[[99,114,97,115,104],Lib.itoa a.server]):Nat × List (List UInt8)),[1],?_,⟨⟨rfl,(nB rfl),rfl⟩,?_,?_⟩⟩
  ·exact⟨Nat.zero_le _,by simp⟩
  ·exact tL
  ·(conv=>whnf)
   (repeat' (first|with_reducible exact⟨⟩|refine⟨tA,?_⟩|with_reducible refine iB ?_ ?_)<;>conv=>whnf)
   all_goals try simp only[wQ]
   intro e he;have he:e<2:=he;rcases(by omega:e=0∨e=1) with rfl|rfl<;>exact⟨rfl,rfl⟩
 ·obtain⟨i,L⟩:=x;obtain⟨h1,h2⟩:=hx;change i≤a.picks.length at h1;change L=[[99,114,97,115,104],Lib.itoa a.server]++(a.picks.take i).map Lib.itoa at h2;have hlen:L.length=2+i:=by rw[h2];simp;omega
  have hstep:i<a.picks.length→L++[Lib.itoa (a.picks.getD (Int.toNat (i:Int)) default)]=[[99,114,97,115,104],Lib.itoa a.server]++(a.picks.take (i+1)).map Lib.itoa:=fun h=>by
   rw[h2,List.append_assoc,List.take_add_one,List.map_append,List.getElem?_eq_getElem h];have:a.picks.getD (Int.toNat (i:Int)) default=a.picks[i]:=by
    rw[show Int.toNat (i:Int)=i from rfl,List.getD_eq_getElem?_getD,List.getElem?_eq_getElem h];rfl
   rw[this];rfl
  rcases L with _|⟨s,L⟩
  ·exact absurd hlen (by simp;omega)
  ·have hlen2:L.length+1=2+i:=hlen
   (conv=>whnf)
   (repeat' (first|refine⟨tU,?_⟩|split<;>rename_i hh<;>try simp only[wS] at hh)<;>conv=>whnf)
   ·have hi2:i<a.picks.length:=Int.ofNat_lt.1 (by assumption)
    (conv=>whnf)
    refine⟨((i+1,s::L++[Lib.itoa (a.picks.getD (Int.toNat (i:Int)) default)]):Nat × List (List UInt8)),[4],?_,⟨⟨rfl,(nB rfl),rfl⟩,?_,?_⟩⟩
    ·exact⟨⟨show i+1≤a.picks.length by omega,hstep hi2⟩,show a.picks.length - (i+1)<a.picks.length - i by omega⟩
    ·(conv=>whnf)
     (repeat' (first|with_reducible exact⟨⟩|refine⟨tA,?_⟩|with_reducible refine iA ?_ ?_)<;>conv=>whnf)
     all_goals try simp only[wQ]
     all_goals (try first|omega|exact⟨fun h=>h,fun _ _=>True.intro⟩)
     all_goals (try first|exact⟨by simp,Or.inl trivial⟩)
     all_goals (try simp)
    ·(conv=>whnf)
     (repeat' (first|with_reducible exact⟨⟩|refine⟨tA,?_⟩|with_reducible refine iB ?_ ?_)<;>conv=>whnf)
     all_goals try simp only[wQ]
     exact⟨by simp,fun e he=>⟨Zr (l:=s::L) rfl (fun _ _=>rfl) rfl (by simpa using he),rfl⟩⟩
   ·have hie:i=a.picks.length:=(by omega);rw[hie,List.take_length] at h2;refine⟨⟨by omega,fun e he=>rfl⟩,?_⟩
    refine⟨((s::L,[32]):List (List UInt8) × List UInt8),⟨by have:=Lp [32] 200 (s::L) (by rw[h2];exact hall);simp at this;show(Lib.join (s::L) [32]).length≤_;omega,by show(s::L).length≤_;simp;omega⟩,?_,?_⟩
    ·exact tL
    (conv=>whnf)
    all_goals try(show _=_;simp only[wQ])
    all_goals (rw[hw,h2];done)
end
end Go.Vc.Z
namespace Go.Vc.Z
open Go Go.Vc Go.Proofs Go.RowKit Go.Pl Go.Lib
theorem D6{a:Act}(h:Ag a=true):a.kind=1∨a.kind=2∨a.kind=3∨a.kind=4∨a.kind=5:=by
 unfold Ag at h;by_cases h1:a.kind=1
 ·exact .inl h1
 by_cases h2:a.kind=2
 ·exact .inr (.inl h2)
 by_cases h3:a.kind=3
 ·exact .inr (.inr (.inl h3))
 by_cases h4:a.kind=4
 ·exact .inr (.inr (.inr (.inl h4)))
 by_cases h5:a.kind=5
 ·exact .inr (.inr (.inr (.inr h5)))
 rw[if_neg h1,if_neg h2,if_neg h3,if_neg h4,if_neg h5] at h;cases h
theorem Avm{a:Act}(h:Ag a=false):Bh a=[]:=by unfold Bh;rw[h];rfl
noncomputable section
set_option maxRecDepth 100000
attribute [local irreducible] inK Utf8.decode Utf8.encode Lib.itoa Pl.worth Pl.allDig
attribute [local irreducible] Lib.join Bp Aa
def Avn:PC:=PC.of (fun a:Act=>[.agg a.enc]) (fun a=>Ag a=false∧Eh a.request) (fun a=>.str (sS (Bh a)))
def Ass:Act→Nat→Option LR:=fun a i=>cond (Nat.beq i 15) (some (.unroll 1)) (none)
theorem Ast{W:World}(hW:Tabs W):GoodP (Fw W) Tryz.prog 34 Avn:=by
 have hD:=S7 hW;have hC0:∀ a:Act,Ad (Fw W) Tryz.prog Hr:=fun a=>(Wn hW);refine As (D:=P9) (C:=fun a=>Hr) (wr:=(fun _=>false)) rfl Ao hD hC0 Tryz.func34 (Ass) (fun _=>rfl) ?_;intro a hf hp;clear hf;obtain⟨hm,hsh⟩:=hp;have hno: ¬Ag a=true:=by rw[hm];exact Bool.false_ne_true
 have hw:Bh a=[]:=Avm hm;refine⟨a,hsh,?_,?_⟩
 ·exact Ac _
 (conv=>whnf)
 (repeat' (first|(exact absurd (by with_reducible assumption) hno)|split<;>rename_i hh<;>try simp only[wS] at hh)<;>conv=>whnf)
 all_goals try(show _=_;simp only[wQ])
 all_goals (rw[hw];done)
def dF:PC:=PC.of (fun a:Act=>[.agg a.enc]) (fun a=>Eh a.request) (fun a=>.str (sS (Bh a)))
theorem Aa3{W:World}(hW:Tabs W):GoodP (Fw W) Tryz.prog 34 dF:=by
 intro S w cs vs Q hs hv hT;obtain⟨a,h1,h2,h3⟩:=hT;cases hm:Ag a
 ·exact Ast hW S w cs vs Q hs hv ⟨a,⟨hm,h1⟩,h2,h3⟩
 ·rcases D6 hm with k|k|k|k|k
  ·exact Au9 hW S w cs vs Q hs hv ⟨a,⟨hm,k,h1⟩,h2,h3⟩
  ·exact Avi hW S w cs vs Q hs hv ⟨a,⟨hm,k⟩,h2,h3⟩
  ·exact Avc hW S w cs vs Q hs hv ⟨a,⟨hm,k⟩,h2,h3⟩
  ·exact Avl hW S w cs vs Q hs hv ⟨a,⟨hm,k⟩,h2,h3⟩
  ·exact Avf hW S w cs vs Q hs hv ⟨a,⟨hm,k⟩,h2,h3⟩
end
end Go.Vc.Z
namespace Go.Vc.Z
open Go Go.Vc Go.Proofs Go.RowKit Go.Pl Go.Lib
theorem Ahy{n:Int}(h0: -9223372036854775808≤n)(h1:n≤9223372036854775807):rpV (Lib.itoa n)=n:=by
 by_cases hs:Lib.itoa n=[45,57,50,50,51,51,55,50,48,51,54,56,53,52,55,55,53,56,48,56]
 ·rw[Ash hs];unfold Lib.itoa at hs;split at hs
  ·injection hs with _ hs
   have:=congrArg worth hs;rw[Ea] at this;have e:worth [57,50,50,51,51,55,50,48,51,54,56,53,52,55,55,53,56,48,56]=9223372036854775808:=(by decide);rw[e] at this;omega
  ·have:=congrArg allDig hs;rw[Dq] at this;exact absurd this (by decide)
 ·rw[Asi hs];unfold Lib.itoa at hs ⊢;split
  ·rename_i hn;have hp:A0 45 (45::decDigits n.natAbs)=decDigits n.natAbs:=(by unfold A0;rw[if_pos (by simp[Lib.hasPrefix,List.isPrefixOf])];rfl);rw[if_pos hn] at hs;have hw:=Ea n.natAbs;have hz: ¬45::decDigits n.natAbs=[45,48]:=fun e=>by
    injection e with _ e
    have:=congrArg worth e;rw[hw] at this;have e2:worth [48]=0:=(by decide);omega
   have hm:n≠ -9223372036854775808:=fun e=>hs (by
    subst e;show 45::decDigits 9223372036854775808=_;have:=tR (s:=[57,50,50,51,51,55,50,48,51,54,56,53,52,55,55,53,56,48,56]) (by decide) (by decide) (fun t h=>by injection h with h _;exact absurd h (by decide))
    rw[show worth [57,50,50,51,51,55,50,48,51,54,56,53,52,55,55,53,56,48,56]=9223372036854775808 by decide] at this
    rw[this])
   rw[Ahu hp (Rj _) hz (by rw[hw];omega) (fun e=>by have:=congrArg List.length e;simp at this),hw]
   show -((n.natAbs:Nat):Int)=n;omega
  ·rename_i hn;have hp:A0 45 (decDigits n.toNat)=decDigits n.toNat:=by
    refine Rq fun _ h=>?_;have hd:=Dp.1 (Dq n.toNat);cases hc:decDigits n.toNat with
    |nil=>exact absurd hc (Ab6 _)
    |cons c t=>
     rw[hc] at h hd;have:=hd c (by simp)
     have h:c=45:=h;rw[h] at this;exact absurd this.1 (by decide)
   have hw:=Ea n.toNat;have hz: ¬decDigits n.toNat=[45,48]:=fun e=>by
    have:=Dq n.toNat;rw[e] at this;exact absurd this (by decide)
   rw[qI hp (Rj _) hz (by rw[hw];omega) rfl,hw]
   show((n.toNat:Nat):Int)=n;omega
end Go.Vc.Z
namespace Go.Vc.Z
open Go Go.Vc Go.Proofs Go.RowKit Go.Pl Go.Lib
theorem Ahz:∀ (l:List UInt8) (acc:Nat),allDig l=true→acc*10 ^ l.length+worth l≤9223372036854775808→Lib.parseUint10 acc l= .ok (acc*10 ^ l.length+worth l)
 |[],acc,_,_=>by simp[Lib.parseUint10,worth]
 |c::r,acc,hd,hl=>by
  have hc:=Dp.1 hd c (by simp)
  have hr:allDig r=true:=Dp.2 fun d hm=>Dp.1 hd d (List.mem_cons_of_mem _ hm);have e:acc*10 ^ (c::r).length+worth (c::r)=(acc*10+(c.toNat - 48))*10 ^ r.length+worth r:=by
   rw[N0,List.length_cons,Nat.pow_succ,Nat.add_mul,Nat.mul_assoc acc 10,Nat.mul_comm 10,Nat.add_assoc]
  rw[e] at hl ⊢;have hk:0<10 ^ r.length:=Nat.pow_pos (by decide)
  have h1:acc*10+(c.toNat - 48)≤(acc*10+(c.toNat - 48))*10 ^ r.length:=Nat.le_mul_of_pos_right _ hk;rw[Lib.parseUint10,if_pos hc,if_neg (by omega),if_neg (by omega)]
  exact Ahz r _ hr hl
theorem Asu{u:Nat}(h:u≤9223372036854775808):Lib.parseMag (decDigits u)= .ok u:=by
 have:=Ahz (decDigits u) 0 (Dq u) (by rw[Ea];omega)
 rw[Ea,Nat.zero_mul,Nat.zero_add] at this;unfold Lib.parseMag;rw[if_neg (Ab6 u),this]
theorem Asv{D:List UInt8}{u:Nat}(h:Lib.parseMag D= .ok u)(hu:u≤9223372036854775808):Lib.atoiAll (45::D)= .ok (-(u:Int)):=by
 rw[Lib.atoiAll_minus,h];show(if 9223372036854775808<u then _ else _)=_
 rw[if_neg (by omega)]
theorem Asw{c:UInt8}{t:List UInt8}{u:Nat}(hc:48≤c.toNat)(h:Lib.parseMag (c::t)= .ok u)(hu:u<9223372036854775808):Lib.atoiAll (c::t)= .ok (u:Int):=by
 rw[Lib.atoiAll_plain c t (by omega) (by omega),h]
 show(if 9223372036854775808≤u then _ else _)=_
 rw[if_neg (by omega)]
theorem qO{n:Int}(h0: -9223372036854775808≤n)(h1:n≤9223372036854775807):Dg (Lib.itoa n)=n:=by
 have e:Lib.atoiAll (Lib.itoa n)= .ok n:=by
  unfold Lib.itoa;split
  ·rename_i hn;rw[Asv (Asu (show n.natAbs≤9223372036854775808 by omega)) (by omega)]
   exact congrArg _ (by omega)
  ·rename_i hn;have hm:=Asu (show n.toNat≤9223372036854775808 by omega)
   have hd:=Dp.1 (Dq n.toNat);cases hc:decDigits n.toNat with
   |nil=>exact absurd hc (Ab6 _)
   |cons c t=>
    rw[hc] at hm hd;rw[Asw (hd c (by simp)).1 hm (by omega)]
    exact congrArg _ (by omega)
 unfold Dg;rw[e]
end Go.Vc.Z
namespace Go.Vc.Z
open Go Go.Vc Go.Proofs Go.RowKit Go.Pl Go.Lib
noncomputable section
abbrev C9:Act:=⟨0,0,An,0,[],false⟩
@[irreducible] def fitA(a:Act):Prop:=∀ n ∈ a.picks, -9223372036854775808≤n∧n≤9223372036854775807
open Classical in
@[irreducible] def dG(s:List UInt8):Act × Int:=if h:∃ a,Ag a=true∧fitA a∧Bh a=s then(h.choose,0) else(C9,4)
theorem jD{s:List UInt8}(h:∀ a,Ag a=true→fitA a→Bh a=s→False):dG s=(C9,4):=by
 unfold dG;rw[dif_neg];rintro⟨a,h1,h2,h3⟩;exact h a h1 h2 h3
theorem qP{s:List UInt8}{A:Act}(h1:Ag A=true)(h2:fitA A)(h3:Bh A=s)(h:∀ a,Ag a=true→fitA a→Bh a=s→A=a):dG s=(A,0):=by
 have hx:∃ a,Ag a=true∧fitA a∧Bh a=s:=⟨A,h1,h2,h3⟩;unfold dG;rw[dif_pos hx,←h _ hx.choose_spec.1 hx.choose_spec.2.1 hx.choose_spec.2.2]
theorem Gy{k s n:Int}{r:Request}{b:Bool}:fitA ⟨k,s,r,n,[],b⟩:=by
 unfold fitA;intro m hm;cases hm
theorem Kb{k s n:Int}{r:Request}{b:Bool}{f:List UInt8→Int}(hf:∀ w, -9223372036854775808≤f w∧f w≤9223372036854775807){l:List (List UInt8)}:fitA ⟨k,s,r,n,l.map f,b⟩:=by
 unfold fitA;intro m hm;obtain⟨w,_,rfl⟩:=List.mem_map.1 hm;exact hf w
theorem R2(w:List UInt8): -9223372036854775808≤Dg w∧Dg w≤9223372036854775807:=by
 unfold Dg;split
 ·exact Lib.atoiAll_bounds (by assumption)
 ·exact Lib.atoiSat_bounds _
 ·omega
theorem qQ(w:List UInt8): -9223372036854775808≤rpV w∧rpV w≤9223372036854775807:=by
 unfold rpV M7;repeat' split
 all_goals omega
theorem Aj4(n:Int):(32:UInt8) ∉ Lib.itoa n:=D5 (by decide) (by decide) n
theorem Avo{a:Act}(k:a.kind=1)(hm:Ag a=true):Bh a=[100,111]++32::(Lib.itoa a.server++32::Be a.request):=by
 unfold Bh Cx;rw[if_pos hm,if_pos k];simp[Lib.join]
theorem A07{a:Act}(k:a.kind=1)(hm:Ag a=true):Aa 32 (Bh a)=[100,111]::Lib.itoa a.server::Aa 32 (Be a.request):=by
 rw[Avo k hm,Jv (by decide),Jv (Aj4 _)]
theorem A6g{a:Act}(k:a.kind=2)(hm:Ag a=true):Aa 32 (Bh a)=[116,105,99,107]::a.picks.map Lib.itoa:=by
 unfold Bh Cx;rw[if_pos hm,if_neg (by omega),if_pos k]
 refine Ff (by simp) fun w hw=>?_
 rcases List.mem_cons.1 hw with h|h
 ·rw[h];decide
 ·obtain⟨n,_,rfl⟩:=List.mem_map.1 h;exact Aj4 n
theorem A6h{a:Act}(k:a.kind=3)(hm:Ag a=true):Aa 32 (Bh a)=[[102,117,115,101],Lib.itoa a.server,Lib.itoa a.n]:=by
 unfold Bh Cx;rw[if_pos hm,if_neg (by omega),if_neg (by omega),if_pos k]
 refine Ff (by simp) fun w hw=>?_
 rcases List.mem_cons.1 hw with h|h
 ·rw[h];decide
 ·rcases List.mem_cons.1 h with h|h
  ·rw[h];exact Aj4 _
  ·rw[List.mem_singleton.1 h];exact Aj4 _
theorem A6i{a:Act}(k:a.kind=4)(hm:Ag a=true):Aa 32 (Bh a)=[99,114,97,115,104]::Lib.itoa a.server::a.picks.map Lib.itoa:=by
 unfold Bh Cx;rw[if_pos hm,if_neg (by omega),if_neg (by omega),if_neg (by omega),if_pos k]
 refine Ff (by simp) fun w hw=>?_
 rcases List.mem_cons.1 hw with h|h
 ·rw[h];decide
 ·rcases List.mem_cons.1 h with h|h
  ·rw[h];exact Aj4 _
  ·obtain⟨n,_,rfl⟩:=List.mem_map.1 h;exact Aj4 n
theorem A08{a:Act}(k:a.kind=5)(hm:Ag a=true):Bh a=[99,97,108,109]++32::(if a.is=true then [121,101,115] else [110,111]):=by
 unfold Bh Cx;rw[if_pos hm,if_neg (by omega),if_neg (by omega),if_neg (by omega),if_neg (by omega)];simp[Lib.join]
theorem A6j{a:Act}(k:a.kind=5)(hm:Ag a=true):Aa 32 (Bh a)=[[99,97,108,109],if a.is=true then [121,101,115] else [110,111]]:=by
 rw[A08 k hm,Jv (by decide)]
 cases a.is
 ·rw[if_neg (by decide),Lq (by decide)]
 ·rw[if_pos rfl,Lq (by decide)]
def kwA(k:Int):List UInt8:=if k=1 then [100,111] else if k=2 then [116,105,99,107] else if k=3 then [102,117,115,101] else if k=4 then [99,114,97,115,104] else [99,97,108,109]
theorem Azz{a:Act}(hm:Ag a=true):(Aa 32 (Bh a)).getD 0 []=kwA a.kind:=by
 rcases D6 hm with k|k|k|k|k
 ·rw[A07 k hm,k];rfl
 ·rw[A6g k hm,k];rfl
 ·rw[A6h k hm,k];rfl
 ·rw[A6i k hm,k];rfl
 ·rw[A6j k hm,k];rfl
theorem Asx{s:List UInt8}{a:Act}(hm:Ag a=true)(hw:Bh a=s):kwA a.kind=(Aa 32 s).getD 0 []:=by
 rw[←hw,Azz hm]
theorem A6k{k j:Int}(hk:k=1∨k=2∨k=3∨k=4∨k=5)(hj:j=1∨j=2∨j=3∨j=4∨j=5)(h:kwA k=kwA j):k=j:=by
 rcases hk with rfl|rfl|rfl|rfl|rfl<;>rcases hj with rfl|rfl|rfl|rfl|rfl<;>first|rfl|exact absurd h (by decide)
theorem Asy{s:List UInt8}{a:Act}{j:Int}(hm:Ag a=true)(hw:Bh a=s)(hj:j=1∨j=2∨j=3∨j=4∨j=5)(h:(Aa 32 s).getD 0 []=kwA j):a.kind=j:=
 A6k (D6 hm) hj ((Asx hm hw).trans h)
theorem Aa4{s:List UInt8}(h1: ¬(Aa 32 s).getD 0 []=[100,111])(h2: ¬(Aa 32 s).getD 0 []=[116,105,99,107])(h3: ¬(Aa 32 s).getD 0 []=[102,117,115,101])(h4: ¬(Aa 32 s).getD 0 []=[99,114,97,115,104])(h5: ¬(Aa 32 s).getD 0 []=[99,97,108,109]):dG s=(C9,4):=by
 refine jD fun a hm _ hw=>?_;have h:=Asx hm hw;rcases D6 hm with k|k|k|k|k<;>rw[k] at h
 ·exact h1 h.symm
 ·exact h2 h.symm
 ·exact h3 h.symm
 ·exact h4 h.symm
 ·exact h5 h.symm
theorem dH{l:List Int}(h:l.length=0):l=[]:=List.length_eq_zero_iff.1 h
theorem S8{l:List Int}{f:List UInt8→Int}(hf:∀ n, -9223372036854775808≤n→n≤9223372036854775807→f (Lib.itoa n)=n)(h:∀ n ∈ l, -9223372036854775808≤n∧n≤9223372036854775807):(l.map Lib.itoa).map f=l:=by
 rw[List.map_map];refine(List.map_congr_left fun n hn=>?_).trans (List.map_id l);exact hf n (h n hn).1 (h n hn).2
@[irreducible] def Vp(s:List UInt8):List UInt8:=if Lib.hasPrefix s [100,111,32]=true then s.drop 3 else s
@[irreducible] def doP(s:List UInt8):List UInt8:=(Bp 32 (Vp s)).2.1
@[irreducible] def doR(s:List UInt8):List UInt8:=s.drop (((Aa 32 s).getD 0 []).length+((Aa 32 s).getD 1 []).length+2)
theorem Avp(s:List UInt8):(doP s).length≤s.length:=by
 unfold doP Vp;refine Nat.le_trans (Wg _ _).2 ?_;split
 ·rw[List.length_drop];omega
 ·exact Nat.le_refl _
theorem Avq(s:List UInt8):(doR s).length≤s.length:=by
 unfold doR;rw[List.length_drop];omega
theorem A6l{a:Act}(k:a.kind=1)(hm:Ag a=true):doP (Bh a)=Be a.request:=by
 unfold doP Vp;rw[Avo k hm];rw[if_pos (by simp[Lib.hasPrefix,List.isPrefixOf])]
 show(Bp 32 (Lib.itoa a.server++32::Be a.request)).2.1=_;rw[We (Aj4 _)]
theorem A6m{a:Act}(k:a.kind=1)(hm:Ag a=true):doR (Bh a)=Be a.request:=by
 unfold doR;rw[A07 k hm,Avo k hm];show List.drop (2+(Lib.itoa a.server).length+2) ([100,111]++32::(Lib.itoa a.server++32::Be a.request))=_;rw[show([100,111]++32::(Lib.itoa a.server++32::Be a.request):List UInt8)=([100,111,32]++Lib.itoa a.server++[32])++Be a.request by simp]
 exact List.drop_left' (by simp;omega)
theorem A6n{a:Act}(k:a.kind=1)(hm:Ag a=true):a=⟨1,a.server,a.request,0,[],false⟩:=by
 obtain⟨_,_,f3,f4,f5⟩:=O0 k hm;cases a;simp only at k f3 f5 f4;subst k f3 f5;rw[dH f4]
theorem A6o{a:Act}(k:a.kind=2)(hm:Ag a=true):a=⟨2,0,An,0,a.picks,false⟩:=by
 obtain⟨_,f2,f3,f4,f5⟩:=Vo k hm;cases a;simp only at k f2 f3 f4 f5;subst k f2 f3 f4 f5;rfl
theorem A6p{a:Act}(k:a.kind=3)(hm:Ag a=true):a=⟨3,a.server,An,a.n,[],false⟩:=by
 obtain⟨_,_,f3,f4,f5⟩:=O1 k hm;cases a;simp only at k f3 f5 f4;subst k f3 f5;rw[dH f4]
theorem A6q{a:Act}(k:a.kind=4)(hm:Ag a=true):a=⟨4,a.server,An,0,a.picks,false⟩:=by
 obtain⟨_,_,f3,f4,f5⟩:=R1 k hm;cases a;simp only at k f3 f4 f5;subst k f3 f4 f5;rfl
theorem A6r{a:Act}(k:a.kind=5)(hm:Ag a=true):a=⟨5,0,An,0,[],a.is⟩:=by
 obtain⟨f1,f2,f3,f4⟩:=aT k hm;cases a;simp only at k f1 f2 f3 f4;subst k f1 f2 f3;rw[dH f4]
theorem A81{a:Act}(k:a.kind=1)(hm:Ag a=true):Ve (Be a.request)=(a.request,0):=zY (O0 k hm).2.1
def A1(s:List UInt8):Act:=⟨1,(Aj ((Aa 32 s).getD 1 [])).1,(Ve (doP s)).1,0,[],false⟩
def B1(s:List UInt8):Act:=⟨1,Ay ((Aa 32 s).getD 1 []),(Ve (doR s)).1,0,[],false⟩
def A2(s:List UInt8):Act:=⟨2,0,An,0,((Aa 32 s).drop 1).map Dg,false⟩
def B2(s:List UInt8):Act:=⟨2,0,An,0,((Aa 32 s).drop 1).map rpV,false⟩
def A3(s:List UInt8):Act:=⟨3,(Aj ((Aa 32 s).getD 1 [])).1,An,(Aj ((Aa 32 s).getD 2 [])).1,[],false⟩
def B3(s:List UInt8):Act:=⟨3,Ay ((Aa 32 s).getD 1 []),An,Ay ((Aa 32 s).getD 2 []),[],false⟩
def A4(s:List UInt8):Act:=⟨4,(Aj ((Aa 32 s).getD 1 [])).1,An,0,((Aa 32 s).drop 2).map Dg,false⟩
def B4(s:List UInt8):Act:=⟨4,Ay ((Aa 32 s).getD 1 []),An,0,((Aa 32 s).drop 2).map rpV,false⟩
def A5(s:List UInt8):Act:=⟨5,0,An,0,[],decide ((Aa 32 s).getD 1 []=[121,101,115])⟩
def B5(s:List UInt8):Act:=⟨5,0,An,0,[],decide (s=[99,97,108,109,32,121,101,115])⟩
theorem hP{s:List UInt8}{a:Act}(h:(Aa 32 s).getD 0 []=[100,111])(hm:Ag a=true)(hf:fitA a)(hw:Bh a=s):A1 s=a∧B1 s=a∧(Ve (doP s)).2=0∧(Ve (doR s)).2=0∧3≤(Aa 32 s).length:=by
 have k:a.kind=1:=Asy hm hw (by decide) h
 have hb:=(O0 k hm).1;subst hw;have e:=A6n k hm;unfold A1 B1;rw[A6l k hm,A6m k hm,A81 k hm,A07 k hm];have hc:=Di 32 (Be a.request);refine⟨?_,?_,rfl,rfl,by simp only[List.length_cons];omega⟩
 ·refine Eq.trans ?_ e.symm;show(⟨1,(Aj (Lib.itoa a.server)).1,a.request,0,[],false⟩:Act)=_;rw[By hb.1 (by omega)]
 ·refine Eq.trans ?_ e.symm;show(⟨1,Ay (Lib.itoa a.server),a.request,0,[],false⟩:Act)=_;rw[Bz hb.1 (by omega)]
theorem Ah0{s:List UInt8}{a:Act}(h:(Aa 32 s).getD 0 []=[116,105,99,107])(hm:Ag a=true)(hf:fitA a)(hw:Bh a=s):A2 s=a∧B2 s=a:=by
 have k:a.kind=2:=Asy hm hw (by decide) h
 subst hw;have e:=A6o k hm;unfold fitA at hf;unfold A2 B2;rw[A6g k hm];constructor
 ·refine Eq.trans ?_ e.symm;show(⟨2,0,An,0,(a.picks.map Lib.itoa).map Dg,false⟩:Act)=_;rw[S8 (fun n=>qO) hf]
 ·refine Eq.trans ?_ e.symm;show(⟨2,0,An,0,(a.picks.map Lib.itoa).map rpV,false⟩:Act)=_;rw[S8 (fun n=>Ahy) hf]
theorem Ac4{s:List UInt8}{a:Act}(h:(Aa 32 s).getD 0 []=[102,117,115,101])(hm:Ag a=true)(hf:fitA a)(hw:Bh a=s):A3 s=a∧B3 s=a∧(Aa 32 s).length=3:=by
 have k:a.kind=3:=Asy hm hw (by decide) h
 have hb:=(O1 k hm).1;have hn:=(O1 k hm).2.1;subst hw;have e:=A6p k hm;unfold A3 B3;rw[A6h k hm];refine⟨?_,?_,rfl⟩
 ·refine Eq.trans ?_ e.symm;show(⟨3,(Aj (Lib.itoa a.server)).1,An,(Aj (Lib.itoa a.n)).1,[],false⟩:Act)=_;rw[By hb.1 (by omega),By hn.1 (by omega)]
 ·refine Eq.trans ?_ e.symm;show(⟨3,Ay (Lib.itoa a.server),An,Ay (Lib.itoa a.n),[],false⟩:Act)=_;rw[Bz hb.1 (by omega),Bz hn.1 (by omega)]
theorem Ah1{s:List UInt8}{a:Act}(h:(Aa 32 s).getD 0 []=[99,114,97,115,104])(hm:Ag a=true)(hf:fitA a)(hw:Bh a=s):A4 s=a∧B4 s=a∧2≤(Aa 32 s).length:=by
 have k:a.kind=4:=Asy hm hw (by decide) h
 have hb:=(R1 k hm).2.1;subst hw;have e:=A6q k hm;unfold fitA at hf;unfold A4 B4;rw[A6i k hm];refine⟨?_,?_,by simp only[List.length_cons];omega⟩
 ·refine Eq.trans ?_ e.symm;show(⟨4,(Aj (Lib.itoa a.server)).1,An,0,(a.picks.map Lib.itoa).map Dg,false⟩:Act)=_;rw[By hb.1 (by omega),S8 (fun n=>qO) hf]
 ·refine Eq.trans ?_ e.symm;show(⟨4,Ay (Lib.itoa a.server),An,0,(a.picks.map Lib.itoa).map rpV,false⟩:Act)=_;rw[Bz hb.1 (by omega),S8 (fun n=>Ahy) hf]
theorem Ah2{s:List UInt8}{a:Act}(h:(Aa 32 s).getD 0 []=[99,97,108,109])(hm:Ag a=true)(hf:fitA a)(hw:Bh a=s):A5 s=a∧B5 s=a:=by
 have k:a.kind=5:=Asy hm hw (by decide) h
 subst hw;have e:=A6r k hm;unfold A5 B5;rw[A6j k hm,A08 k hm];constructor<;>(refine Eq.trans ?_ e.symm;cases a.is<;>rfl)
theorem Aa5{a:Act}(hm:Ag a=true)(hf:fitA a):dG (Bh a)=(a,0):=by
 refine qP hm hf rfl fun b hb gb hw=>?_;have h:=Asx hm (rfl:Bh a=Bh a);rcases D6 hm with k|k|k|k|k<;>rw[k] at h
 ·exact(hP h.symm hm hf rfl).1.symm.trans (hP h.symm hb gb hw).1
 ·exact(Ah0 h.symm hm hf rfl).1.symm.trans (Ah0 h.symm hb gb hw).1
 ·exact(Ac4 h.symm hm hf rfl).1.symm.trans (Ac4 h.symm hb gb hw).1
 ·exact(Ah1 h.symm hm hf rfl).1.symm.trans (Ah1 h.symm hb gb hw).1
 ·exact(Ah2 h.symm hm hf rfl).1.symm.trans (Ah2 h.symm hb gb hw).1
end
end Go.Vc.Z
