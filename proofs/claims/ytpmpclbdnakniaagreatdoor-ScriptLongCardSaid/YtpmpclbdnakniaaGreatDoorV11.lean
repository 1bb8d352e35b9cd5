/- Decimal numerals: wire.Decimal; whole numbers of scripts. -/
import Derived.Test.YtpmpclbdnakniaaGreatDoorV10
import Derived.Test.YtpmpclbdnakniaaGreatDoorV8
import Derived.Test.YtpmpclbdnakniaaGreatDoorV9
import Derived.Test.YtpmpclbdnakniaaGreatDoorProg
import Derived.Ground.NamesProg
import Derived.Shelf.Strings.OnBuilder
import Derived.Shelf.Strings.Builder1
import Derived.Shelf.Strconv.Itoa4
set_option linter.all false
set_option linter.unusedVariables false
set_option linter.unusedSimpArgs false
namespace Go.Vc.Z
open Go Go.Vc Go.Proofs Go.RowKit Go.Pl Go.Lib
noncomputable section
set_option maxRecDepth 100000
attribute [local irreducible] inK Utf8.decode Utf8.encode Lib.itoa Pl.worth Pl.allDig
theorem wrap_u64(n:Int):IntKind.u64.wrap n=n % 18446744073709551616:=by simp[IntKind.wrap,IntKind.bits,IntKind.signed]
def Aey(s:List UInt8)(m:Int):LoopSpec:={
 α:=Nat
 keep:=[1,6,7,23]
 vals i:=[.int .u64 m,.int .u64 (sI ((worth (s.take i) % 18446744073709551616:Nat):Int)),.bool (sB (decide (18446744073709551615<worth (s.take i)))),.iter 0]
 heap i:=[.iter s i]
 ok i:=i≤s.length∧allDig (s.take i)=true
 μ i:=s.length - i }
def Kc:PT:=D1 [(242,Am1)]
theorem Ow{W:World}(hW:Tabs W):Dj (Fw W) Tryz.prog Kc:=(Ae Tryz.call242 (pD hW) A6)
def Kd:FuncId→Option Ctr:=Av Kc []
theorem X7{W:World}(hW:Tabs W):Ad (Fw W) Tryz.prog Kd:=(A7 (Ow hW))
def X8:List AV→Nat→Option LR:=fun cs i=>match cs with|[.str s,.int _ m]=>cond (Nat.beq i 5) (some (.inv (Aey s m))) (none)|_=>none
set_option maxHeartbeats 2000000 in
theorem X9{W:World}(hW:Tabs W):GoodP (Fw W) Tryz.prog 176 eM:=by
 have hD:=Ow hW
 have hC0:Ad (Fw W) Tryz.prog Kd:=(X7 hW)
 refine Be (D:=Kc) (C:=Kd) (wr:=(fun t=>Nat.beq t 41 || Nat.beq t 44)) rfl Aq hD hC0 Tryz.func176 (X8) ?_
 clear hC0 hD hW
 intro cs p r h hf hp
 split at h
 case h_2=>cases h
 rename_i s m
 cases h
 try simp only[Bl,Cm,Ar,Go.Vc.lo,Go.Vc.hi,and_true] at hf
 have e0:s.getD (Int.toNat 0) 0=s.getD 0 0:=rfl
 have hbyte:∀ c:UInt8,eqI (c.toNat:Int) 48=(c == 48):=fun c=>rO c 48
 by_cases hs:s=[]
 ·subst hs
  have e:Ft [] m=(0,4):=by unfold Ft;rw[if_neg (by simp[Fs])]
  (conv=>whnf)
  (repeat' ((first
   |with_reducible exact⟨⟩
   |((with_reducible refine aI ?_ ?_);focus (with_reducible rfl))
   |with_reducible refine iA ?_ ?_
   |fail)<;>(conv=>whnf)))
  all_goals (try (show _=_;simp only[wQ]))
  all_goals first|(rw[e];done)|skip
 ·have hpos:0<s.length:=List.length_pos_iff.2 hs
  by_cases hz:((s.getD (Int.toNat 0) 0).toNat:Int)=48∧¬s=[48]
  ·have e:Ft s m=(0,4):=by
    unfold Ft;rw[if_neg]
    unfold Fs
    have a1:(s == [48])=false:=by rw[beq_eq_false_iff_ne];exact hz.2
    have a2:s.getD 0 0=48:=UInt8.toNat_inj.1 (Int.ofNat.inj hz.1)
    rw[a1,a2];simp
   (conv=>whnf)
   (repeat' ((first
    |with_reducible exact⟨⟩
    |((with_reducible refine aI ?_ ?_);focus (first|with_reducible rfl|omega))
    |(split<;>rename_i hh<;>(try simp only[wS] at hh))
    |with_reducible refine iA ?_ ?_
    |fail)<;>(conv=>whnf)))
   all_goals (try (show _=_;simp only[wQ]))
   all_goals first|(rw[e];done)|(simp_all;done)|skip
  ·have hdec:allDig s=true→Fs s=true:=fun h=>by
    unfold Fs
    rw[h,Bool.true_and,Bool.or_eq_true,Bool.and_eq_true,beq_iff_eq,bne_iff_ne,bne_iff_ne]
    by_cases h1:s=[48]
    ·exact .inl h1
    ·refine .inr ⟨hs,fun h2=>hz ⟨?_,h1⟩⟩
     rw[e0,h2];rfl
   (conv=>whnf)
   (repeat' ((first
    |with_reducible exact⟨⟩
    |((with_reducible refine aI ?_ ?_);focus (first|with_reducible rfl|omega))
    |(split<;>rename_i hh<;>(try simp only[wS] at hh))
    |with_reducible refine iA ?_ ?_
    |fail)<;>(conv=>whnf)))
   all_goals (try (show _=_;simp only[wQ]))
   all_goals first|exact absurd (by assumption) hs|exact absurd ⟨by assumption,by assumption⟩ hz|skip
   all_goals (
    refine⟨?_,fun(i:Nat) (hi:i≤s.length∧allDig (s.take i)=true)=>?_⟩
    ·(conv=>whnf)
     refine⟨(0:Nat),[],?_,⟨⟨rfl,(nB rfl),rfl⟩,?_,?_⟩⟩
     ·exact⟨Nat.zero_le _,by simp[allDig]⟩
     ·(conv=>whnf)
      (repeat' ((first|with_reducible exact⟨⟩|((with_reducible refine aI ?_ ?_);focus (exact tA))|with_reducible refine iA ?_ ?_|fail)<;>(conv=>whnf)))
      all_goals (try simp only[wQ])
      all_goals simp[worth]
     ·exact tL
    ·obtain⟨h1,h2⟩:=hi
     have hdw:sI (Rb (Bb s i) 10)=Rb (Bb s i) 10:=Cs _
     have hcase:(48≤Bb s i∧Bb s i≤57∧Rb (Bb s i) 10=Bb s i - 48)∨(¬(48≤Bb s i∧Bb s i≤57)∧Rb (Bb s i) 10= -1):=by
      unfold Rb;repeat' split
      all_goals omega
     have hbad:i<s.length→¬(48≤Bb s i∧Bb s i≤57)→Ft s m=(0,4):=fun h hc=>by
      have:allDig s=false:=X3 h (by rcases D6 h with h6|h6<;>omega)
      unfold Ft;rw[if_neg];unfold Fs;rw[this];simp
     have hsi:=Cs ((worth (s.take i) % 18446744073709551616:Nat):Int)
     have hE:s.length≤i→Ft s m=if m<(worth (s.take i):Int) then(0,5) else((worth (s.take i):Int),0):=fun h=>by
      rw[List.take_of_length_le h] at h2 ⊢
      unfold Ft;rw[if_pos (hdec h2)]
     have hE1:s.length≤i→(18446744073709551615<worth (s.take i)∨m<(worth (s.take i):Int))→Ft s m=(0,5):=fun h hc=>by rw[hE h,if_pos (by omega)]
     have hE2:s.length≤i→(worth (s.take i):Int)≤m→Ft s m=((worth (s.take i):Int),0):=fun h hc=>by rw[hE h,if_neg (by omega)]
     (conv=>whnf)
     (repeat' ((first
      |with_reducible exact⟨⟩
      |((with_reducible refine aI ?_ ?_);focus (first|with_reducible rfl|omega|exact tK))
      |(split<;>rename_i hh<;>(try simp only[wS] at hh))
      |with_reducible refine iA ?_ ?_
      |fail)<;>(conv=>whnf)))
     all_goals (try (show _=_;simp only[wQ]))
     all_goals first|(rw[hbad (by omega) (by omega)];done)|(rw[hE1 (by omega) (by omega)];done)|(rw[hE2 (by omega) (by omega)];done)|(rw[hE2 (by omega) (by omega)];omega)|skip
     all_goals (
      obtain⟨h6,h7,h8⟩:Bb s i=((s.getD i 0).toNat:Int)∧Ai s i=1∧(s.getD i 0).toNat<128:=by
       rcases D6 (l:=s) (p:=i) (by omega) with h6|h6<;>omega
      have hst:=Ja (l:=s) (i:=i) (by omega)
      (conv=>whnf)
      refine⟨(i+1:Nat),[],?_,⟨⟨rfl,(nB rfl),rfl⟩,?_,?_⟩⟩
      ·exact⟨⟨show i+1≤s.length by omega,F9 (by omega) h2 (by omega) (by omega)⟩,show s.length - (i+1)<s.length - i by omega⟩
      ·(conv=>whnf)
       (repeat' ((first|with_reducible exact⟨⟩|((with_reducible refine aI ?_ ?_);focus (exact tA))|with_reducible refine iA ?_ ?_|fail)<;>(conv=>whnf)))
       all_goals (try simp only[wQ])
       all_goals first|(rw[Xe,Xe,wrap_u64,wrap_u64];omega)|(symm;rw[decide_eq_true_eq];omega)|(show ltI _ _=_;rw[Fj,Bool.eq_iff_iff,decide_eq_true_eq,decide_eq_true_eq];omega)
      ·exact tL
      )
    )
@[irreducible] def An(s:List UInt8):Int × Bool:=((Ft s 9223372036854775807).1,decide ((Ft s 9223372036854775807).2=0))
theorem Aez(s:List UInt8)(m:Int)(hm:0≤m):0≤(Ft s m).1∧(Ft s m).1≤m:=by
 unfold Ft;repeat' split
 all_goals (simp only[];omega)
def Pw:PC:=PC.fun fun|[.str s]=>some (True,.tup [.int .i64 (sI (An s).1),.bool (sB (An s).2)])|_=>none
def Ke:PT:=D1 [(176,eM)]
theorem Ox{W:World}(hW:Tabs W):Dj (Fw W) Tryz.prog Ke:=(Ae Tryz.call176 (X9 hW) A6)
def Kf:FuncId→Option Ctr:=Av Ke []
theorem Ya{W:World}(hW:Tabs W):Ad (Fw W) Tryz.prog Kf:=(A7 (Ox hW))
theorem F0{W:World}(hW:Tabs W):GoodP (Fw W) Tryz.prog 93 Pw:=by
 have hD:=Ox hW
 have hC0:Ad (Fw W) Tryz.prog Kf:=(Ya hW)
 refine Be (D:=Ke) (C:=Kf) (wr:=(fun _=>false)) rfl Aq hD hC0 Tryz.func93 (fun _ _=>none) ?_
 clear hC0 hD hW
 intro cs p r h hf hp
 split at h
 case h_2=>cases h
 rename_i s
 cases h
 try simp only[Bl,Cm,Ar,Go.Vc.lo,Go.Vc.hi,and_true] at hf
 have h1:=Aez s 9223372036854775807 (by decide)
 have h2:=Cs (Ft s 9223372036854775807).1
 have h3:(An s).1=(Ft s 9223372036854775807).1:=by unfold An;rfl
 have h4:(An s).2=decide ((Ft s 9223372036854775807).2=0):=by unfold An;rfl
 (conv=>whnf)
 (repeat' ((first
  |with_reducible exact⟨⟩
  |((with_reducible refine aI ?_ ?_);focus (first|with_reducible exact⟨⟩|with_reducible rfl|exact tK))
  |with_reducible refine iA ?_ ?_
  |fail)<;>(conv=>whnf)))
 all_goals (try (show _=_;simp only[wQ]))
 ·rw[h3]
 ·rw[h4,Bw,Bool.eq_iff_iff,beq_iff_eq,decide_eq_true_eq]
@[irreducible] def Lx(s:List UInt8):Int:=if (Ft s 4611686018427387904).2=0 then(Ft s 4611686018427387904).1 else -1
end
end Go.Vc.Z
namespace Go.Proofs
open Go.Shelf Go.RowKit
set_option maxRecDepth 1000000
def Tryz.laysJoin_ren:Go.Shelf.Ren:=⟨fun|156=>62|165=>134|166=>101|169=>102|240=>182|241=>209|276=>249|277=>271|n=>n,fun|31=>32|9=>9|3=>3|4=>4|0=>0|20=>20|72=>152|76=>155|70=>149|37=>150|75=>154|127=>221|164=>264|5=>5|80=>162|n=>n,fun|n=>n⟩
theorem Tryz.laysJoin:Go.Proofs.Lays.n156 Tryz.prog Tryz.laysJoin_ren:={
 mixed:=by kernel_rfl
 f156:=Tryz.func62.trans (congrArg some (by kernel_rfl))
 f165:=Tryz.func134.trans (congrArg some (by kernel_rfl))
 f166:=Tryz.func101.trans (congrArg some (by kernel_rfl))
 f169:=Tryz.func102.trans (congrArg some (by kernel_rfl))
 f240:=Tryz.func182.trans (congrArg some (by kernel_rfl))
 f241:=Tryz.func209.trans (congrArg some (by kernel_rfl))
 f276:=Tryz.func249.trans (congrArg some (by kernel_rfl))
 f277:=Tryz.func271.trans (congrArg some (by kernel_rfl))
 t0:=Tryz.underlying0
 a0:=Tryz.isAgg0
 z0:=Tryz.sizeOf0
 v0:=Tryz.zeroValue0
 t3:=Tryz.underlying3
 a3:=Tryz.isAgg3
 z3:=Tryz.sizeOf3
 v3:=Tryz.zeroValue3
 t4:=Tryz.underlying4
 a4:=Tryz.isAgg4
 z4:=Tryz.sizeOf4
 v4:=Tryz.zeroValue4
 t9:=Tryz.underlying9
 a9:=Tryz.isAgg9
 z9:=Tryz.sizeOf9
 v9:=Tryz.zeroValue9
 t20:=Tryz.underlying20
 a20:=Tryz.isAgg20
 z20:=Tryz.sizeOf20
 v20:=Tryz.zeroValue20
 t31:=Tryz.underlying32
 a31:=Tryz.isAgg32
 z31:=Tryz.sizeOf32
 v31:=Tryz.zeroValue32
 t37:=Tryz.underlying150
 a37:=Tryz.isAgg150
 z37:=Tryz.sizeOf150
 v37:=Tryz.zeroValue150
 t70:=Tryz.underlying149
 a70:=Tryz.isAgg149
 z70:=Tryz.sizeOf149
 v70:=Tryz.zeroValue149
 t72:=Tryz.underlying152
 a72:=Tryz.isAgg152
 z72:=Tryz.sizeOf152
 v72:=Tryz.zeroValue152
 t75:=Tryz.underlying154
 a75:=Tryz.isAgg154
 z75:=Tryz.sizeOf154
 v75:=Tryz.zeroValue154
 t76:=Tryz.underlying155
 a76:=Tryz.isAgg155
 z76:=Tryz.sizeOf155
 v76:=Tryz.zeroValue155
 t127:=Tryz.underlying221
 a127:=Tryz.isAgg221
 z127:=Tryz.sizeOf221
 v127:=Tryz.zeroValue221
 t164:=Tryz.underlying264
 a164:=Tryz.isAgg264
 z164:=Tryz.sizeOf264
 v164:=Tryz.zeroValue264 }
def Tryz.laysItoa_ren:Go.Shelf.Ren:=⟨fun|171=>111|243=>189|246=>190|283=>203|284=>204|285=>205|286=>206|129=>267|317=>266|318=>268|319=>269|320=>270|337=>301|338=>302|n=>n,fun|3=>3|9=>9|2=>2|4=>4|171=>233|0=>0|53=>37|37=>150|5=>5|173=>235|212=>281|51=>282|20=>20|213=>283|46=>284|232=>323|233=>324|n=>n,fun|17=>0|18=>4|19=>5|n=>n⟩
theorem Tryz.laysItoa:Go.Proofs.LaysM.n171 Tryz.prog Tryz.laysItoa_ren:={
 mixed:=by kernel_rfl
 f129:=Tryz.func267.trans (congrArg some (by kernel_rfl))
 f171:=Tryz.func111.trans (congrArg some (by kernel_rfl))
 f243:=Tryz.func189.trans (congrArg some (by kernel_rfl))
 f246:=Tryz.func190.trans (congrArg some (by kernel_rfl))
 f283:=Tryz.func203.trans (congrArg some (by kernel_rfl))
 f284:=Tryz.func204.trans (congrArg some (by kernel_rfl))
 f285:=Tryz.func205.trans (congrArg some (by kernel_rfl))
 f286:=Tryz.func206.trans (congrArg some (by kernel_rfl))
 f317:=Tryz.func266.trans (congrArg some (by kernel_rfl))
 f318:=Tryz.func268.trans (congrArg some (by kernel_rfl))
 f319:=Tryz.func269.trans (congrArg some (by kernel_rfl))
 f320:=Tryz.func270.trans (congrArg some (by kernel_rfl))
 f337:=Tryz.func301.trans (congrArg some (by kernel_rfl))
 f338:=Tryz.func302.trans (congrArg some (by kernel_rfl))
 t0:=Tryz.underlying0
 a0:=Tryz.isAgg0
 z0:=Tryz.sizeOf0
 v0:=Tryz.zeroValue0
 t2:=Tryz.underlying2
 a2:=Tryz.isAgg2
 z2:=Tryz.sizeOf2
 v2:=Tryz.zeroValue2
 t3:=Tryz.underlying3
 a3:=Tryz.isAgg3
 z3:=Tryz.sizeOf3
 v3:=Tryz.zeroValue3
 t4:=Tryz.underlying4
 a4:=Tryz.isAgg4
 z4:=Tryz.sizeOf4
 v4:=Tryz.zeroValue4
 t5:=Tryz.underlying5
 a5:=Tryz.isAgg5
 z5:=Tryz.sizeOf5
 v5:=Tryz.zeroValue5
 t9:=Tryz.underlying9
 a9:=Tryz.isAgg9
 z9:=Tryz.sizeOf9
 v9:=Tryz.zeroValue9
 t20:=Tryz.underlying20
 a20:=Tryz.isAgg20
 z20:=Tryz.sizeOf20
 v20:=Tryz.zeroValue20
 t37:=Tryz.underlying150
 a37:=Tryz.isAgg150
 z37:=Tryz.sizeOf150
 v37:=Tryz.zeroValue150
 t46:=Tryz.underlying284
 a46:=Tryz.isAgg284
 z46:=Tryz.sizeOf284
 v46:=Tryz.zeroValue284
 t51:=Tryz.underlying282
 a51:=Tryz.isAgg282
 z51:=Tryz.sizeOf282
 v51:=Tryz.zeroValue282
 t53:=Tryz.underlying37
 a53:=Tryz.isAgg37
 z53:=Tryz.sizeOf37
 v53:=Tryz.zeroValue37
 t171:=Tryz.underlying233
 a171:=Tryz.isAgg233
 z171:=Tryz.sizeOf233
 v171:=Tryz.zeroValue233
 t173:=Tryz.underlying235
 a173:=Tryz.isAgg235
 z173:=Tryz.sizeOf235
 v173:=Tryz.zeroValue235
 t212:=Tryz.underlying281
 a212:=Tryz.isAgg281
 z212:=Tryz.sizeOf281
 v212:=Tryz.zeroValue281
 t213:=Tryz.underlying283
 a213:=Tryz.isAgg283
 z213:=Tryz.sizeOf283
 t232:=Tryz.underlying323
 a232:=Tryz.isAgg323
 z232:=Tryz.sizeOf323
 v232:=Tryz.zeroValue323
 t233:=Tryz.underlying324
 a233:=Tryz.isAgg324
 z233:=Tryz.sizeOf324
 v233:=Tryz.zeroValue324
 g17:=by kernel_rfl
 g18:=by kernel_rfl
 g19:=by kernel_rfl
 i0:=by kernel_rfl
 i2:=by kernel_rfl
 i3:=by kernel_rfl
 i4:=by kernel_rfl
 i5:=by kernel_rfl
 i9:=by kernel_rfl
 i20:=by kernel_rfl
 i37:=by kernel_rfl
 i46:=by kernel_rfl
 i51:=by kernel_rfl
 i53:=by kernel_rfl
 i171:=by kernel_rfl
 i173:=by kernel_rfl
 i212:=by kernel_rfl
 i232:=by kernel_rfl
 i233:=by kernel_rfl
 m17:=by kernel_rfl
 m18:=by kernel_rfl
 m19:=by kernel_rfl }
end Go.Proofs
namespace Go.Proofs
open Go.Shelf Go.RowKit
theorem Tryz.extra:Builder.Extra Tryz.prog Tryz.laysJoin_ren:={
 sizeBuilder:=by kernel_rfl
 liesBuilder:=by kernel_rfl
 t5:=by kernel_rfl
 a5:=fun w=>Tryz.isAgg5 w
 z5:=fun w=>Tryz.sizeOf5 w
 v5:=fun w=>Tryz.zeroValue5 w
 infoByte:=by kernel_rfl
 cellsByte:=by kernel_rfl
 sizeByte:=by kernel_rfl
 neB5:=by decide }
end Go.Proofs
namespace Go.Vc
open Go Go.Proofs Go.RowKit
theorem eN{S:Nat→Prop}{w w':World}(h:Below w.heap.size w w'):Ext (fun _=>none) S w (fun _=>none) S w':=
 ⟨fun _ _ h=>(by cases h),fun _ h=>h,fun b hb _=>h.block b hb,h.size,fun b arr T fr hb=>⟨arr,fr,(h.block b (lt_of_some hb)).trans hb,rfl⟩,fun _ _ h=>(by cases h),fun _ h=>.inl h,h.os,h.tape,h.output⟩
theorem I0{F:Nat→Obj→Prop}{P:Program}{f:FuncId}{α:Type}{args:α→List AV}{pre:α→Prop}{res:α→AV}(hflat:∀ x,(res x).flat=true)(hu:∀ x,Er 0 (args x)=true)
  (h:∀ x S w vs,pre x→Bl (args x)→Sok F S w→VL (fun _=>none) S w (args x) vs→Calls P f vs w fun e w'=>∃ v,e= .returned v∧(∀ S' w',V (fun _=>none) S' w' (res x) v)∧Below w.heap.size w w'):GoodP F P f (PC.of args pre res):=by
 intro S w cs vs Q hs hv hpre
 obtain⟨x,h1,h2,h3⟩:=hpre
 have hl:=H8 h2
 have hv':VL (fun _=>none) S w (args x) vs:=by
  refine⟨by rw[←hl];exact hv.1,fun i c v hc hv'=>?_⟩
  have hi:i<cs.length:=by
   rcases Nat.lt_or_ge i (args x).length with h'|h'
   ·omega
   ·rw[List.getElem?_eq_none h'] at hc;cases hc
  exact(hv.2 i cs[i] v (List.getElem?_eq_getElem hi) hv').le (σ:=fun i=>i) (n:=0) (fun i b hi=>by omega) (M6 h2 i _ _ (List.getElem?_eq_getElem hi) hc) (Dl (hu x) i c hc)
 refine(h x S w vs h1 hv'.fact hs hv').mono ?_
 rintro e w' ⟨v,rfl,hV,hb⟩
 exact⟨v,res x,S,rfl,h3,hV S w',eN hb,hs.still (eN hb)⟩
theorem V.slR{ρ:Nat→Option Nat}{S:Nat→Prop}{w:World}{clip:Bool}{sz len:Nat}{get:Nat→List AV}{v:Value}(h:V ρ S w (.sl clip sz len get) v):
  (len=0∧∃ ao,v= .slice ao 0 0)∨∃ b o cap,∃ f:Nat→Nat→Value,v= .slice (some ⟨b,o,none⟩) len cap∧(0<len→S b∧b<w.heap.size)∧len≤cap∧cap≤maxLen∧(∀ e,e<len→(get e).length=sz)∧
   (∀ e j,e<len→j<sz→w.cell? ⟨b,o+e*sz+j,none⟩=some (f e j))∧(∀ (e j:Nat) (c:AV),e<len→(get e)[j]? =some c→VI S w (fun _=>none) c (f e j)):=by
 cases h with
 |sln=>exact .inl ⟨rfl,_,rfl⟩
 |sl _ _ _ _ b o cap f hs hl hm hcl hz hc hv=>exact .inr ⟨b,o,cap,f,rfl,hs,hl,hm,hz,hc,hv⟩
theorem V.strR'{ρ:Nat→Option Nat}{S:Nat→Prop}{w:World}{l:List UInt8}{v:Value}(h:V ρ S w (.str l) v):∃ s:ByteArray,v= .string s∧s.data.toList=l∧l.length≤maxLen:=by
 cases h with|str _ s h1 h2=>exact⟨s,rfl,h1,h2⟩
abbrev slS(l:List (List UInt8)):AV:=.sl false 1 l.length (fun e=>[.str (l.getD e [])])
def Anv:PC:=PC.of (fun x:List (List UInt8) × List UInt8=>[slS x.1,.str x.2]) (fun x=>(Lib.join x.1 x.2).length≤140737488355328∧x.1.length≤140737488355328) (fun x=>.str (Lib.join x.1 x.2))
theorem Ae0{F:Nat→Obj→Prop}:GoodP F Tryz.prog 62 Anv:=by
 refine I0 (fun _=>rfl) (fun _=>rfl) ?_
 rintro⟨l,sep⟩ S w vs ⟨hpre,hlen⟩ hf hs hv
 simp only at hpre hlen hv
 obtain⟨vs⟩:=vs
 match vs,hv with
 |[a,b],hv=>
  have ha:=hv.2 0 _ _ rfl rfl
  have hb:=hv.2 1 _ _ rfl rfl
  obtain⟨sb,rfl,hsb,h2⟩:=V.strR' hb
  have fin:∀ r:List UInt8,r.length≤140737488355328→∀ S' w',V (fun _=>none) S' w' (.str r) (.string ⟨r.toArray⟩):=fun r hr S' w'=>.str _ _ (by simp) (by rw[Cf];omega)
  rcases ha.slR with ⟨h0,ao,rfl⟩|⟨b,o,cap,f,rfl,hst,hl,hm,hz,hc,hv'⟩
  ·obtain rfl:l=[]:=List.length_eq_zero_iff.1 h0
   refine(Any.strings_Join_none Tryz.laysJoin Tryz.extra ao 0 sb w).mono ?_
   rintro e w' ⟨rfl,rfl⟩
   exact⟨_,rfl,fin [] (by simp),Below.refl _ _⟩
  ·have hstr:∀ (j:Nat),j<l.length→∃ s:ByteArray,f j 0= .string s∧s.data.toList=l.getD j []:=fun j hj=>by
    obtain⟨s,h1,h3,_⟩:=V.strR' (hv' j 0 _ hj rfl)
    exact⟨s,h1,h3⟩
   have hxs:∃ xs:List ByteArray,xs.map (·.data.toList)=l∧∀ (j:Nat) x,xs[j]? =some x→w.cell? ⟨b,o+j,none⟩=some (.string x):=by
    refine⟨l.map fun s=>⟨s.toArray⟩,by simp[Function.comp_def],fun j x hx=>?_⟩
    rw[List.getElem?_map] at hx
    cases hj:l[j]? with
    |none=>rw[hj] at hx;cases hx
    |some s=>
     rw[hj] at hx
     cases hx
     have hlt:j<l.length:=(List.getElem?_eq_some_iff.1 hj).1
     obtain⟨s',h1,h3⟩:=hstr j hlt
     have:=hc j 0 hlt (by omega)
     rw[Nat.mul_one,Nat.add_zero] at this
     rw[this,h1]
     have e:l.getD j []=s:=by rw[List.getD_eq_getElem?_getD,hj];rfl
     rw[e] at h3
     rw[←h3]
   obtain⟨xs,hx1,hx2⟩:=hxs
   have hxl:xs.length=l.length:=by rw[←hx1];simp
   by_cases h0:l.length=0
   ·obtain rfl:l=[]:=List.length_eq_zero_iff.1 h0
    refine(Any.strings_Join_none Tryz.laysJoin Tryz.extra (some ⟨b,o,none⟩) cap sb w).mono ?_
    rintro e w' ⟨rfl,rfl⟩
    exact⟨_,rfl,fin [] (by simp),Below.refl _ _⟩
   ·have:=Any.strings_Join Tryz.laysJoin Tryz.extra b o cap xs sb w hx2 (hst (by omega)).2 (by omega) (by omega) (by rw[hx1,hsb];exact hpre)
    rw[hx1,hsb,hxl] at this
    refine this.mono ?_
    rintro e w' ⟨rfl,hb⟩
    exact⟨_,rfl,fin _ hpre,hb⟩
 |[],hv=>simp[VL] at hv
 |[_],hv=>simp[VL] at hv
 |_::_::_::_,hv=>have:=hv.1;simp at this
end Go.Vc
namespace Go.Vc
open Go Go.Proofs Go.RowKit Go.Sort
theorem below_grow{w:World}(k:Nat)(os:Array Obj):Below w.heap.size w (grow (w.drewN k) os):=by
 refine⟨rfl,rfl,rfl,?_,fun b hb=>?_⟩
 ·show w.heap.size≤(w.heap++os).size
  simp
 ·show(w.heap++os)[b]? =w.heap[b]?
  rw[Array.getElem?_append_left hb]
def Anw:PC:=PC.of (fun n:Int=>[.int .i64 n]) (fun _=>True) (fun n=>.str (Lib.itoa n))
theorem Yb:∀ (k u:Nat),u<10 ^ (k+1)→Lib.nDigits u≤k+1
 |0,u,h=>by rw[Lib.nDigits_small (by simpa using h)];omega
 |k+1,u,h=>by
  by_cases h1:u<10
  ·rw[Lib.nDigits_small h1];omega
  ·rw[Lib.nDigits_big h1]
   have:=Yb k (u / 10) (by rw[Nat.pow_succ] at h;omega)
   omega
theorem zW{u:Nat}(h:u<10000000000000000000000000000000):(Lib.decDigits u).length≤31:=by
 rw[Lib.decDigits_length]
 exact Yb 30 u h
theorem Dd(n:Int)(h0: -9223372036854775808≤n)(h1:n≤9223372036854775807):(Lib.itoa n).length≤32:=by
 unfold Lib.itoa
 split
 ·have:=zW (u:=n.natAbs) (by omega)
  simp;omega
 ·have:=zW (u:=n.toNat) (by omega)
  omega
theorem Ae1{W:World}(hW:Tabs W):GoodP (Fw W) Tryz.prog 111 Anw:=by
 refine I0 (fun _=>rfl) (fun _=>rfl) ?_
 intro n S w vs _ hf hs hv
 obtain⟨vs⟩:=vs
 match vs,hv with
 |[a],hv=>
  obtain⟨rfl,hn⟩:=(hv.2 0 _ _ rfl rfl).intR
  obtain⟨h0,h1⟩:=hn
  refine(Any.strconv_Itoa Tryz.laysItoa n h0 h1 w (hW.pow hs)).mono ?_
  rintro e w' ⟨rfl,k,os,rfl⟩
  exact⟨_,rfl,fun S' w'=>.str _ _ (by simp) (by rw[Cf];have:=Dd n h0 h1;omega),below_grow k os⟩
 |[],hv=>simp[VL] at hv
 |_::_::_,hv=>have:=hv.1;simp at this
end Go.Vc
namespace Go.Vc
open Go Go.Proofs Go.RowKit Go.Sort
end Go.Vc
namespace Go.Vc
open Go Go.Proofs Go.RowKit Go.Sort
end Go.Vc
namespace Go.Vc.Z
open Go Go.Vc Go.Proofs Go.RowKit
set_option maxRecDepth 100000
attribute [local irreducible] inK
end Go.Vc.Z
namespace Go.Vc.Z
open Go Go.Vc Go.Proofs Go.RowKit
set_option maxRecDepth 100000
attribute [local irreducible] inK
end Go.Vc.Z
namespace Go.Proofs
open Go.Shelf Go.RowKit
set_option maxRecDepth 1000000
theorem Tryz.laysCopyCheck:Lays.n240 Tryz.prog Tryz.laysJoin_ren:={ Tryz.laysJoin with }
theorem Tryz.laysBString:Lays.n169 Tryz.prog Tryz.laysJoin_ren:={ Tryz.laysJoin with }
theorem Tryz.x72:Builder.X72 Tryz.prog Tryz.laysJoin_ren:={
 sizeBuilder:=by kernel_rfl
 liesBuilder:=by kernel_rfl }
section
variable {P : Program} {ρ : Ren}
set_option maxHeartbeats 2000000 in
theorem pE(L:Lays.n169 P ρ)(X:Builder.Extra P ρ)(b g n cap:Nat)(p:Value)(cs cur:Array Value)(T:TypeId)(fr fr':Nat × Nat)(l:List UInt8)(w:World)
  (hbk:w.heap[b]? =some (.cells cs T fr)) (hcs:cs[1]? =some (.slice (some ⟨g,0,none⟩) l.length cap)) (hg:w.heap[g]? =some (.cells cur (ρ.t 5) fr')) (h0:0<l.length) (hcap:l.length≤cap) (hm:cap≤maxLen) (hle:l.length≤cur.size)
  (hcell:∀ (j:Nat) (x:UInt8),l[j]? =some x→w.cell? ⟨g,j,none⟩=some (.int .u8 x.toNat)):
  Calls P (ρ.f 169) #[.pointer (some ⟨b,0,none⟩)] w fun e w'=>e= .returned (.string ⟨l.toArray⟩)∧w'=w.drew.freeze ⟨g,0,none⟩ l.length:=by
 have hl0:l≠[]:=by rintro rfl;simp at h0
 have c1:w.drew.cell? ⟨b,1,none⟩=some (.slice (some ⟨g,0,none⟩) l.length cap):=by
  have:w.drew.heap[b]? =some (.cells cs T fr):=hbk
  rw[Lib.cell_of_heap this];exact hcs
 have hSD:(Builtin.unsafeSliceData_ #[(ρ.t 37)] (ρ.t 127) #[.slice (some ⟨g,0,none⟩) l.length cap]).run P w.drew= .ok (.pointer (some ⟨g,0,none⟩)) w.drew:=
  Lib.run_unsafeSliceData_row _ _ _ _ _ _ (by omega)
 have hUS:(Builtin.unsafeString_ #[(ρ.t 127),(ρ.t 3)] (ρ.t 9) #[.pointer (some ⟨g,0,none⟩),.int .i64 l.length]).run P w.drew= .ok (.string ⟨l.toArray⟩) (w.drew.freeze ⟨g,0,none⟩ l.length):=by
  refine Lib.run_unsafeString_row w.drew (ρ.t 127) (ρ.t 3) (ρ.t 9) (ρ.t 5) L.t127 X.cellsByte g cur.size (by have hg':w.drew.heap[g]? =some (.cells cur (ρ.t 5) fr'):=hg;simp[World.shape?,hg']) l hl0 (by omega) (by unfold maxLen at hm;omega) ?_
  intro j x hx
  rw[Go.Vc.addr_add,Nat.zero_add]
  exact hcell j x hx
 have mixed:=L.mixed
 have t72:=L.t72;have a72:=L.a72;have z72:=L.z72;have v72:=L.v72;have u72:=run_underlying L.t72
 have t70:=L.t70;have a70:=L.a70;have z70:=L.z70;have v70:=L.v70;have u70:=run_underlying L.t70
 have t37:=L.t37;have a37:=L.a37;have z37:=L.z37;have v37:=L.v37;have u37:=run_underlying L.t37
 have t127:=L.t127;have a127:=L.a127;have z127:=L.z127;have v127:=L.v127;have u127:=run_underlying L.t127
 have t3:=L.t3;have a3:=L.a3;have z3:=L.z3;have v3:=L.v3;have u3:=run_underlying L.t3
 have t9:=L.t9;have a9:=L.a9;have z9:=L.z9;have v9:=L.v9;have u9:=run_underlying L.t9
 have t5:=X.t5;have a5:=X.a5;have z5:=X.z5;have v5:=X.v5;have u5:=run_underlying X.t5
 go_enter L.f169,Body.n169_ntmps ρ
 go_wp2
 go_region_o
 all_goals (go_wp2;go_ret;exact⟨rfl,rfl⟩)
end
end Go.Proofs
namespace Go.Vc
open Go Go.Proofs Go.RowKit
def Ah6:Nat:=152
def Am2:Nat:=5
def Ie:Ctr:=fun cs H Q=>match cs with
 |[.ptr id 0]=>(match H[id]? with
  |some (.var [p,buf] (some T))=>T=Ah6∧(match p with
   | .nilp=>Q (.tup []) (H.set id (.var [.ptr id 0,buf] (some T)))
   | .ptr id' 0=>id'=id∧Q (.tup []) H
   |_=>False)
  |_=>False)
 |_=>False
theorem Qk{F:Nat→Obj→Prop}:Good F Tryz.prog 182 Ie:=by
 intro ρ S w H cs vs Q hs hH hv hK
 unfold Ie at hK
 split at hK
 ·rename_i id
  split at hK
  ·rename_i p buf T hid
   obtain⟨rfl,hK⟩:=hK
   obtain⟨vs⟩:=vs
   match vs,hv with
   |[a],hv=>
    obtain⟨b,rfl,hb⟩:=(hv.2 0 _ _ rfl rfl).ptrR
    obtain⟨hns,arr,T',fr,h1,h2,h3,h4⟩:=hH.blk _ _ hid b hb
    have h1:w.heap[b]? =some (.cells arr Ah6 fr):=h1
    have h2:arr.size=2:=h2
    have e0:arr[0]? =some (arr.getD 0 undef):=by simp[h2]
    have hsh:w.shape? b=some (Ah6,2):=by simp[World.shape?,h1,h2]
    have hc:w.cell? ⟨b,0,none⟩=some (arr.getD 0 undef):=by simp only[World.cell?,h1];exact e0
    have v0:=h4 0 p _ rfl e0
    split at hK
    ·cases hv0:arr.getD 0 undef<;>rw[hv0] at v0<;>cases v0
     rw[hv0] at hc
     refine(Any.Builder_copyCheck_fresh Tryz.laysCopyCheck Tryz.x72 b w hc hsh (h3 0 (by omega))).mono ?_
     rintro e w' ⟨rfl,rfl⟩
     have hw:w.setCell ⟨b,0,none⟩ (.pointer (some ⟨b,0,none⟩))=w.setCells b 0 [.pointer (some ⟨b,0,none⟩)]:=rfl
     rw[hw]
     have hheap:=Dw b [.pointer (some ⟨b,0,none⟩)] 0 w arr Ah6 fr h1
     have hE:Ext ρ S w ρ S (w.setCells b 0 [.pointer (some ⟨b,0,none⟩)]):=K9 hH hb hns (setCells_size _ _ _ _) (fun k hk=>C2 b _ _ _ k hk)
      (fun a' T2 f' h'=>by rw[h1] at h';cases h';exact⟨_,_,hheap,Dy _ _ _⟩) (Cb _ _ _ _).1 (Cb _ _ _ _).2.1 (Cb _ _ _ _).2.2
     refine⟨_,.tup [],_,ρ,S,rfl,hK,.tup _ _ rfl (fun i c v hc=>by simp at hc),Hc hH hid rfl hb hE (setCells_size _ _ _ _) (fun k hk=>C2 b _ _ _ k hk) ?_,hE,hs.still hE⟩
     intro b' hb'
     rw[hb] at hb';cases hb'
     refine⟨hns,_,T',fr,hheap,by rw[Dy];exact h2,fun o ho=>?_,fun k c v hk hv=>?_⟩
     ·rw[Dy] at ho
      rw[World.frozen?_setCells];exact h3 o ho
     ·rw[Po _ _ _ _ (by simp;omega)] at hv
      cases k with
      |zero=>simp at hk hv;subst hk;subst hv;exact .ptr _ _ _ hb
      |succ k=>
       rw[if_neg (by simp)] at hv
       exact(h4 (k+1) c v hk hv).mono hE
    ·obtain⟨rfl,hK⟩:=hK
     obtain⟨b',hb',hb''⟩:=v0.ptrR
     rw[hb] at hb'';cases hb''
     rw[hb'] at hc
     refine(Any.Builder_copyCheck_used Tryz.laysCopyCheck Tryz.x72 b w hc).mono ?_
     rintro e w' ⟨rfl,rfl⟩
     exact⟨_,.tup [],_,ρ,S,rfl,hK,.tup _ _ rfl (fun i c v hc=>by simp at hc),hH,Ext.refl _ _ _,hs⟩
    ·exact hK.elim
   |[],hv=>simp[VL] at hv
   |_::_::_,hv=>have:=hv.1;simp at this
  ·exact hK.elim
 ·exact hK.elim
def Kg:Ctr:=fun cs H Q=>match cs with
 |[.ptr id 0]=>(match H[id]? with
  |some (.var [_,.osl r 1 0 n _] (some _))=>(match H[r]? with
   |some (.row 1 L get (some E))=>(E=Am2∧0<n∧n≤L∧∀ e,e<n→(Hd (get e)).isSome=true)∧Q (.str (bytesOf n get)) (H.set r .dead)
   |_=>False)
  |_=>False)
 |_=>False
theorem Oy{F:Nat→Obj→Prop}:Good F Tryz.prog 102 Kg:=by
 intro ρ S w H cs vs Q hs hH hv hK
 unfold Kg at hK
 split at hK
 ·rename_i id
  split at hK
  ·rename_i p r n cap T hid
   split at hK
   ·rename_i L get E hr
    obtain⟨⟨rfl,h0,hnL,hby⟩,hK⟩:=hK
    obtain⟨vs⟩:=vs
    match vs,hv with
    |[a],hv=>
     obtain⟨b,rfl,hb⟩:=(hv.2 0 _ _ rfl rfl).ptrR
     obtain⟨hns,arr,T',fr,h1,h2,h3,h4⟩:=hH.blk _ _ hid b hb
     have h2:arr.size=2:=h2
     have e1:arr[1]? =some (arr.getD 1 undef):=by simp[h2]
     obtain⟨g,o,cp,hsl,hg,hl,hm,ho,_,_⟩:=(h4 1 _ _ rfl e1).oslR
     have ho:o=0:=by rw[ho (by omega)]
     subst ho
     obtain⟨hgs,cur,T2,fr2,g1,g2,g3,g4,g5⟩:=hH.blk _ _ hr g hg
     have g1:w.heap[g]? =some (.cells cur Am2 fr2):=g1
     rw[Nat.mul_one] at g2
     have hbl:(bytesOf n get).length=n:=by simp[bytesOf]
     have hcell:∀ (j:Nat) (x:UInt8),(bytesOf n get)[j]? =some x→w.cell? ⟨g,j,none⟩=some (.int .u8 x.toNat):=fun j x hx=>by
      have hj:j<n:=by
       rcases Nat.lt_or_ge j n with h|h
       ·exact h
       ·rw[List.getElem?_eq_none (by rw[hbl];exact h)] at hx;cases hx
      obtain⟨k,hk1,hk2,hk3⟩:∃ k:Int,get j=[.int .u8 k]∧True∧True:=by
       have:=hby j hj
       unfold Hd at this
       split at this
       ·rename_i k hk;exact⟨k,hk,trivial,trivial⟩
       ·cases this
      have hlt:j<cur.size:=by omega
      have hv:=g5 j 0 (.int .u8 k) cur[j] (by omega) (by rw[hk1];rfl) (by simp[hlt])
      obtain⟨hv1,hv2⟩:=hv.intR
      simp only[bytesOf,List.getElem?_map,List.getElem?_range hj,Option.map_some,Option.some.injEq,hk1,Hd,Option.getD_some] at hx
      simp only[World.cell?,g1]
      rw[Array.getElem?_eq_getElem hlt,hv1,←hx]
      have:0≤k∧k≤255:=hv2
      congr 2
      simp[UInt8.toNat_ofNat];omega
     have call:=pE Tryz.laysBString Tryz.extra b g n cp (arr.getD 0 undef) arr cur _ fr fr2 (bytesOf n get) w h1 (by rw[e1,hsl,hbl]) g1 (by omega) (by omega) hm (by omega) hcell
     rw[hbl] at call
     refine call.mono ?_
     rintro e w' ⟨rfl,rfl⟩
     have hn0: ¬n=0:=by omega
     have hoth:∀ k,k≠g→(w.drew.freeze ⟨g,0,none⟩ n).heap[k]? =w.heap[k]? :=fun k hk=>by
      unfold World.freeze
      rw[if_neg hn0]
      show(w.heap.modify g _)[k]? =_
      rw[Array.getElem?_modify,if_neg (Ne.symm hk)]
     have hsz:(w.drew.freeze ⟨g,0,none⟩ n).heap.size=w.heap.size:=by
      unfold World.freeze
      rw[if_neg hn0]
      show(w.heap.modify g _).size=_
      simp
     have hE:Ext ρ S w ρ S (w.drew.freeze ⟨g,0,none⟩ n):=
      K9 hH hg hgs hsz hoth (fun arr2 T3 fr3 h=>by
       obtain⟨lo,hi⟩:=fr3
       refine⟨arr2,(if lo == hi then(0,0+n) else(min lo 0,max hi (0+n))),?_,rfl⟩
       unfold World.freeze
       rw[if_neg hn0]
       show(w.heap.modify g _)[g]? =_
       rw[Array.getElem?_modify,if_pos rfl,h];rfl)
       (by unfold World.freeze;rw[if_neg hn0];rfl) (by unfold World.freeze;rw[if_neg hn0];rfl) (by unfold World.freeze;rw[if_neg hn0];rfl)
     exact⟨_,.str _,_,ρ,S,rfl,hK,.str _ _ (by simp) (by rw[hbl];omega),Hc hH hr rfl hg hE hsz hoth trivial,hE,hs.still hE⟩
    |[],hv=>simp[VL] at hv
    |_::_::_,hv=>have:=hv.1;simp at this
   ·exact hK.elim
  ·exact hK.elim
 ·exact hK.elim
end Go.Vc
namespace Go.Vc
open Go Go.Proofs Go.RowKit
theorem GoodP.imp{F:Nat→Obj→Prop}{P:Program}{f:FuncId}{pc pc':PC}(h:GoodP F P f pc)(hi:∀ cs Q,pc'.T cs Q→pc.T cs Q):GoodP F P f pc':=
 fun S w cs vs Q hs hv hT=>h S w cs vs Q hs hv (hi cs Q hT)
namespace Z
noncomputable section
def Iw:PC:=PC.fun fun|[.int .i64 n]=>some (True,.str (sS (Lib.itoa n)))|_=>none
theorem Acl{W:World}(hW:Tabs W):GoodP (Fw W) Tryz.prog 111 Iw:=by
 refine(Ae1 hW).imp fun cs Q h=>?_
 simp only[Iw,PC.fun] at h
 split at h
 ·rename_i p r hf
  split at hf
  ·cases hf
   rename_i n
   rw[Ap] at h
   exact⟨n,trivial,⟨⟨rfl,rfl⟩,trivial⟩,h.2⟩
  ·cases hf
 ·exact h.elim
def Nf:PC:=PC.of (fun x:List (List UInt8) × List UInt8=>[slS x.1,.str x.2]) (fun x=>(Lib.join x.1 x.2).length≤140737488355328∧x.1.length≤140737488355328) (fun x=>.str (sS (Lib.join x.1 x.2)))
theorem Jx{W:World}(_:Tabs W):GoodP (Fw W) Tryz.prog 62 Nf:=by
 refine Ae0.imp fun cs Q h=>?_
 obtain⟨x,h1,h2,h3⟩:=h
 simp only[Ap] at h3
 exact⟨x,h1,h2,h3⟩
end
end Z
end Go.Vc
namespace Go.Vc.Z
open Go Go.Vc Go.Proofs Go.RowKit Go.Pl Go.Lib
noncomputable section
set_option maxRecDepth 100000
attribute [local irreducible] inK Utf8.decode Utf8.encode Lib.itoa Pl.worth Pl.allDig
attribute [local irreducible] Lib.join
theorem zX{L:List (List UInt8)}{w:List UInt8}{b:Nat→List AV}(hb:b 0=[.str w]){e:Nat}(he:e<(L++[w]).length):Bu L.length (fun e=>[AV.str (L.getD e [])]) b e=[AV.str ((L++[w]).getD e [])]:=by
 unfold Bu
 rw[List.length_append,List.length_singleton] at he
 rcases Nat.lt_or_ge e L.length with h|h
 ·rw[if_pos h]
  simp[List.getD_eq_getElem?_getD,List.getElem?_append_left h]
 ·obtain rfl:e=L.length:=by omega
  rw[if_neg (by omega),Nat.sub_self,hb]
  simp[List.getD_eq_getElem?_getD]
theorem zY(m:Nat):∀ (L:List (List UInt8)),(∀ s ∈ L,s.length≤m)→Lib.lens L≤L.length*m
 |[],_=>by simp[Lib.lens]
 |x::r,h=>by
  have h1:=zY m r fun s hs=>h s (List.mem_cons_of_mem _ hs)
  have h2:=h x List.mem_cons_self
  simp only[Lib.lens,List.map_cons,List.sum_cons,List.length_cons] at h1 ⊢
  rw[Nat.add_mul];omega
theorem Ng(sep:List UInt8)(m:Nat)(L:List (List UInt8))(h:∀ s ∈ L,s.length≤m):(Lib.join L sep).length≤L.length*(m+sep.length):=by
 cases L with
 |nil=>simp[Lib.join_nil]
 |cons x r=>
  rw[Lib.join_length]
  have:=zY m (x::r) h
  rw[Nat.mul_add]
  have:sep.length*r.length≤(x::r).length*sep.length:=by
   rw[Nat.mul_comm];exact Nat.mul_le_mul_right _ (by simp)
  omega
theorem rT(n:Int):(Ay n).length≤20:=by
 unfold Ay
 split
 ·have:=Ot (by assumption)
  exact Q6 _ (by omega)
 ·simp
end
end Go.Vc.Z
namespace Go.Vc.Z
open Go Go.Vc Go.Proofs Go.RowKit Go.Pl Go.Lib
noncomputable section
set_option maxRecDepth 100000
attribute [local irreducible] inK Utf8.decode Utf8.encode Lib.itoa Pl.worth Pl.allDig
attribute [local irreducible] Lib.join
end
end Go.Vc.Z
namespace Go.Vc.Z
open Go Go.Vc Go.Proofs Go.RowKit Go.Pl Go.Lib
noncomputable section
set_option maxRecDepth 100000
attribute [local irreducible] inK Utf8.decode Utf8.encode Lib.itoa Pl.worth Pl.allDig
abbrev Gn(n:Int):UInt8:=UInt8.ofNat (48+n % 10).toNat
@[irreducible] def Ca(n:Int):List UInt8:=decDigits (n / 10 / 10).toNat++[46,Gn (n / 10),Gn n]
@[irreducible] def Oz(n:Int):List UInt8:=if n<0 then 45::Ca (-n) else Ca n
@[irreducible] def D3(n:Int):List UInt8:=if Es n=true then Oz n else []
theorem Kh{n:Int}(h0:0≤n)(h:n≤9223372036854775807):(Ca n).length≤30:=by
 unfold Ca
 have:=Q6 (n / 10 / 10).toNat (by omega)
 simp only[List.length_append,List.length_cons,List.length_nil];omega
theorem yH{n:Int}(h: -9223372036854775807≤n∧n≤9223372036854775807):(Oz n).length≤31:=by
 unfold Oz
 split
 ·have:=Kh (n:= -n) (by omega) (by omega)
  simp only[List.length_cons];omega
 ·have:=Kh (n:=n) (by omega) (by omega)
  omega
def Hg(m:Int):Nat→List UInt8
 |0=>Ca m
 |1=>decDigits (m / 10).toNat++[46,Gn m]
 |2=>decDigits m.toNat++[46]
 |_+3=>if m=0 then [] else decDigits m.toNat
theorem Ae2{m:Int}(h:0≤m):(if m / 10=0 then [] else decDigits (m / 10).toNat)++[Gn m]=decDigits m.toNat:=by
 obtain⟨u,rfl⟩:∃ u:Nat,m=u:=⟨m.toNat,by omega⟩
 have e:Gn (u:Int)=UInt8.ofNat (48+u % 10):=by unfold Gn;congr 1
 rw[e,show((u:Int) / 10).toNat=u / 10 by omega,Int.toNat_natCast]
 split
 ·rw[Ic (by omega)];rfl
 ·rw[R6 (u:=u) (by omega)]
theorem rest_step{m:Int}{i:Nat}(h:0≤m)(hi:i<3∨0<m):Hg (m / 10) (i+1)++(if i=2 then [Gn m,46] else [Gn m])=Hg m i:=by
 rcases Nat.lt_or_ge i 3 with h3|h3
 rcases(by omega:i=0∨i=1∨i=2) with rfl|rfl|rfl
 ·simp[Hg,Ca]
 ·simp[Hg]
 ·have:=Ae2 h
  simp only[Hg]
  rw[if_pos True.intro,show [Gn m,46]=[Gn m]++[46] from rfl,←List.append_assoc,this]
 ·obtain⟨k,rfl⟩:∃ k,i=k+3:=⟨i - 3,by omega⟩
  have:=Ae2 h
  rw[if_neg (by omega)]
  show(if m / 10=0 then [] else decDigits (m / 10).toNat)++[Gn m]=if m=0 then [] else decDigits m.toNat
  rw[this,if_neg (by omega)]
def Avs(l:List UInt8):Blk:=match l with
 |[]=>.dead
 |c::l=>.row 1 (l.length+1) (fun e=>[.int .u8 ((c::l).getD e 0).toNat])
def Avt(id:Nat):List UInt8→AV
 |[]=>.nilsl
 |_::l=>.osl id 1 0 (l.length+1) none
abbrev FS:=Nat × List UInt8 × Int
def Anx(n:Int):LoopSpec:={
 α:=FS
 keep:=[0,3,4]
 vals x:=[.int .i64 x.2.2,Avt 0 x.2.1,.int .i64 x.1]
 heap x:=[Avs x.2.1]
 ok x:=0≤x.2.2∧x.2.2≤n∧((x.1=0↔x.2.1=[])∧x.1≤x.2.1.length)∧Hg x.2.2 x.1++x.2.1.reverse=Ca n
 μ x:=(3 - x.1)+2*x.2.2.toNat }
def Anz(T:List UInt8)(k:Nat):Blk:=.row 1 k (fun e=>[.int .u8 (T.getD e 0).toNat]) (some 5)
def Ah7(n:Int):LoopSpec:={
 α:=Nat
 keep:=[3,5,41,42]
 vals k:=[.osl 0 1 0 (Ca n).length none,.ptr 1 0,.int .i64 (Ca n).length,.int .i64 k]
 heap k:=match k with
  |0=>[.row 1 (Ca n).length (fun e=>[.int .u8 ((Ca n).reverse.getD e 0).toNat]),.var [.nilp,.nilsl] (some 152),.dead]
  |k+1=>[.row 1 (Ca n).length (fun e=>[.int .u8 ((Ca n).reverse.getD e 0).toNat]),.var [.ptr 1 0,.osl 2 1 0 (k+1) none] (some 152),Anz (Ca n) (k+1)]
 ok k:=k≤(Ca n).length
 μ k:=(Ca n).length - k }
def rU:PC:=PC.fun fun|[.int .i64 n]=>some (0≤n∧Es n=true,.str (sS (Ca n)))|_=>none
theorem Ae3{m:Int}(h:0≤m):(((Gn m).toNat:Nat):Int)=48+m.tmod 10:=by
 rw[Int.tmod_eq_emod_of_nonneg h]
 unfold Gn
 have:(UInt8.ofNat (48+m % 10).toNat).toNat=(48+m % 10).toNat % 256:=UInt8.toNat_ofNat'
 omega
theorem pF{m:Int}{i:Nat}(h:0≤m)(hi:i<3∨0<m)(h2:i≠2):Hg (m / 10) (i+1)++[Gn m]=Hg m i:=by
 have:=rest_step h hi
 rw[if_neg h2] at this;exact this
theorem Ae4{m:Int}(h:0≤m):Hg (m / 10) 3++[Gn m,46]=Hg m 2:=rest_step h (.inl (by omega))
theorem Ae5{T:List UInt8}{j:Nat}(h:j<T.length):T.reverse.getD (0+((T.length:Int) - 1 - (j:Int)).toNat) 0=T.getD j 0:=by
 rw[show 0+((T.length:Int) - 1 - (j:Int)).toNat=T.length - 1 - j by omega]
 simp only[List.getD_eq_getElem?_getD]
 rw[List.getElem?_reverse (by omega),show T.length - 1 - (T.length - 1 - j)=j by omega]
theorem Ah8{T:List UInt8}{k:Nat}{b:Nat→List AV}(hb:b 0=[.int .u8 (T.getD k 0).toNat]){e:Nat}(he:e<k+1):Bu k (fun e=>[AV.int .u8 (T.getD e 0).toNat]) b e=[AV.int .u8 (T.getD e 0).toNat]:=by
 unfold Bu
 rcases Nat.lt_or_ge e k with h|h
 ·rw[if_pos h]
 ·obtain rfl:e=k:=by omega
  rw[if_neg (by omega),Nat.sub_self,hb]
theorem El(T:List UInt8):bytesOf T.length (fun e=>[AV.int .u8 (T.getD e 0).toNat])=T:=by
 refine List.ext_getElem? fun j=>?_
 simp only[bytesOf,List.getElem?_map]
 rcases Nat.lt_or_ge j T.length with h|h
 ·rw[List.getElem?_range h,List.getElem?_eq_getElem h]
  simp[Hd,List.getD_eq_getElem?_getD,h]
 ·rw[List.getElem?_eq_none (by simpa using h),List.getElem?_eq_none h];rfl
theorem An0{l:List UInt8}{d:UInt8}{b:Nat→List AV}(hb:b 0=[.int .u8 d.toNat]){e:Nat}(he:e<l.length+1):Bu l.length (fun e=>[AV.int .u8 (l.getD e 0).toNat]) b e=[AV.int .u8 ((l++[d]).getD e 0).toNat]:=by
 unfold Bu
 rcases Nat.lt_or_ge e l.length with h|h
 ·rw[if_pos h]
  simp[List.getD_eq_getElem?_getD,List.getElem?_append_left h]
 ·obtain rfl:e=l.length:=by omega
  rw[if_neg (by omega),Nat.sub_self,hb]
  simp[List.getD_eq_getElem?_getD]
theorem Wy{l:List UInt8}{n:Nat}{d:UInt8}{g b:Nat→List AV}(hn:n=l.length)(hg:∀ e,e<l.length→g e=[.int .u8 (l.getD e 0).toNat])(hb:b 0=[.int .u8 d.toNat]){e:Nat}(he:e<n+1):Bu n g b e=[AV.int .u8 ((l++[d]).getD e 0).toNat]:=by
 subst hn
 rw[←An0 (l:=l) (b:=b) hb he]
 unfold Bu
 split
 ·exact hg e (by assumption)
 ·rfl
theorem yI(n:Int):0<(Ca n).length:=by unfold Ca;simp
def rV:FuncId→Option Ctr:=Av Gm [(102,Kg),(182,Ie)]
theorem rW{W:World}(hW:Tabs W):Ad (Fw W) Tryz.prog rV:=(Ab Tryz.call102 Oy (Ab Tryz.call182 Qk (A7 (Lw hW))))
def Acm:List (FuncId × Ctr):=(208,inl TY rV Gm (fun _=>false) (fun _ _ _=>none) Tryz.f208)::[(102,Kg),(182,Ie)]
def T6:FuncId→Option Ctr:=Av Gm Acm
theorem Acn{W:World}(hW:Tabs W):Ad (Fw W) Tryz.prog T6:=Ab Tryz.call208 (Af rfl Aq (Lw hW) (rW hW) Tryz.func208 (fun _ _ _=>none)) (rW hW)
def Ae6:List AV→Nat→Option LR:=fun cs i=>match cs with|[.int _ n]=>cond (Nat.beq i 7) (some (.inv (Anx n))) (cond (Nat.beq i 15) (some (.inv (Ah7 n))) (none))|_=>none
set_option maxHeartbeats 2000000 in
theorem rX{W:World}(hW:Tabs W):GoodP (Fw W) Tryz.prog 132 rU:=by
 have hD:=Lw hW
 have hC0:Ad (Fw W) Tryz.prog T6:=(Acn hW)
 refine Be (D:=Gm) (C:=T6) (wr:=(fun _=>false)) rfl Aq hD hC0 Tryz.func132 (Ae6) ?_
 clear hC0 hD hW
 intro cs p r h hf hp
 split at h
 case h_2=>cases h
 rename_i n
 cases h
 try simp only[Bl,Cm,Ar,Go.Vc.lo,Go.Vc.hi,and_true] at hf
 obtain⟨h0,hm⟩:=hp
 have hb:0≤n∧n≤1000000000000:=by have:=hm;unfold Es at this;simp at this;omega
 have hex: ¬Es n=false:=by rw[hm];simp
 (conv=>whnf)
 (repeat' ((first
  |(exact absurd (by with_reducible assumption) hex)
  |((with_reducible refine aI ?_ ?_);focus (first|with_reducible exact⟨⟩|omega))
  |(split<;>rename_i hh<;>(try simp only[wS] at hh))
  |fail)<;>(conv=>whnf)))
 ·exfalso;omega
 refine⟨?_,fun(x:FS) hx=>?_⟩
 ·(conv=>whnf)
  refine⟨((0,[],n):FS),[0],?_,⟨⟨rfl,(nB rfl),rfl⟩,?_,?_⟩⟩
  ·exact⟨h0,Int.le_refl _,⟨by simp,Nat.le_refl _⟩,by simp[Hg]⟩
  ·exact tL
  ·exact tL
 ·obtain⟨i,back,m⟩:=x
  obtain⟨h1,h2,⟨h3,h5⟩,h4⟩:=hx
  change i≤back.length at h5
  change 0≤m at h1
  change m≤n at h2
  change i=0↔back=[] at h3
  change Hg m i++back.reverse=Ca n at h4
  have hd:=Ae3 h1
  have htd:m.tdiv 10=m / 10:=Int.tdiv_eq_ediv_of_nonneg h1
  have hl:back.length≤40:=by
   have:=congrArg List.length h4
   have:=Kh h0 (by omega)
   simp at*;omega
  rcases back with _|⟨c,l⟩
  ·have hi:=h3.2 rfl
   subst hi
   (conv=>whnf)
   (repeat' ((first
    |((with_reducible refine aI ?_ ?_);focus (first|omega|exact tK|(simp only[Ar,Go.Vc.lo,Go.Vc.hi];simp (disch:=omega) only[Int.tdiv_eq_ediv_of_nonneg,Int.tmod_eq_emod_of_nonneg,Cs,rK];omega)|(simp only[Ag,ty2,ty3,ty4,ty5,ty9,Cn,Ch,Co,Ci,Cl,Cp,Cq,Cr,Bf,Bc,Bg,Bd,Bh,Bi,Bj];first|omega|(refine⟨?_,?_⟩<;>omega))))
    |fail)<;>(conv=>whnf)))
   ·(conv=>whnf)
    refine⟨((1,[Gn m],m / 10):FS),[2],?_,⟨⟨rfl,(nB rfl),rfl⟩,?_,?_⟩⟩
    ·refine⟨⟨show 0≤m / 10 by omega,show m / 10≤n by omega,⟨by simp,Nat.le_refl _⟩,?_⟩,show(3 - 1)+2*(m / 10).toNat<(3 - 0)+2*m.toNat by omega⟩
     rw[←h4]
     have:=pF (i:=0) h1 (.inl (by omega)) (by omega)
     simpa using this
    ·exact tL
    ·(conv=>whnf)
     (repeat' ((first|with_reducible exact⟨⟩|((with_reducible refine aI ?_ ?_);focus (exact tA))|with_reducible refine iB ?_ ?_|fail)<;>(conv=>whnf)))
     all_goals (try simp only[wQ])
     intro e he
     have he:e<1:=he
     obtain rfl:e=0:=by omega
     refine⟨?_,rfl⟩
     show [AV.int .u8 (48+m.tmod 10)]=[AV.int .u8 ((Gn m).toNat:Int)]
     rw[hd]
  ·have hi:i≠0:=fun h=>by have:=h3.1 h;cases this
   have hl2:l.length≤39:=by simp at hl;omega
   have h6:i≤l.length+1:=h5
   clear hl
   have hdr:[AV.int .u8 (48+m.tmod 10)]=[AV.int .u8 ((Gn m).toNat:Int)]:=by rw[hd]
   have hfin: ¬0<m→3≤i→c::l=(Ca n).reverse:=fun hm0 hi3=>by
    obtain⟨k,rfl⟩:∃ k,i=k+3:=⟨i - 3,by omega⟩
    have hz:m=0:=by omega
    simp only[Hg] at h4
    rw[if_pos hz,List.nil_append] at h4
    rw[←h4,List.reverse_reverse]
   (conv=>whnf)
   (repeat' ((first
    |((with_reducible refine aI ?_ ?_);focus (first|((with_reducible refine⟨?_,?_,?_⟩)<;>first|(intro e he;rcases(by omega:e=0∨e=1∨e=2∨e=3∨e=4∨e=5) with rfl|rfl|rfl|rfl|rfl|rfl<;>first|rfl|(exfalso;omega))|(with_reducible assumption)|omega|((with_reducible show Ag _ _);simp only[Ag,ty2,ty3,ty4,ty5,ty9,Cn,Ch,Co,Ci,Cl,Cp,Cq,Cr,Bf,Bc,Bg,Bd,Bh,Bi,Bj,List.length_cons,List.length_nil];first|omega|(refine⟨?_,?_⟩<;>omega)))|omega|exact tK|(simp only[Ar,Go.Vc.lo,Go.Vc.hi];simp (disch:=omega) only[Int.tdiv_eq_ediv_of_nonneg,Int.tmod_eq_emod_of_nonneg,Cs,rK];omega)))
    |(split<;>rename_i hh<;>(try simp only[wS] at hh))
    |with_reducible refine lnI fun hln=>?_
    |fail)<;>(conv=>whnf)))
   ·(conv=>whnf)
    refine⟨((i+1,c::l++[46]++[Gn m],m / 10):FS),[4],?_,⟨⟨rfl,(nB rfl),rfl⟩,?_,?_⟩⟩
    ·refine⟨⟨show 0≤m / 10 by omega,show m / 10≤n by omega,⟨by simp,by simp;omega⟩,?_⟩,show(3 - (i+1))+2*(m / 10).toNat<(3 - i)+2*m.toNat by omega⟩
     rw[←h4]
     obtain rfl:i=2:=by omega
     have:=Ae4 h1
     show Hg (m / 10) 3++_=Hg m 2++_
     rw[←this];simp
    ·exact tL
    ·(conv=>whnf)
     (repeat' ((first|with_reducible exact⟨⟩|((with_reducible refine aI ?_ ?_);focus (exact tA))|with_reducible refine iB ?_ ?_|fail)<;>(conv=>whnf)))
     all_goals (try simp only[wQ])
     exact⟨by simp,fun e he=>⟨Wy (l:=c::l++[46]) (by simp) (fun e he=>Wy (l:=c::l) rfl (fun _ _=>rfl) rfl (by simpa using he)) hdr (by simpa using he),rfl⟩⟩
   ·(conv=>whnf)
    refine⟨((i+1,c::l++[Gn m],m / 10):FS),[2],?_,⟨⟨rfl,(nB rfl),rfl⟩,?_,?_⟩⟩
    ·refine⟨⟨show 0≤m / 10 by omega,show m / 10≤n by omega,⟨by simp,by simp;omega⟩,?_⟩,show(3 - (i+1))+2*(m / 10).toNat<(3 - i)+2*m.toNat by omega⟩
     rw[←h4]
     have:=pF (i:=i) h1 (.inl (by omega)) (by omega)
     show Hg (m / 10) (i+1)++_=Hg m i++_
     rw[←this];simp
    ·exact tL
    ·(conv=>whnf)
     (repeat' ((first|with_reducible exact⟨⟩|((with_reducible refine aI ?_ ?_);focus (exact tA))|with_reducible refine iB ?_ ?_|fail)<;>(conv=>whnf)))
     all_goals (try simp only[wQ])
     exact⟨by simp,fun e he=>⟨Wy (l:=c::l) rfl (fun _ _=>rfl) hdr (by simpa using he),rfl⟩⟩
   ·exfalso;omega
   ·(conv=>whnf)
    refine⟨((i+1,c::l++[Gn m],m / 10):FS),[2],?_,⟨⟨rfl,(nB rfl),rfl⟩,?_,?_⟩⟩
    ·refine⟨⟨show 0≤m / 10 by omega,show m / 10≤n by omega,⟨by simp,by simp;omega⟩,?_⟩,show(3 - (i+1))+2*(m / 10).toNat<(3 - i)+2*m.toNat by omega⟩
     rw[←h4]
     have:=pF (i:=i) h1 (.inr (by omega)) (by omega)
     show Hg (m / 10) (i+1)++_=Hg m i++_
     rw[←this];simp
    ·exact tL
    ·(conv=>whnf)
     (repeat' ((first|with_reducible exact⟨⟩|((with_reducible refine aI ?_ ?_);focus (exact tA))|with_reducible refine iB ?_ ?_|fail)<;>(conv=>whnf)))
     all_goals (try simp only[wQ])
     exact⟨by simp,fun e he=>⟨Wy (l:=c::l) rfl (fun _ _=>rfl) hdr (by simpa using he),rfl⟩⟩
   ·have hcl:=hfin (by omega) (by omega)
    have hll:l.length+1=(Ca n).length:=by have:=congrArg List.length hcl;simpa using this
    refine⟨?_,fun(k:Nat) (hk:k≤(Ca n).length)=>?_⟩
    ·(conv=>whnf)
     refine⟨(0:Nat),[],?_,⟨⟨rfl,(nB rfl),rfl⟩,?_,?_⟩⟩
     ·exact Nat.zero_le _
     ·exact tL
     ·(conv=>whnf)
      (repeat' ((first|with_reducible exact⟨⟩|((with_reducible refine aI ?_ ?_);focus (exact tA))|with_reducible refine iA ?_ ?_|with_reducible refine iL ?_ ?_|with_reducible refine iB ?_ ?_|fail)<;>(conv=>whnf)))
      all_goals (try simp only[wQ])
      intro e he
      rw[hcl];exact⟨rfl,rfl⟩
    ·have hr:∀ k:Nat,k<(Ca n).length→[AV.int .u8 (((Ca n).reverse.getD (0+(((Ca n).length:Int) - 1 - (k:Int)).toNat) 0).toNat:Int)]=[AV.int .u8 ((Ca n).getD k 0).toNat]:=fun k hk=>by rw[Ae5 hk]
     have hpos:=yI n
     have h30:=Kh h0 (by omega)
     rcases k with _|k
     ·(conv=>whnf)
      (repeat' ((first
       |(with_reducible refine Ac ?_)
       |((with_reducible refine aI ?_ ?_);focus (first|omega|exact tK|(simp only[Ag,ty2,ty3,ty4,ty5,ty9,Cn,Ch,Co,Ci,Cl,Cp,Cq,Cr,Bf,Bc,Bg,Bd,Bh,Bi,Bj];first|omega|(refine⟨?_,?_⟩<;>omega))|decide))
       |(split<;>rename_i hh<;>(try simp only[wS] at hh))
       |with_reducible refine lnI fun hln=>?_
       |fail)<;>(conv=>whnf)))
      ·(conv=>whnf)
       refine⟨(1:Nat),[4],?_,⟨⟨rfl,(nB rfl),rfl⟩,?_,?_⟩⟩
       ·exact⟨show 1≤(Ca n).length by omega,show(Ca n).length - 1<(Ca n).length - 0 by omega⟩
       ·exact tL
       ·(conv=>whnf)
        (repeat' ((first|with_reducible exact⟨⟩|((with_reducible refine Or.inr ?_);rfl)|((with_reducible refine aI ?_ ?_);focus (exact tA))|with_reducible refine iA ?_ ?_|with_reducible refine iL ?_ ?_|with_reducible refine iB ?_ ?_|fail)<;>(conv=>whnf)))
        all_goals (try simp only[wQ])
        all_goals (try first|exact fun _ _=>⟨True.intro,rfl⟩)
        refine⟨⟨rfl,Nat.le_refl _,fun e he=>?_⟩,trivial⟩
        have he:e<1:=he
        obtain rfl:e=0:=by omega
        exact⟨hr 0 (by omega),rfl⟩
      ·exfalso;omega
     ·(conv=>whnf)
      (repeat' ((first
       |(with_reducible refine Ac ?_)
       |((with_reducible refine aI ?_ ?_);focus (first|((with_reducible refine⟨?_,?_,?_⟩)<;>first|(intro e he;rcases(by omega:e=0∨e=1∨e=2∨e=3∨e=4∨e=5) with rfl|rfl|rfl|rfl|rfl|rfl<;>first|rfl|(exfalso;omega))|(with_reducible assumption)|omega|((with_reducible show Ag _ _);simp only[Ag,ty2,ty3,ty4,ty5,ty9,Cn,Ch,Co,Ci,Cl,Cp,Cq,Cr,Bf,Bc,Bg,Bd,Bh,Bi,Bj,List.length_cons,List.length_nil];first|omega|(refine⟨?_,?_⟩<;>omega)))|with_reducible rfl|omega|exact tK|decide))
       |(split<;>rename_i hh<;>(try simp only[wS] at hh))
       |with_reducible refine lnI fun hln=>?_
       |fail)<;>(conv=>whnf)))
      ·(conv=>whnf)
       refine⟨(k+2:Nat),[4],?_,⟨⟨rfl,(nB rfl),rfl⟩,?_,?_⟩⟩
       ·exact⟨show k+2≤(Ca n).length by omega,show(Ca n).length - (k+2)<(Ca n).length - (k+1) by omega⟩
       ·exact tL
       ·(conv=>whnf)
        (repeat' ((first|with_reducible exact⟨⟩|((with_reducible refine Or.inr ?_);rfl)|((with_reducible refine aI ?_ ?_);focus (exact tA))|with_reducible refine iA ?_ ?_|with_reducible refine iL ?_ ?_|with_reducible refine iB ?_ ?_|fail)<;>(conv=>whnf)))
        all_goals (try simp only[wQ])
        all_goals (try first|exact fun _ _=>⟨True.intro,rfl⟩)
        exact⟨⟨trivial,Nat.le_refl _,fun e he=>⟨Ah8 (hr (k+1) (by omega)) (by simpa using he),rfl⟩⟩,rfl⟩
      ·refine⟨⟨rfl,by omega,Nat.le_refl _,fun e he=>rfl⟩,?_⟩
       (conv=>whnf)
       all_goals (try (show _=_;simp only[wQ]))
       have hk1:k+1=(Ca n).length:=by omega
       rw[hk1];exact El _
def Ae7:PC:=PC.fun fun|[.int .i64 n]=>some (n<0∨Es n=false,.str (sS (D3 n)))|_=>none
def Yc:PT:=D1 [(132,rU),(207,pC)]
theorem rY{W:World}(hW:Tabs W):Dj (Fw W) Tryz.prog Yc:=(Ae Tryz.call132 (rX hW) (Ae Tryz.call207 (X5 hW) A6))
def Yd:FuncId→Option Ctr:=Av Yc [(102,Kg)]
theorem Ae8{W:World}(hW:Tabs W):Ad (Fw W) Tryz.prog Yd:=(Ab Tryz.call102 Oy (A7 (rY hW)))
theorem Ae9{W:World}(hW:Tabs W):GoodP (Fw W) Tryz.prog 132 Ae7:=by
 have hD:=rY hW
 have hC0:Ad (Fw W) Tryz.prog Yd:=(Ae8 hW)
 refine Be (D:=Yc) (C:=Yd) (wr:=(fun _=>false)) rfl Aq hD hC0 Tryz.func132 (fun _ _=>none) ?_
 clear hC0 hD hW
 intro cs p r h hf hp
 split at h
 case h_2=>cases h
 rename_i n
 cases h
 try simp only[Bl,Cm,Ar,Go.Vc.lo,Go.Vc.hi,and_true] at hf
 have hbd:Es n=true→ -1000000000000≤n∧n≤1000000000000:=fun h=>by have:=h;unfold Es at this;simp at this;omega
 by_cases hm:Es n=true
 ·have hn:n<0:=by rcases hp with h|h;exact h;rw[hm] at h;cases h
  have hb:=hbd hm
  have hex: ¬0≤n:=by omega
  have h1:=Kh (n:= -n) (by omega) (by omega)
  have hm2:0≤ -n∧Es (-n)=true:=⟨by omega,by unfold Es;simp;omega⟩
  (conv=>whnf)
  (repeat' ((first
   |(exact absurd (by with_reducible assumption) hex)
   |((with_reducible refine aI ?_ ?_);focus (first|with_reducible exact⟨⟩|with_reducible assumption|exact tK|(simp only[List.length_append,bytesOf_length,List.toList_toArray,List.length_cons,List.length_nil,List.length_take,List.length_drop,Ap];omega)))
   |(split<;>rename_i hh<;>(try simp only[wS] at hh))
   |fail)<;>(conv=>whnf)))
  all_goals (try (show _=_;simp only[wQ]))
  all_goals try (rename_i hh;exact absurd hm hh)
  all_goals try (rename_i hh;rw[hm] at hh;cases hh;done)
  all_goals (unfold D3 Oz;rw[if_pos hm,if_pos hn];rfl)
 ·have hex: ¬Es n=true:=hm
  (conv=>whnf)
  (repeat' ((first
   |(exact absurd (by with_reducible assumption) hex)
   |((with_reducible refine aI ?_ ?_);focus (with_reducible exact⟨⟩))
   |(split<;>rename_i hh<;>(try simp only[wS] at hh))
   |fail)<;>(conv=>whnf)))
  all_goals (try (show _=_;simp only[wQ]))
  unfold D3;rw[if_neg hm]
theorem PC.split{F:Nat→Obj→Prop}{P:Program}{i:FuncId}{f f1 f2:List AV→Option (Prop × AV)}(h1:GoodP F P i (PC.fun f1))(h2:GoodP F P i (PC.fun f2))
  (h:∀ cs p r,f cs=some (p,r)→p→(∃ p1,f1 cs=some (p1,r)∧p1)∨(∃ p2,f2 cs=some (p2,r)∧p2)):GoodP F P i (PC.fun f):=by
 intro S w cs vs Q hs hv hT
 simp only[PC.fun] at hT
 cases hf:f cs with
 |none=>rw[hf] at hT;exact hT.elim
 |some pr=>
  obtain⟨p,r⟩:=pr
  rw[hf] at hT
  rcases h cs p r hf hT.1 with ⟨p1,hc,hp⟩|⟨p1,hc,hp⟩
  ·refine h1 S w cs vs Q hs hv ?_
   simp only[PC.fun];rw[hc];exact⟨hp,hT.2⟩
  ·refine h2 S w cs vs Q hs hv ?_
   simp only[PC.fun];rw[hc];exact⟨hp,hT.2⟩
def pG:PC:=PC.fun fun|[.int .i64 n]=>some (True,.str (sS (D3 n)))|_=>none
theorem zZ{W:World}(hW:Tabs W):GoodP (Fw W) Tryz.prog 132 pG:=by
 refine PC.split (rX hW) (Ae9 hW) fun cs p r h hp=>?_
 split at h
 ·rename_i n
  cases h
  by_cases hc:0≤n∧Es n=true
  ·refine .inl ⟨_,?_,hc⟩
   have:D3 n=Ca n:=by unfold D3 Oz;rw[if_pos hc.2,if_neg (by omega)]
   rw[this]
  ·exact .inr ⟨_,rfl,by
    by_cases h1:n<0
    ·exact .inl h1
    ·exact .inr (Bool.eq_false_iff.2 fun h2=>hc ⟨by omega,h2⟩)⟩
 ·cases h
end
end Go.Vc.Z
