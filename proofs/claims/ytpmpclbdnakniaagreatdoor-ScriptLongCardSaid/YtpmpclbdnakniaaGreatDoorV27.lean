/- How strconv.Atoi, and what it calls, lie in this program (printed by the kit's tool). -/
import Derived.Test.YtpmpclbdnakniaaGreatDoorV10
import Derived.Test.YtpmpclbdnakniaaGreatDoorV11
import Derived.Test.YtpmpclbdnakniaaGreatDoorV16
import Derived.Test.YtpmpclbdnakniaaGreatDoorV9
import Derived.Test.YtpmpclbdnakniaaGreatDoorV17
import Derived.Ground.NamesProg
import Derived.Shelf.LaysC
import Derived.Shelf.Strconv.AtoiAll
import Derived.Shelf.Strings.Search3
import Derived.Shelf.Strings.Cut
import Derived.Shelf.Strings.Split
set_option linter.all false
set_option linter.unusedVariables false
set_option linter.unusedSimpArgs false
namespace Go.Proofs
open Go.Shelf Go.RowKit
set_option maxRecDepth 1000000
def Tryz.lays172_ren:Go.Shelf.Ren:=⟨fun|172=>179|244=>245|245=>246|247=>287|279=>288|280=>289|281=>290|282=>291|287=>309|316=>310|171=>111|205=>311|321=>317|322=>318|243=>189|246=>190|283=>203|284=>204|285=>205|286=>206|129=>267|317=>266|318=>268|319=>269|320=>270|337=>301|338=>302|n=>n,fun|9=>9|3=>3|75=>154|76=>155|4=>4|5=>5|167=>296|37=>150|0=>0|85=>297|2=>2|168=>299|53=>37|175=>312|46=>284|210=>316|127=>221|145=>337|143=>335|21=>21|171=>233|173=>235|212=>281|51=>282|20=>20|213=>283|232=>323|233=>324|80=>162|n=>n,fun|15=>2|16=>3|17=>0|18=>4|19=>5|n=>n⟩
theorem Tryz.lays172:Go.Proofs.LaysC.n172 Tryz.prog Tryz.lays172_ren:={
 mixed:=by kernel_rfl
 f129:=Tryz.func267.trans (congrArg some (by kernel_rfl))
 f171:=Tryz.func111.trans (congrArg some (by kernel_rfl))
 f172:=Tryz.func179.trans (congrArg some (by kernel_rfl))
 f205:=Tryz.func311.trans (congrArg some (by kernel_rfl))
 f243:=Tryz.func189.trans (congrArg some (by kernel_rfl))
 f244:=Tryz.func245.trans (congrArg some (by kernel_rfl))
 f245:=Tryz.func246.trans (congrArg some (by kernel_rfl))
 f246:=Tryz.func190.trans (congrArg some (by kernel_rfl))
 f247:=Tryz.func287.trans (congrArg some (by kernel_rfl))
 f279:=Tryz.func288.trans (congrArg some (by kernel_rfl))
 f280:=Tryz.func289.trans (congrArg some (by kernel_rfl))
 f281:=Tryz.func290.trans (congrArg some (by kernel_rfl))
 f282:=Tryz.func291.trans (congrArg some (by kernel_rfl))
 f283:=Tryz.func203.trans (congrArg some (by kernel_rfl))
 f284:=Tryz.func204.trans (congrArg some (by kernel_rfl))
 f285:=Tryz.func205.trans (congrArg some (by kernel_rfl))
 f286:=Tryz.func206.trans (congrArg some (by kernel_rfl))
 f287:=Tryz.func309.trans (congrArg some (by kernel_rfl))
 f316:=Tryz.func310.trans (congrArg some (by kernel_rfl))
 f317:=Tryz.func266.trans (congrArg some (by kernel_rfl))
 f318:=Tryz.func268.trans (congrArg some (by kernel_rfl))
 f319:=Tryz.func269.trans (congrArg some (by kernel_rfl))
 f320:=Tryz.func270.trans (congrArg some (by kernel_rfl))
 f321:=Tryz.func317.trans (congrArg some (by kernel_rfl))
 f322:=Tryz.func318.trans (congrArg some (by kernel_rfl))
 f337:=Tryz.func301.trans (congrArg some (by kernel_rfl))
 f338:=Tryz.func302.trans (congrArg some (by kernel_rfl))
 t0:=Tryz.underlying0
 a0:=Tryz.isAgg0
 z0:=Tryz.sizeOf0
 v0:=Tryz.zeroValue0
 t2:=Tryz.underlying2
 a2:=Tryz.isAgg2
 z2:=Tryz.sizeOf2
 v2:=Tryz.zeroValue2
 t3:=Tryz.underlying3
 a3:=Tryz.isAgg3
 z3:=Tryz.sizeOf3
 v3:=Tryz.zeroValue3
 t4:=Tryz.underlying4
 a4:=Tryz.isAgg4
 z4:=Tryz.sizeOf4
 v4:=Tryz.zeroValue4
 t5:=Tryz.underlying5
 a5:=Tryz.isAgg5
 z5:=Tryz.sizeOf5
 v5:=Tryz.zeroValue5
 t9:=Tryz.underlying9
 a9:=Tryz.isAgg9
 z9:=Tryz.sizeOf9
 v9:=Tryz.zeroValue9
 t20:=Tryz.underlying20
 a20:=Tryz.isAgg20
 z20:=Tryz.sizeOf20
 v20:=Tryz.zeroValue20
 t21:=Tryz.underlying21
 a21:=Tryz.isAgg21
 z21:=Tryz.sizeOf21
 v21:=Tryz.zeroValue21
 t37:=Tryz.underlying150
 a37:=Tryz.isAgg150
 z37:=Tryz.sizeOf150
 v37:=Tryz.zeroValue150
 t46:=Tryz.underlying284
 a46:=Tryz.isAgg284
 z46:=Tryz.sizeOf284
 v46:=Tryz.zeroValue284
 t51:=Tryz.underlying282
 a51:=Tryz.isAgg282
 z51:=Tryz.sizeOf282
 v51:=Tryz.zeroValue282
 t53:=Tryz.underlying37
 a53:=Tryz.isAgg37
 z53:=Tryz.sizeOf37
 v53:=Tryz.zeroValue37
 t75:=Tryz.underlying154
 a75:=Tryz.isAgg154
 z75:=Tryz.sizeOf154
 v75:=Tryz.zeroValue154
 t76:=Tryz.underlying155
 a76:=Tryz.isAgg155
 z76:=Tryz.sizeOf155
 v76:=Tryz.zeroValue155
 t85:=Tryz.underlying297
 a85:=Tryz.isAgg297
 z85:=Tryz.sizeOf297
 v85:=Tryz.zeroValue297
 t127:=Tryz.underlying221
 a127:=Tryz.isAgg221
 z127:=Tryz.sizeOf221
 v127:=Tryz.zeroValue221
 t143:=Tryz.underlying335
 a143:=Tryz.isAgg335
 z143:=Tryz.sizeOf335
 v143:=Tryz.zeroValue335
 t145:=Tryz.underlying337
 a145:=Tryz.isAgg337
 z145:=Tryz.sizeOf337
 v145:=Tryz.zeroValue337
 t167:=Tryz.underlying296
 a167:=Tryz.isAgg296
 z167:=Tryz.sizeOf296
 v167:=Tryz.zeroValue296
 t168:=Tryz.underlying299
 a168:=Tryz.isAgg299
 z168:=Tryz.sizeOf299
 v168:=Tryz.zeroValue299
 t171:=Tryz.underlying233
 a171:=Tryz.isAgg233
 z171:=Tryz.sizeOf233
 v171:=Tryz.zeroValue233
 t173:=Tryz.underlying235
 a173:=Tryz.isAgg235
 z173:=Tryz.sizeOf235
 v173:=Tryz.zeroValue235
 t175:=Tryz.underlying312
 a175:=Tryz.isAgg312
 z175:=Tryz.sizeOf312
 v175:=Tryz.zeroValue312
 t210:=Tryz.underlying316
 a210:=Tryz.isAgg316
 z210:=Tryz.sizeOf316
 v210:=Tryz.zeroValue316
 t212:=Tryz.underlying281
 a212:=Tryz.isAgg281
 z212:=Tryz.sizeOf281
 v212:=Tryz.zeroValue281
 t213:=Tryz.underlying283
 a213:=Tryz.isAgg283
 z213:=Tryz.sizeOf283
 t232:=Tryz.underlying323
 a232:=Tryz.isAgg323
 z232:=Tryz.sizeOf323
 v232:=Tryz.zeroValue323
 t233:=Tryz.underlying324
 a233:=Tryz.isAgg324
 z233:=Tryz.sizeOf324
 v233:=Tryz.zeroValue324
 g15:=by kernel_rfl
 g16:=by kernel_rfl
 g17:=by kernel_rfl
 g18:=by kernel_rfl
 g19:=by kernel_rfl
 t80:=Tryz.underlying162
 a80:=Tryz.isAgg162
 z80:=Tryz.sizeOf162
 v80:=Tryz.zeroValue162
 i0:=by kernel_rfl
 i2:=by kernel_rfl
 i3:=by kernel_rfl
 i4:=by kernel_rfl
 i5:=by kernel_rfl
 i9:=by kernel_rfl
 i20:=by kernel_rfl
 i21:=by kernel_rfl
 i37:=by kernel_rfl
 i46:=by kernel_rfl
 i51:=by kernel_rfl
 i53:=by kernel_rfl
 i75:=by kernel_rfl
 i76:=by kernel_rfl
 i80:=by kernel_rfl
 i85:=by kernel_rfl
 i127:=by kernel_rfl
 i143:=by kernel_rfl
 i145:=by kernel_rfl
 i167:=by kernel_rfl
 i168:=by kernel_rfl
 i171:=by kernel_rfl
 i173:=by kernel_rfl
 i175:=by kernel_rfl
 i210:=by kernel_rfl
 i212:=by kernel_rfl
 i232:=by kernel_rfl
 i233:=by kernel_rfl
 m15:=by kernel_rfl
 m16:=by kernel_rfl
 m17:=by kernel_rfl
 m18:=by kernel_rfl
 m19:=by kernel_rfl
 c0:=by kernel_rfl
 c2:=by kernel_rfl
 c3:=by kernel_rfl
 c4:=by kernel_rfl
 c5:=by kernel_rfl
 c9:=by kernel_rfl
 c20:=by kernel_rfl
 c21:=by kernel_rfl
 c37:=by kernel_rfl
 c46:=by kernel_rfl
 c51:=by kernel_rfl
 c53:=by kernel_rfl
 c75:=by kernel_rfl
 c76:=by kernel_rfl
 c80:=by kernel_rfl
 c85:=by kernel_rfl
 c127:=by kernel_rfl
 c143:=by kernel_rfl
 c145:=by kernel_rfl
 c167:=by kernel_rfl
 c168:=by kernel_rfl
 c171:=by kernel_rfl
 c173:=by kernel_rfl
 c175:=by kernel_rfl
 c210:=by kernel_rfl
 c212:=by kernel_rfl
 c213:=by kernel_rfl
 c232:=by kernel_rfl
 c233:=by kernel_rfl }
end Go.Proofs
namespace Go.Proofs
open Go.Shelf Go.RowKit
set_option maxRecDepth 1000000
def Tryz.lays143_ren:Go.Shelf.Ren:=⟨fun|143=>220|219=>243|217=>283|225=>284|224=>285|267=>286|266=>307|314=>308|n=>n,fun|9=>9|3=>3|4=>4|5=>5|46=>284|146=>310|51=>282|n=>n,fun|1=>1|n=>n⟩
theorem Tryz.lays143:Go.Proofs.Lays.n143 Tryz.prog Tryz.lays143_ren:={
 mixed:=by kernel_rfl
 f143:=Tryz.func220.trans (congrArg some (by kernel_rfl))
 f217:=Tryz.func283.trans (congrArg some (by kernel_rfl))
 f219:=Tryz.func243.trans (congrArg some (by kernel_rfl))
 f224:=Tryz.func285.trans (congrArg some (by kernel_rfl))
 f225:=Tryz.func284.trans (congrArg some (by kernel_rfl))
 f266:=Tryz.func307.trans (congrArg some (by kernel_rfl))
 f267:=Tryz.func286.trans (congrArg some (by kernel_rfl))
 f314:=Tryz.func308.trans (congrArg some (by kernel_rfl))
 t3:=Tryz.underlying3
 a3:=Tryz.isAgg3
 z3:=Tryz.sizeOf3
 v3:=Tryz.zeroValue3
 t4:=Tryz.underlying4
 a4:=Tryz.isAgg4
 z4:=Tryz.sizeOf4
 v4:=Tryz.zeroValue4
 t5:=Tryz.underlying5
 a5:=Tryz.isAgg5
 z5:=Tryz.sizeOf5
 v5:=Tryz.zeroValue5
 t9:=Tryz.underlying9
 a9:=Tryz.isAgg9
 z9:=Tryz.sizeOf9
 v9:=Tryz.zeroValue9
 t46:=Tryz.underlying284
 a46:=Tryz.isAgg284
 z46:=Tryz.sizeOf284
 v46:=Tryz.zeroValue284
 t51:=Tryz.underlying282
 a51:=Tryz.isAgg282
 z51:=Tryz.sizeOf282
 v51:=Tryz.zeroValue282
 t146:=Tryz.underlying310
 a146:=Tryz.isAgg310
 z146:=Tryz.sizeOf310
 v146:=Tryz.zeroValue310
 g1:=by kernel_rfl }
def Tryz.lays145_ren:Go.Shelf.Ren:=⟨fun|145=>94|220=>177|219=>243|217=>283|225=>284|224=>285|267=>286|266=>307|314=>308|n=>n,fun|9=>9|4=>4|59=>143|3=>3|5=>5|46=>284|146=>310|51=>282|n=>n,fun|1=>1|n=>n⟩
theorem Tryz.lays145:Go.Proofs.Lays.n145 Tryz.prog Tryz.lays145_ren:={
 mixed:=by kernel_rfl
 f145:=Tryz.func94.trans (congrArg some (by kernel_rfl))
 f217:=Tryz.func283.trans (congrArg some (by kernel_rfl))
 f219:=Tryz.func243.trans (congrArg some (by kernel_rfl))
 f220:=Tryz.func177.trans (congrArg some (by kernel_rfl))
 f224:=Tryz.func285.trans (congrArg some (by kernel_rfl))
 f225:=Tryz.func284.trans (congrArg some (by kernel_rfl))
 f266:=Tryz.func307.trans (congrArg some (by kernel_rfl))
 f267:=Tryz.func286.trans (congrArg some (by kernel_rfl))
 f314:=Tryz.func308.trans (congrArg some (by kernel_rfl))
 t3:=Tryz.underlying3
 a3:=Tryz.isAgg3
 z3:=Tryz.sizeOf3
 v3:=Tryz.zeroValue3
 t4:=Tryz.underlying4
 a4:=Tryz.isAgg4
 z4:=Tryz.sizeOf4
 v4:=Tryz.zeroValue4
 t5:=Tryz.underlying5
 a5:=Tryz.isAgg5
 z5:=Tryz.sizeOf5
 v5:=Tryz.zeroValue5
 t9:=Tryz.underlying9
 a9:=Tryz.isAgg9
 z9:=Tryz.sizeOf9
 v9:=Tryz.zeroValue9
 t46:=Tryz.underlying284
 a46:=Tryz.isAgg284
 z46:=Tryz.sizeOf284
 v46:=Tryz.zeroValue284
 t51:=Tryz.underlying282
 a51:=Tryz.isAgg282
 z51:=Tryz.sizeOf282
 v51:=Tryz.zeroValue282
 t59:=Tryz.underlying143
 a59:=Tryz.isAgg143
 z59:=Tryz.sizeOf143
 v59:=Tryz.zeroValue143
 t146:=Tryz.underlying310
 a146:=Tryz.isAgg310
 z146:=Tryz.sizeOf310
 v146:=Tryz.zeroValue310
 g1:=by kernel_rfl }
def Tryz.lays146_ren:Go.Shelf.Ren:=⟨fun|146=>78|221=>168|268=>236|138=>237|143=>220|195=>280|197=>281|218=>282|219=>243|260=>306|217=>283|225=>284|224=>285|267=>286|266=>307|314=>308|n=>n,fun|9=>9|31=>32|3=>3|4=>4|0=>0|105=>293|21=>21|5=>5|46=>284|119=>330|139=>333|138=>332|146=>310|51=>282|n=>n,fun|1=>1|3=>6|4=>7|n=>n⟩
theorem Tryz.lays146:Go.Proofs.Lays.n146 Tryz.prog Tryz.lays146_ren:={
 mixed:=by kernel_rfl
 f138:=Tryz.func237.trans (congrArg some (by kernel_rfl))
 f143:=Tryz.func220.trans (congrArg some (by kernel_rfl))
 f146:=Tryz.func78.trans (congrArg some (by kernel_rfl))
 f195:=Tryz.func280.trans (congrArg some (by kernel_rfl))
 f197:=Tryz.func281.trans (congrArg some (by kernel_rfl))
 f217:=Tryz.func283.trans (congrArg some (by kernel_rfl))
 f218:=Tryz.func282.trans (congrArg some (by kernel_rfl))
 f219:=Tryz.func243.trans (congrArg some (by kernel_rfl))
 f221:=Tryz.func168.trans (congrArg some (by kernel_rfl))
 f224:=Tryz.func285.trans (congrArg some (by kernel_rfl))
 f225:=Tryz.func284.trans (congrArg some (by kernel_rfl))
 f260:=Tryz.func306.trans (congrArg some (by kernel_rfl))
 f266:=Tryz.func307.trans (congrArg some (by kernel_rfl))
 f267:=Tryz.func286.trans (congrArg some (by kernel_rfl))
 f268:=Tryz.func236.trans (congrArg some (by kernel_rfl))
 f314:=Tryz.func308.trans (congrArg some (by kernel_rfl))
 t0:=Tryz.underlying0
 a0:=Tryz.isAgg0
 z0:=Tryz.sizeOf0
 v0:=Tryz.zeroValue0
 t3:=Tryz.underlying3
 a3:=Tryz.isAgg3
 z3:=Tryz.sizeOf3
 v3:=Tryz.zeroValue3
 t4:=Tryz.underlying4
 a4:=Tryz.isAgg4
 z4:=Tryz.sizeOf4
 v4:=Tryz.zeroValue4
 t5:=Tryz.underlying5
 a5:=Tryz.isAgg5
 z5:=Tryz.sizeOf5
 v5:=Tryz.zeroValue5
 t9:=Tryz.underlying9
 a9:=Tryz.isAgg9
 z9:=Tryz.sizeOf9
 v9:=Tryz.zeroValue9
 t21:=Tryz.underlying21
 a21:=Tryz.isAgg21
 z21:=Tryz.sizeOf21
 v21:=Tryz.zeroValue21
 t31:=Tryz.underlying32
 a31:=Tryz.isAgg32
 z31:=Tryz.sizeOf32
 v31:=Tryz.zeroValue32
 t46:=Tryz.underlying284
 a46:=Tryz.isAgg284
 z46:=Tryz.sizeOf284
 v46:=Tryz.zeroValue284
 t51:=Tryz.underlying282
 a51:=Tryz.isAgg282
 z51:=Tryz.sizeOf282
 v51:=Tryz.zeroValue282
 t105:=Tryz.underlying293
 a105:=Tryz.isAgg293
 z105:=Tryz.sizeOf293
 v105:=Tryz.zeroValue293
 t119:=Tryz.underlying330
 a119:=Tryz.isAgg330
 z119:=Tryz.sizeOf330
 t138:=Tryz.underlying332
 a138:=Tryz.isAgg332
 z138:=Tryz.sizeOf332
 v138:=Tryz.zeroValue332
 t139:=Tryz.underlying333
 a139:=Tryz.isAgg333
 z139:=Tryz.sizeOf333
 v139:=Tryz.zeroValue333
 t146:=Tryz.underlying310
 a146:=Tryz.isAgg310
 z146:=Tryz.sizeOf310
 v146:=Tryz.zeroValue310
 g1:=by kernel_rfl
 g3:=by kernel_rfl
 g4:=by kernel_rfl }
end Go.Proofs
namespace Go.Vc
open Go Go.Proofs Go.RowKit Go.Sort Go.Pl
theorem V4{F:Nat→Obj→Prop}{P:Program}{f:FuncId}{α:Type}{args:α→List AV}{pre:α→Prop}{res:α→AV}(hu:∀ x,Er 0 (args x)=true)
  (h:∀ x S w vs,pre x→Bl (args x)→Sok F S w→VL (fun _=>none) S w (args x) vs→Calls P f vs w fun e w'=>∃ v S',e= .returned v∧V (fun _=>none) S' w' (res x) v∧Below w.heap.size w w'∧(∀ b,S b→S' b)∧(∀ b,S' b→S b∨w.heap.size≤b)∧∀ b,S' b→b<w'.heap.size):GoodP F P f (PC.of args pre res):=by
 intro S w cs vs Q hs hv hpre
 obtain⟨x,h1,h2,h3⟩:=hpre
 have hl:=H8 h2
 have hv':VL (fun _=>none) S w (args x) vs:=by
  refine⟨by rw[←hl];exact hv.1,fun i c v hc hv'=>?_⟩
  have hi:i<cs.length:=by
   rcases Nat.lt_or_ge i (args x).length with h'|h'
   ·omega
   ·rw[List.getElem?_eq_none h'] at hc;cases hc
  exact(hv.2 i cs[i] v (List.getElem?_eq_getElem hi) hv').le (σ:=fun i=>i) (n:=0) (fun i b hi=>by omega) (M6 h2 i _ _ (List.getElem?_eq_getElem hi) hc) (Dl (hu x) i c hc)
 refine(h x S w vs h1 hv'.fact hs hv').mono ?_
 rintro e w' ⟨v,S',rfl,hV,hb,g1,g2,g3⟩
 have hE:Ext (fun _=>none) S w (fun _=>none) S' w':=⟨fun _ _ h=>(by cases h),g1,fun b hb' _=>hb.block b hb',hb.size,fun b arr T fr hb'=>⟨arr,fr,(hb.block b (lt_of_some hb')).trans hb',rfl⟩,fun _ _ h=>(by cases h),fun b h=>(g2 b h).elim .inl (fun h=>.inr (.inr h)),hb.os,hb.tape,hb.output⟩
 exact⟨v,res x,S',rfl,h3,hV,hE,hs.ext hE g3⟩
theorem V5(w:World)(o:Obj):Below w.heap.size w (w.alloc o):=by
 refine⟨rfl,rfl,rfl,?_,fun b hb=>?_⟩
 ·show w.heap.size≤(w.heap.push o).size
  simp
 ·show(w.heap.push o)[b]? =_
  rw[Array.getElem?_push,if_neg (by omega)]
theorem pR{S:Nat→Prop}{w:World}{a b:AV}{vs:Array Value}(h:VL (fun _=>none) S w [a,b] vs):∃ x y,vs=#[x,y]∧V (fun _=>none) S w a x∧V (fun _=>none) S w b y:=by
 obtain⟨vs⟩:=vs
 match vs,h with
 |[x,y],h=>exact⟨x,y,rfl,h.2 0 _ _ rfl rfl,h.2 1 _ _ rfl rfl⟩
 |[],h=>simp[VL] at h
 |[_],h=>simp[VL] at h
 |_::_::_::_,h=>have:=h.1;simp at this
theorem V.texts{S:Nat→Prop}{w:World}{l:List ByteArray}{T:TypeId}(hs:∀ b,S b→b<w.heap.size)(hl:l.length≤maxLen)(hx:∀ x ∈ l,x.data.toList.length≤maxLen):
  V (fun _=>none) (fun b=>S b∨b=w.heap.size) (w.alloc (.cells (l.map Value.string).toArray T)) (slS (l.map (·.data.toList))) (.slice (some ⟨w.heap.size,0,none⟩) l.length l.length):=by
 have e:(l.map (·.data.toList)).length=l.length:=by simp
 unfold V slS
 rw[e]
 refine .sl false 1 l.length _ w.heap.size 0 l.length (fun e _=>.string (l.getD e ByteArray.empty)) (fun _=>⟨.inr rfl,?_⟩) (Nat.le_refl _) hl (fun h=>by cases h) (fun e he=>rfl) (fun e j he hj=>?_) (fun e j c he hc=>?_)
 ·show w.heap.size<(w.heap.push _).size
  simp
 ·have hj0:j=0:=by omega
  subst hj0
  simp only[World.cell?,Cx]
  simp[he,List.getD_eq_getElem?_getD]
 ·have hj0:j=0:=by
   cases j with
   |zero=>rfl
   |succ j=>simp at hc
  subst hj0
  simp only[List.getElem?_cons_zero,Option.some.injEq] at hc
  subst hc
  refine .str _ _ ?_ ?_
  ·simp[he,List.getD_eq_getElem?_getD]
  ·simp only[List.getD_eq_getElem?_getD,List.getElem?_map,List.getElem?_eq_getElem he,Option.map_some,Option.getD_some]
   exact hx _ (List.getElem_mem he)
theorem Sr{W:World}(hW:Tabs W){S:Nat→Prop}{w:World}(hs:Sok (Fw W) S w):∃ m,w.cell? ⟨1,0,none⟩=some (.int .i64 m):=by
 obtain⟨m,hm⟩:∃ m,W.cell? ⟨1,0,none⟩=some (.int .i64 m):=cell_of_shapedOpen_int (zero:=#[.int .i64 0]) (t:=3) hW.2 (of_decide_eq_true (by kernel_rfl)) (by kernel_rfl) rfl (by kernel_rfl) (by kernel_rfl) Tryz.underlying3
 exact⟨m,Fw.cell hs hm⟩
theorem K1(s:ByteArray){l:List UInt8}(h:s.data.toList=l):s.size=l.length:=by rw[←h,Array.length_toList];rfl
namespace Z
noncomputable section
def Af7:PC:=PC.of (fun x:List UInt8 × UInt8=>[.str x.1,.str [x.2]]) (fun x=>x.1.length≤100000000) (fun x=>slS (sL (Aa x.2 x.1)))
theorem yW{W:World}(hW:Tabs W):GoodP (Fw W) Tryz.prog 78 Af7:=by
 refine V4 (fun _=>rfl) ?_
 rintro⟨s,c⟩ S w vs hpre hf hs hv
 simp only at hpre hv ⊢
 obtain⟨x,y,rfl,hx,hy⟩:=pR hv
 obtain⟨sx,rfl,h1,h2⟩:=V.strR' hx
 obtain⟨sy,rfl,h3,h4⟩:=V.strR' hy
 obtain⟨m,hm⟩:=Sr hW hs
 have e1:=K1 sx h1
 have e2:sy.size=1:=K1 sy h3
 have hd:(Lib.splitB sy 0 (Lib.countB sx sy) sx).map (·.data.toList)=Aa c s:=by
  rw[Lib.splitB_data,←eT]
  unfold Lib.split Lib.countB
  rw[h1,h3]
 have hlen:(Lib.splitB sy 0 (Lib.countB sx sy) sx).length=Lib.countB sx sy+1:=by
  have a1:(Lib.splitB sy 0 (Lib.countB sx sy) sx).length=(Aa c s).length:=by rw[←hd];simp
  have a2:Lib.countB sx sy=s.count c:=by
   have:∀ t:List UInt8,Lib.count t [c]=t.count c:=fun t=>by
    refine Ud (c:=c) (P:=fun t=>Lib.count t [c]=t.count c) (fun t h=>?_) (fun a b ha ih=>?_) t.length t (Nat.le_refl _)
    ·rw[Lib.count_miss (Nl h),List.count_eq_zero_of_not_mem h]
    ·rw[Lib.count_hit (by simp) (Jt ha b)]
     have hd:(a++c::b).drop (a.length+[c].length)=b:=by simp
     rw[hd,ih,List.count_append,List.count_cons_self,List.count_eq_zero_of_not_mem ha];omega
   unfold Lib.countB
   rw[h1,h3,this]
  rw[a1,O1,a2]
 refine(Any.strings_Split Tryz.lays146 (by kernel_rfl) sx sy m w (by omega) hm (by omega)).mono ?_
 rintro e w' ⟨rfl,rfl⟩
 have hc:=Li c s
 have hcl:(Aa c s).length=Lib.countB sx sy+1:=by rw[←hd,List.length_map,hlen]
 have hV:=V.texts (S:=S) (w:=w) (l:=Lib.splitB sy 0 (Lib.countB sx sy) sx) (T:=9) hs.lt (by rw[hlen,Cf];omega) (fun x hx=>by
  have:x.data.toList ∈ Aa c s:=by rw[←hd];exact List.mem_map_of_mem hx
  have:=(Ms s _ this).1
  rw[Cf];omega)
 rw[hd,hlen] at hV
 refine⟨_,fun b=>S b∨b=w.heap.size,rfl,?_,V5 _ _,fun b h=>.inl h,fun b h=>?_,fun b h=>?_⟩
 ·rw[Ds];exact hV
 ·rcases h with h|h
  ·exact .inl h
  ·exact .inr (Nat.le_of_eq h.symm)
 ·have hsz:(w.alloc (.cells ((Lib.splitB sy 0 (Lib.countB sx sy) sx).map Value.string).toArray 9)).heap.size=w.heap.size+1:=by
   show(w.heap.push _).size=_
   simp
  show b<(w.alloc (.cells ((Lib.splitB sy 0 (Lib.countB sx sy) sx).map Value.string).toArray 9)).heap.size
  rw[hsz]
  rcases h with h|h
  ·have:=hs.lt b h;omega
  ·omega
def Ai1:PC:=PC.of (fun x:List UInt8 × UInt8=>[.str x.1,.str [x.2]]) (fun x=>x.1.length≤100000000) (fun x=>.tup [.str (sS (Br x.2 x.1).1),.str (sS (Br x.2 x.1).2.1),.bool (sB (Br x.2 x.1).2.2)])
theorem below_drewN(w:World)(n:Nat):Below w.heap.size w (w.drewN n):=⟨rfl,rfl,rfl,Nat.le_refl _,fun _ _=>rfl⟩
theorem Ac8{W:World}(hW:Tabs W):GoodP (Fw W) Tryz.prog 94 Ai1:=by
 refine I0 (fun _=>rfl) (fun _=>rfl) ?_
 rintro⟨s,c⟩ S w vs hpre hf hs hv
 simp only at hpre hv ⊢
 obtain⟨x,y,rfl,hx,hy⟩:=pR hv
 obtain⟨sx,rfl,h1,h2⟩:=V.strR' hx
 obtain⟨sy,rfl,h3,h4⟩:=V.strR' hy
 obtain⟨m,hm⟩:=Sr hW hs
 have e1:=K1 sx h1
 refine(Any.strings_Cut Tryz.lays145 sx sy m w (by omega) hm).mono ?_
 rintro e w' ⟨rfl,n,rfl⟩
 refine⟨_,rfl,fun S' w'=>?_,below_drewN w n⟩
 have hle:=Py c s
 rw[Ap,Ap,A9,h1,h3]
 refine .tup _ _ rfl fun i c' v hc hv=>?_
 match i,hc,hv with
 |0,hc,hv=>cases hc;cases hv;exact .str _ _ rfl (by rw[Cf];omega)
 |1,hc,hv=>cases hc;cases hv;exact .str _ _ rfl (by rw[Cf];omega)
 |2,hc,hv=>cases hc;cases hv;exact .bool _
 |i+3,hc,hv=>simp at hc
def pS:PC:=PC.fun fun|[.str s,.str [c]]=>some (s.length≤100000000,slS (sL (Aa c s)))|_=>none
theorem Ac9{W:World}(hW:Tabs W):GoodP (Fw W) Tryz.prog 78 pS:=by
 intro S w cs vs Q hs hv hT
 refine yW hW S w cs vs Q hs hv ?_
 simp only[pS,PC.fun] at hT
 split at hT
 ·rename_i p r hf
  split at hf
  ·cases hf
   rename_i s c
   exact⟨(s,c),hT.1,⟨⟨rfl,⟨rfl,trivial⟩⟩,hT.2⟩⟩
  ·cases hf
 ·exact hT.elim
def Uo:PC:=PC.fun fun|[.str s,.str [c]]=>some (s.length≤100000000,.tup [.str (sS (Br c s).1),.str (sS (Br c s).2.1),.bool (sB (Br c s).2.2)])|_=>none
theorem Ss{W:World}(hW:Tabs W):GoodP (Fw W) Tryz.prog 94 Uo:=by
 intro S w cs vs Q hs hv hT
 refine Ac8 hW S w cs vs Q hs hv ?_
 simp only[Uo,PC.fun] at hT
 split at hT
 ·rename_i p r hf
  split at hf
  ·cases hf
   rename_i s c
   exact⟨(s,c),hT.1,⟨⟨rfl,⟨rfl,trivial⟩⟩,hT.2⟩⟩
  ·cases hf
 ·exact hT.elim
def pT:PC:=PC.fun fun|[.str s,.str t]=>some (s.length≤100000000,.int .i64 (sI (Lib.index s t)))|_=>none
theorem Ada{W:World}(hW:Tabs W):GoodP (Fw W) Tryz.prog 220 pT:=by
 have h:GoodP (Fw W) Tryz.prog 220 (PC.of (fun x:List UInt8 × List UInt8=>[.str x.1,.str x.2]) (fun x=>x.1.length≤100000000) (fun x=>.int .i64 (Lib.index x.1 x.2))):=by
  refine I0 (fun _=>rfl) (fun _=>rfl) ?_
  rintro⟨s,t⟩ S w vs hpre hf hs hv
  simp only at hpre hv ⊢
  obtain⟨x,y,rfl,hx,hy⟩:=pR hv
  obtain⟨sx,rfl,h1,h2⟩:=V.strR' hx
  obtain⟨sy,rfl,h3,h4⟩:=V.strR' hy
  obtain⟨m,hm⟩:=Sr hW hs
  have e1:=K1 sx h1
  refine(Any.strings_Index Tryz.lays143 sx sy m w (by omega) hm).mono ?_
  rintro e w' ⟨rfl,rfl⟩
  refine⟨_,rfl,fun S' w'=>?_,Below.refl _ _⟩
  rw[h1,h3]
  have g1:=Lib.index_ge s t
  have g2:=Lib.index_le s t
  exact .int _ _ (by have:IntKind.min .i64= -9223372036854775808:=rfl;omega) (by have:IntKind.max .i64=9223372036854775807:=rfl;omega)
 intro S w cs vs Q hs hv hT
 refine h S w cs vs Q hs hv ?_
 simp only[pT,PC.fun] at hT
 split at hT
 ·rename_i p r hf
  split at hf
  ·cases hf
   rename_i s t
   rw[Cs] at hT
   exact⟨(s,t),hT.1,⟨⟨rfl,⟨rfl,trivial⟩⟩,hT.2⟩⟩
  ·cases hf
 ·exact hT.elim
end
end Z
end Go.Vc
namespace Go.Vc
open Go Go.Proofs Go.RowKit Go.Pl
theorem Aop{S:Nat→Prop}{w:World}{a:AV}{vs:Array Value}(h:VL (fun _=>none) S w [a] vs):∃ x,vs=#[x]∧V (fun _=>none) S w a x:=by
 obtain⟨vs⟩:=vs
 match vs,h with
 |[x],h=>exact⟨x,rfl,h.2 0 _ _ rfl rfl⟩
 |[],h=>simp[VL] at h
 |_::_::_,h=>have:=h.1;simp at this
namespace Z
noncomputable section
@[irreducible] def Dk(s:List UInt8):Int:=match Lib.atoiAll s with
 | .ok v=>v
 | .range=>Lib.atoiSat s
 |_=>0
def Avw(W:World):Prop:=(∃ ev,W.cell? ⟨2,0,none⟩=some ev∧(ev= .nilIface∨∃ te pe,ev= .iface te pe))∧(∃ ev,W.cell? ⟨3,0,none⟩=some ev∧(ev= .nilIface∨∃ te pe,ev= .iface te pe))
def Gq(W:World):Prop:=Tabs W∧Avw W
theorem Af8{W:World}(hW:Gq W){S:Nat→Prop}{w:World}(hs:Sok (Fw W) S w):(∃ ev,w.cell? ⟨2,0,none⟩=some ev∧(ev= .nilIface∨∃ te pe,ev= .iface te pe))∧(∃ ev,w.cell? ⟨3,0,none⟩=some ev∧(ev= .nilIface∨∃ te pe,ev= .iface te pe)):=by
 obtain⟨⟨m,hm,h1⟩,⟨n,hn,h2⟩⟩:=hW.2
 exact⟨⟨m,Fw.cell hs hm,h1⟩,⟨n,Fw.cell hs hn,h2⟩⟩
theorem yX{ρ:Nat→Option Nat}{S:Nat→Prop}{w:World}{n:Int}{x:Value}(h: -9223372036854775808≤n∧n≤9223372036854775807):V ρ S w (.tup [.int .i64 (sI n),.any]) (.tuple #[.int .i64 n,x]):=by
 rw[Cs]
 refine .tup _ _ rfl fun i c' v hc hv=>?_
 match i,hc,hv with
 |0,hc,hv=>cases hc;cases hv;exact .int _ _ h.1 h.2
 |1,hc,hv=>cases hc;cases hv;exact .any _
 |i+2,hc,hv=>simp at hc
def Ai2:PC:=PC.of (fun s:List UInt8=>[.str s]) (fun s=>s.length≤100000000) (fun s=>.tup [.int .i64 (sI (Dk s)),.any])
theorem Adb{W:World}(hW:Gq W):GoodP (Fw W) Tryz.prog 179 Ai2:=by
 refine I0 (fun _=>rfl) (fun _=>rfl) ?_
 intro s S w vs hpre hf hs hv
 change s.length≤100000000 at hpre
 obtain⟨x,rfl,hx⟩:=Aop (a:=.str s) hv
 obtain⟨sx,rfl,h1,h2⟩:=V.strR' hx
 obtain⟨⟨e1,c1,d1⟩,⟨e2,c2,d2⟩⟩:=Af8 hW hs
 have hz:=K1 sx h1
 cases ha:Lib.atoiAll s
 ·rename_i v
  have hv:Dk s=v:=by unfold Dk;rw[ha]
  refine(Any.strconv_Atoi_ok Tryz.lays172 sx (by omega) v (by rw[h1];exact ha) w).mono ?_
  rintro e w' ⟨rfl,hw⟩
  refine⟨_,rfl,fun S' w'=>by rw[hv];exact yX (Lib.atoiAll_bounds ha),?_⟩
  rcases hw with rfl|⟨t,rfl⟩
  ·exact Below.refl _ _
  ·exact Lib.bytesWorld_below _ _ _
 ·have hv:Dk s=0:=by unfold Dk;rw[ha]
  refine(Any.strconv_Atoi_syntax Tryz.lays172 sx (by omega) (by rw[h1];exact ha) e1 w c1 d1).mono ?_
  rintro e w' ⟨N,rfl,_,_,hb⟩
  exact⟨_,rfl,fun S' w'=>by rw[hv];exact yX (by omega),hb⟩
 ·have hv:Dk s=Lib.atoiSat sx.data.toList:=by unfold Dk;rw[ha,h1]
  refine(Any.strconv_Atoi_range Tryz.lays172 sx (by omega) (by rw[h1];exact ha) e2 w c2 d2).mono ?_
  rintro e w' ⟨N,rfl,_,_,hb⟩
  exact⟨_,rfl,fun S' w'=>by rw[hv];exact yX (Lib.atoiSat_bounds _),hb⟩
def yY:PC:=PC.fun fun|[.str s]=>some (s.length≤100000000,.tup [.int .i64 (sI (Dk s)),.any])|_=>none
theorem Af9{W:World}(hW:Gq W):GoodP (Fw W) Tryz.prog 179 yY:=by
 intro S w cs vs Q hs hv hT
 refine Adb hW S w cs vs Q hs hv ?_
 simp only[yY,PC.fun] at hT
 split at hT
 ·rename_i p r hf
  split at hf
  ·cases hf
   rename_i s
   exact⟨s,hT.1,⟨rfl,trivial⟩,hT.2⟩
  ·cases hf
 ·exact hT.elim
end
end Z
end Go.Vc
namespace Go.Vc.Z
open Go Go.Vc Go.Proofs Go.RowKit Go.Pl Go.Lib
def N8(s:List UInt8):Int:=if (worth s:Int)≤1000000000001 then(worth s:Int) else 1000000000001
@[irreducible] def Cw(s:List UInt8):Int × Bool:=if allDig s=true then(N8 s,Fs s) else(0,false)
theorem mK{s:List UInt8}{i:Nat}(h:i<s.length):N8 (s.take (i+1))=if 10*N8 (s.take i)+((s.getD i 0).toNat - 48:Nat)≤1000000000001 then 10*N8 (s.take i)+((s.getD i 0).toNat - 48:Nat) else 1000000000001:=by
 unfold N8
 rw[Ja h]
 repeat' split
 all_goals omega
theorem Aba(s:List UInt8):0≤N8 s∧N8 s≤1000000000001:=by unfold N8;split<;>omega
theorem Aga:N8 []=0:=by unfold N8;simp[worth]
theorem Adc:Fs []=false:=by unfold Fs;simp[allDig]
theorem yZ{s:List UInt8}(h:worth s≤1000000000001):N8 s=worth s:=by unfold N8;rw[if_pos (by omega)]
theorem aP{c:List UInt8}:allDig (49::c)=allDig c:=by simp[allDig,Xz]
theorem mL{c:List UInt8}:Fs (49::c)=allDig c:=by unfold Fs;rw[aP];simp
theorem Add{c:List UInt8}(h:c.length=2)(hd:allDig c=true):worth (49::c)=100+worth c∧worth c<100:=by
 rw[X0,h]
 have:=rN hd
 rw[h] at this
 exact⟨by simp,by simpa using this⟩
theorem zA{s:List UInt8}{c:UInt8}(h:1≤s.length):(s.take 1 == [c])=Lib.hasPrefix s [c]:=by
 cases s with
 |nil=>exact absurd h (by simp)
 |cons d t=>
  show([d] == [c])=((c == d)&&true)
  rw[Bool.and_true,Bool.eq_iff_iff,beq_iff_eq,beq_iff_eq]
  exact⟨fun h=>(List.cons.inj h).1.symm,fun h=>by rw[h]⟩
theorem Ade{s:List UInt8}{c:UInt8}(h: ¬1≤s.length):Lib.hasPrefix s [c]=false:=by
 cases s with
 |nil=>rfl
 |cons d t=>simp at h
def Da(c:UInt8)(s:List UInt8):List UInt8:=if Lib.hasPrefix s [c]=true then s.drop 1 else s
theorem Ai3(c:UInt8)(s:List UInt8):(Da c s).length≤s.length:=by unfold Da;split<;>simp
theorem mM(s:List UInt8):0≤(Cw s).1∧(Cw s).1≤1000000000001:=by
 unfold Cw;split
 ·exact Aba s
 ·exact⟨by decide,by decide⟩
theorem aQ(s:List UInt8):(Cw s).2=Fs s:=by
 unfold Cw
 split
 ·rfl
 ·rename_i h
  symm;refine Bool.eq_false_iff.2 fun hd=>h ?_
  unfold Fs at hd;simp only[Bool.and_eq_true] at hd;exact hd.1
theorem aR{s:List UInt8}:(Mt s=((Br 46 s).2.2&&(Cw (Br 46 s).1).2&&(Cw (49::(Br 46 s).2.1)).2&&decide ((Br 46 s).2.1.length=2)))∧
  (Mt s=true→(Hv s=100*(Cw (Br 46 s).1).1+(Cw (49::(Br 46 s).2.1)).1 - 100∨(1000000000001<100*(Cw (Br 46 s).1).1+(Cw (49::(Br 46 s).2.1)).1 - 100∧1000000000001<Hv s))∧0≤100*(Cw (Br 46 s).1).1+(Cw (49::(Br 46 s).2.1)).1 - 100):=by
 have e:Mt s=((Br 46 s).2.2&&(Cw (Br 46 s).1).2&&(Cw (49::(Br 46 s).2.1)).2&&decide ((Br 46 s).2.1.length=2)):=by
  rw[aQ,aQ,mL];rfl
 refine⟨e,fun h=>?_⟩
 rw[e] at h
 simp only[Bool.and_eq_true,decide_eq_true_eq,aQ,mL] at h
 obtain⟨⟨⟨h1,h2⟩,h3⟩,h4⟩:=h
 obtain⟨w1,w2⟩:=Add h4 h3
 have hd2:allDig (Br 46 s).1=true:=(yG h2).1
 have a1:(Cw (Br 46 s).1).1=N8 (Br 46 s).1:=by unfold Cw;rw[if_pos hd2]
 have a2:(Cw (49::(Br 46 s).2.1)).1=100+worth (Br 46 s).2.1:=by
  unfold Cw;rw[if_pos (by rw[aP];exact h3)]
  show N8 _=_
  rw[yZ (by omega),w1];omega
 rw[a1,a2]
 unfold Hv N8
 split<;>omega
theorem Su{s:List UInt8}(h:Mt (Da 45 s)=false):Di s=(0,4):=by
 unfold Da at h
 unfold Di
 split
 ·rename_i hp
  rw[if_pos hp] at h
  rw[if_neg (by rw[h];simp)]
 ·rename_i hp
  rw[if_neg hp] at h
  rw[if_neg (by rw[h];simp)]
theorem Agb{s:List UInt8}(hp:Lib.hasPrefix s [45]=true)(h:Mt (Da 45 s)=true):Di s=if Hv (Da 45 s)=0 then(0,4) else if 1000000000000<Hv (Da 45 s) then(0,14) else(-Hv (Da 45 s),0):=by
 unfold Da at h ⊢
 rw[if_pos hp] at h ⊢
 unfold Di
 rw[if_pos hp]
 by_cases h0:Hv (s.drop 1)=0
 ·rw[if_neg (fun hn=>hn.2 h0),if_pos h0]
 ·rw[if_pos ⟨h,h0⟩,if_neg h0]
theorem Agc{s:List UInt8}(hp:Lib.hasPrefix s [45]=false)(h:Mt (Da 45 s)=true):Di s=if 1000000000000<Hv (Da 45 s) then(0,14) else(Hv (Da 45 s),0):=by
 have hp': ¬Lib.hasPrefix s [45]=true:=by rw[hp];simp
 unfold Da at h ⊢
 rw[if_neg hp'] at h ⊢
 unfold Di
 rw[if_neg hp',if_pos h]
theorem zB(c:UInt8):Lib.index stL [c]=statOf [c] - 1:=by
 rw[Lib.index_one]
 unfold statOf stL
 simp only[List.cons.injEq,and_true]
 by_cases h1:c=79
 ·subst h1;rfl
 by_cases h2:c=67
 ·subst h2;rfl
 by_cases h3:c=76
 ·subst h3;rfl
 by_cases h4:c=70
 ·subst h4;rfl
 by_cases h5:c=69
 ·subst h5;rfl
 by_cases h6:c=82
 ·subst h6;rfl
 by_cases h7:c=86
 ·subst h7;rfl
 by_cases h8:c=83
 ·subst h8;rfl
 by_cases h9:c=65
 ·subst h9;rfl
 rw[if_neg h1,if_neg h2,if_neg h3,if_neg h4,if_neg h5,if_neg h6,if_neg h7,if_neg h8,if_neg h9]
 simp[Lib.indexByte,Ne.symm h1,Ne.symm h2,Ne.symm h3,Ne.symm h4,Ne.symm h5,Ne.symm h6,Ne.symm h7,Ne.symm h8,Ne.symm h9]
theorem vW{s:List UInt8}(h:s.length≠1):statOf s=0:=by
 unfold statOf
 repeat' split
 all_goals first|rfl|(rename_i e;rw[e] at h;exact absurd rfl h)
theorem vX{s:List UInt8}(h:s.length=1):Lib.index stL s=statOf s - 1:=by
 match s,h with
 |[c],_=>exact zB c
@[irreducible] def W9(s:List UInt8):Int:=if statOf s=0 then 2 else 0
theorem aS(s:List UInt8):(statOf s=0∧W9 s=2)∨(statOf s≠0∧W9 s=0):=by
 unfold W9
 by_cases h:statOf s=0
 ·exact .inl ⟨h,if_pos h⟩
 ·exact .inr ⟨h,if_neg h⟩
noncomputable section
set_option maxRecDepth 100000
attribute [local irreducible] inK Utf8.decode Utf8.encode Lib.itoa Pl.worth Pl.allDig
attribute [local irreducible] Lib.join Br Aa
def vY:PC:=PC.fun fun|[.str s]=>some (True,.tup [.int .i64 (sI (Cw s).1),.bool (sB (Cw s).2)])|_=>none
def Ai4(s:List UInt8):LoopSpec:={
 α:=Nat
 keep:=[0,4,8]
 vals i:=[.str s,.int .i64 (sI (N8 (s.take i))),.iter 0]
 heap i:=[.iter s i]
 ok i:=i≤s.length∧allDig (s.take i)=true
 μ i:=s.length - i }
def Em:PT:=D1 []
theorem Hp{W:World}(hW:Tabs W):Dj (Fw W) Tryz.prog Em:=A6
def Ju:FuncId→Option Ctr:=Av Em []
theorem Nu{W:World}(hW:Tabs W):Ad (Fw W) Tryz.prog Ju:=(A7 (Hp hW))
def pU:List AV→Nat→Option LR:=fun cs i=>match cs with|[.str s]=>cond (Nat.beq i 3) (some (.inv (Ai4 s))) (none)|_=>none
theorem pV{W:World}(hW:Tabs W):GoodP (Fw W) Tryz.prog 222 vY:=by
 have hD:=Hp hW
 have hC0:Ad (Fw W) Tryz.prog Ju:=(Nu hW)
 refine Be (D:=Em) (C:=Ju) (wr:=(fun _=>false)) rfl Aq hD hC0 Tryz.func222 (pU) ?_
 clear hC0 hD hW
 intro cs p r h hf hp
 split at h
 case h_2=>cases h
 rename_i s
 cases h
 try simp only[Bl,Cm,Ar,Go.Vc.lo,Go.Vc.hi,and_true] at hf
 have e0:s.getD (Int.toNat 0) 0=s.getD 0 0:=rfl
 have hbyte:∀ c:UInt8,eqI (c.toNat:Int) 48=(c == 48):=fun c=>rO c 48
 have s0:=Aga
 (conv=>whnf)
 refine⟨?_,fun(i:Nat) hi=>?_⟩
 ·(conv=>whnf)
  refine⟨(0:Nat),[],?_,⟨⟨rfl,(nB rfl),rfl⟩,?_,?_⟩⟩
  ·exact⟨Nat.zero_le _,by simp[allDig]⟩
  ·(conv=>whnf)
   (repeat' ((first|with_reducible exact⟨⟩|((with_reducible refine aI ?_ ?_);focus (exact tA))|with_reducible refine iA ?_ ?_|fail)<;>(conv=>whnf)))
   all_goals (try simp only[wQ])
   rw[List.take_zero,s0]
  ·exact tL
 ·obtain⟨h1,h2⟩:=hi
  have h1:i≤s.length:=h1
  have hl:=Aba (s.take i)
  have hsi:=Cs (N8 (s.take i))
  have hbad:i<s.length→¬(48≤Bb s i∧Bb s i≤57)→Cw s=(0,false):=fun h hc=>by
   have:allDig s=false:=X3 h (by rcases D6 h with h6|h6<;>omega)
   unfold Cw;rw[this];rfl
  have hfin:s.length≤i→Cw s=(N8 (s.take i),Fs s):=fun h=>by
   rw[List.take_of_length_le h] at h2 ⊢
   unfold Cw;rw[if_pos h2]
  have hdec:s.length≤i→Fs s=(s == [48] || (s != []&&s.getD 0 0 != 48)):=fun h=>by
   rw[List.take_of_length_le h] at h2
   unfold Fs;rw[h2,Bool.true_and]
  by_cases hs:s=[]
  ·subst hs
   obtain rfl:i=0:=Nat.le_zero.1 h1
   (conv=>whnf)
   (repeat' ((first
    |with_reducible exact⟨⟩
    |((with_reducible refine aI ?_ ?_);focus (first|exact tO|with_reducible rfl))
    |with_reducible refine iA ?_ ?_
    |fail)<;>(conv=>whnf)))
   all_goals (try (show _=_;simp only[wQ]))
   ·rw[hfin (Nat.le_refl _)]
   ·rw[hfin (Nat.le_refl _)];exact Adc.symm
  ·have hpos:0<s.length:=List.length_pos_iff.2 hs
   (conv=>whnf)
   (repeat' ((first
    |with_reducible exact⟨⟩
    |((with_reducible refine aI ?_ ?_);focus (first|exact tO|with_reducible rfl|omega|exact tK))
    |(split<;>rename_i hh<;>(try simp only[wS] at hh))
    |with_reducible refine iA ?_ ?_
    |fail)<;>(conv=>whnf)))
   all_goals (try (show _=_;simp only[wQ]))
   all_goals first|(rw[hbad (by omega) (by omega)];done)|(exact absurd (by assumption) hs)|(exfalso;exact absurd (by assumption) Bool.false_ne_true)|skip
   ·obtain⟨h6,h7,h8⟩:Bb s i=((s.getD i 0).toNat:Int)∧Ai s i=1∧(s.getD i 0).toNat<128:=by
     rcases D6 (l:=s) (p:=i) (by omega) with h6|h6<;>omega
    have hst:=mK (s:=s) (i:=i) (by omega)
    (conv=>whnf)
    refine⟨(i+1:Nat),[],?_,⟨⟨rfl,(nB rfl),rfl⟩,?_,?_⟩⟩
    ·exact⟨⟨show i+1≤s.length by omega,F9 (by omega) h2 (by omega) (by omega)⟩,show s.length - (i+1)<s.length - i by omega⟩
    ·(conv=>whnf)
     (repeat' ((first|with_reducible exact⟨⟩|((with_reducible refine aI ?_ ?_);focus (exact tA))|with_reducible refine iA ?_ ?_|fail)<;>(conv=>whnf)))
     all_goals (try simp only[wQ])
     all_goals (try first|omega)
     all_goals (rw[hst];split<;>omega)
    ·(conv=>whnf)
     (repeat' ((first|with_reducible exact⟨⟩|((with_reducible refine aI ?_ ?_);focus (exact tA))|with_reducible refine iB ?_ ?_|fail)<;>(conv=>whnf)))
     all_goals (try first|omega)
     all_goals (rw[h7])
   ·obtain⟨h6,h7,h8⟩:Bb s i=((s.getD i 0).toNat:Int)∧Ai s i=1∧(s.getD i 0).toNat<128:=by
     rcases D6 (l:=s) (p:=i) (by omega) with h6|h6<;>omega
    have hst:=mK (s:=s) (i:=i) (by omega)
    (conv=>whnf)
    refine⟨(i+1:Nat),[],?_,⟨⟨rfl,(nB rfl),rfl⟩,?_,?_⟩⟩
    ·exact⟨⟨show i+1≤s.length by omega,F9 (by omega) h2 (by omega) (by omega)⟩,show s.length - (i+1)<s.length - i by omega⟩
    ·(conv=>whnf)
     (repeat' ((first|with_reducible exact⟨⟩|((with_reducible refine aI ?_ ?_);focus (exact tA))|with_reducible refine iA ?_ ?_|fail)<;>(conv=>whnf)))
     all_goals (try simp only[wQ])
     all_goals (try first|omega)
     all_goals (rw[hst];split<;>omega)
    ·(conv=>whnf)
     (repeat' ((first|with_reducible exact⟨⟩|((with_reducible refine aI ?_ ?_);focus (exact tA))|with_reducible refine iB ?_ ?_|fail)<;>(conv=>whnf)))
     all_goals (try first|omega)
     all_goals (rw[h7])
   ·rw[hfin (by omega)]
   ·rw[hfin (by omega),hdec (by omega),show s=[48] by assumption];rfl
   ·rw[hfin (by omega)]
   ·rw[hfin (by omega),hdec (by omega),hbyte,e0]
    have a1:(s == [48])=false:=by rw[beq_eq_false_iff_ne];assumption
    have a2:(s != [])=true:=by rw[bne_iff_ne];assumption
    rw[a1,a2];rfl
def vZ:PC:=PC.fun fun|[.str s,.str [c]]=>some (True,.tup [.str (sS (Da c s)),.bool (sB (Lib.hasPrefix s [c]))])|_=>none
def I3:List (FuncId × Ctr):=(244,inl TY Ju Em (fun _=>false) (fun _ _ _=>none) Tryz.f244)::[]
def I4:FuncId→Option Ctr:=Av Em I3
theorem I5{W:World}(hW:Tabs W):Ad (Fw W) Tryz.prog I4:=Ab Tryz.call244 (Af rfl Aq (Hp hW) (Nu hW) Tryz.func244 (fun _ _ _=>none)) (Nu hW)
def O7:List (FuncId × Ctr):=(272,inl TY I4 Em (fun _=>false) (fun _ _ _=>none) Tryz.f272)::I3
def F7:FuncId→Option Ctr:=Av Em O7
theorem O8{W:World}(hW:Tabs W):Ad (Fw W) Tryz.prog F7:=Ab Tryz.call272 (Af rfl Aq (Hp hW) (I5 hW) Tryz.func272 (fun _ _ _=>none)) (I5 hW)
theorem Qb{W:World}(hW:Tabs W):GoodP (Fw W) Tryz.prog 221 vZ:=by
 have hD:=Hp hW
 have hC0:Ad (Fw W) Tryz.prog F7:=(O8 hW)
 refine Be (D:=Em) (C:=F7) (wr:=(fun _=>false)) rfl Aq hD hC0 Tryz.func221 (fun _ _=>none) ?_
 clear hC0 hD hW
 intro cs p r h hf hp
 split at h
 case h_2=>cases h
 rename_i s c
 cases h
 try simp only[Bl,Cm,Ar,Go.Vc.lo,Go.Vc.hi,and_true] at hf
 have h1:=zA (s:=s) (c:=c)
 have h2:=Ade (s:=s) (c:=c)
 have h3:Da c s=if Lib.hasPrefix s [c]=true then s.drop 1 else s:=by unfold Da;rfl
 have h4:([c].length:Int)=1:=rfl
 have hn:Lib.hasPrefix s [c]=false→s=Da c s∧false=Lib.hasPrefix s [c]:=fun h=>by rw[h3,h];exact⟨rfl,rfl⟩
 have hy:1≤s.length→Lib.hasPrefix s [c]=true→List.take (s.length - Int.toNat ([c].length:Int)) (List.drop (Int.toNat ([c].length:Int)) s)=Da c s∧true=Lib.hasPrefix s [c]:=fun h0 h=>by
  rw[h3,h]
  refine⟨?_,rfl⟩
  show List.take (s.length - 1) (List.drop 1 s)=_
  rw[List.take_of_length_le (by simp)];rfl
 have k1:1≤s.length→¬List.take (Int.toNat ([c].length:Int) - 0) (List.drop 0 s)=[c]→Lib.hasPrefix s [c]=false:=fun h0 h=>by
  rw[←h1 h0,beq_eq_false_iff_ne];exact h
 have k2:1≤s.length→List.take (Int.toNat ([c].length:Int) - 0) (List.drop 0 s)=[c]→Lib.hasPrefix s [c]=true:=fun h0 h=>by
  rw[←h1 h0,beq_iff_eq];exact h
 (conv=>whnf)
 (repeat' ((first
  |with_reducible exact⟨⟩
  |(with_reducible refine Ac ?_)
  |((with_reducible refine aI ?_ ?_);focus (omega))
  |(split<;>rename_i hh<;>(try simp only[wS] at hh))
  |with_reducible refine lnI fun hln=>?_
  |with_reducible refine iA ?_ ?_
  |fail)<;>(conv=>whnf)))
 all_goals (try (show _=_;simp only[wQ]))
 ·exact(hn (k1 (by omega) (by assumption))).1
 ·exact(hn (k1 (by omega) (by assumption))).2
 ·exact(hy (by omega) (k2 (by omega) (by assumption))).1
 ·exact(hy (by omega) (k2 (by omega) (by assumption))).2
 ·exact(hn (h2 (by omega))).1
 ·exact(hn (h2 (by omega))).2
def aT:PC:=PC.fun fun|[.str s]=>some (s.length≤100000000,.tup [.int .i64 (sI (Di s).1),.int .i64 (sI (Di s).2)])|_=>none
def Up:PT:=D1 [(94,Uo),(221,vZ),(222,vY)]
theorem mN{W:World}(hW:Tabs W):Dj (Fw W) Tryz.prog Up:=(Ae Tryz.call94 (Ss hW) (Ae Tryz.call221 (Qb hW) (Ae Tryz.call222 (pV hW) A6)))
def Uq:FuncId→Option Ctr:=Av Up []
theorem Adf{W:World}(hW:Tabs W):Ad (Fw W) Tryz.prog Uq:=(A7 (mN hW))
theorem mO{W:World}(hW:Tabs W):GoodP (Fw W) Tryz.prog 159 aT:=by
 have hD:=mN hW
 have hC0:Ad (Fw W) Tryz.prog Uq:=(Adf hW)
 refine Be (D:=Up) (C:=Uq) (wr:=(fun _=>false)) rfl Aq hD hC0 Tryz.func159 (fun _ _=>none) ?_
 clear hC0 hD hW
 intro cs p r h hf hp
 split at h
 case h_2=>cases h
 rename_i s
 cases h
 try simp only[Bl,Cm,Ar,Go.Vc.lo,Go.Vc.hi,and_true] at hf
 have e1:=Ap (Da 45 s)
 have e2:=Ap (Br 46 (sS (Da 45 s))).1
 have e3:=Ap (Br 46 (sS (Da 45 s))).2.1
 have c1:=Ai3 45 s
 have c2:=Py 46 (sS (Da 45 s))
 have c3:(sS (Da 45 s)).length≤100000000:=by rw[e1];omega
 have c4:(sS (Br 46 (sS (Da 45 s))).2.1).length≤100000000:=by rw[e3];omega
 have c5:=Py 46 (Da 45 s)
 have w1:=mM (sS (Br 46 (sS (Da 45 s))).1)
 have w2:=mM ((⟨#[49]⟩:ByteArray).data.toList++sS (Br 46 (sS (Da 45 s))).2.1)
 have w3:=Cs (Cw (sS (Br 46 (sS (Da 45 s))).1)).1
 have w4:=Cs (Cw ((⟨#[49]⟩:ByteArray).data.toList++sS (Br 46 (sS (Da 45 s))).2.1)).1
 have hF:Mt (Da 45 s)=((Br 46 (Da 45 s)).2.2&&(Cw (Br 46 (Da 45 s)).1).2&&(Cw ((⟨#[49]⟩:ByteArray).data.toList++(Br 46 (Da 45 s)).2.1)).2&&decide ((Br 46 (Da 45 s)).2.1.length=2)):=aR.1
 have hV:Mt (Da 45 s)=true→(Hv (Da 45 s)=100*(Cw (Br 46 (Da 45 s)).1).1+(Cw ([49]++(Br 46 (Da 45 s)).2.1)).1 - 100∨(1000000000001<100*(Cw (Br 46 (Da 45 s)).1).1+(Cw ([49]++(Br 46 (Da 45 s)).2.1)).1 - 100∧1000000000001<Hv (Da 45 s)))∧0≤100*(Cw (Br 46 (Da 45 s)).1).1+(Cw ([49]++(Br 46 (Da 45 s)).2.1)).1 - 100:=(aR (s:=Da 45 s)).2
 have b1:(Br 46 (Da 45 s)).2.2=false→Di s=(0,4):=fun h=>Su (by rw[hF,h];rfl)
 have b2:(Cw (Br 46 (Da 45 s)).1).2=false→Di s=(0,4):=fun h=>Su (by rw[hF,h];simp)
 have b3:(Cw ((⟨#[49]⟩:ByteArray).data.toList++(Br 46 (Da 45 s)).2.1)).2=false→Di s=(0,4):=fun h=>Su (by rw[hF,h];simp)
 have b4: ¬(Br 46 (Da 45 s)).2.1.length=2→Di s=(0,4):=fun h=>Su (by rw[hF,decide_eq_false h];simp)
 have hg:(Br 46 (Da 45 s)).2.2=true→(Cw (Br 46 (Da 45 s)).1).2=true→(Cw ((⟨#[49]⟩:ByteArray).data.toList++(Br 46 (Da 45 s)).2.1)).2=true→(Br 46 (Da 45 s)).2.1.length=2→Mt (Da 45 s)=true:=fun h1 h2 h3 h4=>by rw[hF,h1,h2,h3,decide_eq_true h4];rfl
 clear c2 hF
 (conv=>whnf)
 (repeat' ((first
  |with_reducible exact⟨⟩
  |((with_reducible refine aI ?_ ?_);focus (first|with_reducible exact⟨⟩|with_reducible assumption|with_reducible rfl|omega|exact tK|(simp only[List.length_append,bytesOf_length,List.toList_toArray,List.length_cons,List.length_nil,List.length_take,List.length_drop,Ap];omega)|(dsimp only at*;simp only[Ar,Go.Vc.lo,Go.Vc.hi];omega)))
  |(split<;>rename_i hh<;>(try simp only[wS] at hh))
  |with_reducible refine lnI fun hln=>?_
  |with_reducible refine iA ?_ ?_
  |fail)<;>(conv=>whnf)))
 all_goals (try (show _=_;simp only[wQ]))
 all_goals first
  |exact absurd (by assumption) Bool.false_ne_true
  |(rw[b1 (by assumption)];done)
  |(rw[b2 (by assumption)];done)
  |(rw[b3 (by assumption)];done)
  |(rw[b4 (by omega)];done)
  |(
   have hf:=hg (by assumption) (by assumption) (by assumption) (by omega)
   obtain⟨v1,v2⟩:=hV hf
   first
   |(rw[Agb (by assumption) hf];(repeat' split)<;>((try dsimp only)<;>omega))
   |(rw[Agc (by assumption) hf];(repeat' split)<;>((try dsimp only)<;>omega)))
def Ana:PC:=PC.fun fun|[.str s]=>some (True,.tup [.int .i64 (sI (statOf s)),.int .i64 (sI (W9 s))])|_=>none
def O9:PT:=D1 [(220,pT)]
theorem V6{W:World}(hW:Tabs W):Dj (Fw W) Tryz.prog O9:=(Ae Tryz.call220 (Ada hW) A6)
def Pb:FuncId→Option Ctr:=Av O9 []
theorem wA{W:World}(hW:Tabs W):Ad (Fw W) Tryz.prog Pb:=(A7 (V6 hW))
theorem wB{W:World}(hW:Tabs W):GoodP (Fw W) Tryz.prog 156 Ana:=by
 have hD:=V6 hW
 have hC0:Ad (Fw W) Tryz.prog Pb:=(wA hW)
 refine Be (D:=O9) (C:=Pb) (wr:=(fun _=>false)) rfl Aq hD hC0 Tryz.func156 (fun _ _=>none) ?_
 clear hC0 hD hW
 intro cs p r h hf hp
 split at h
 case h_2=>cases h
 rename_i s
 cases h
 try simp only[Bl,Cm,Ar,Go.Vc.lo,Go.Vc.hi,and_true] at hf
 have h1:(s.length:Int)=1∨statOf s=0:=by
  by_cases h:s.length=1
  ·exact .inl (by omega)
  ·exact .inr (vW h)
 have h2: ¬(s.length:Int)=1∨Lib.index [79,67,76,70,69,82,86,83,65] s=statOf s - 1:=by
  by_cases h:s.length=1
  ·exact .inr (vX h)
  ·exact .inl (by omega)
 have h4:sI (Lib.index (⟨#[79,67,76,70,69,82,86,83,65]⟩:ByteArray).data.toList s)=Lib.index [79,67,76,70,69,82,86,83,65] s:=Cs _
 have h6:statOf s=0∨(1≤statOf s∧statOf s≤9):=(yQ (s:=s)).imp id R7.1
 have h7:=aS s
 (conv=>whnf)
 (repeat' ((first
  |with_reducible exact⟨⟩
  |((with_reducible refine aI ?_ ?_);focus (first|with_reducible rfl|(simp only[Ar,Go.Vc.lo,Go.Vc.hi];simp (disch:=omega) only[Int.tdiv_eq_ediv_of_nonneg,Int.tmod_eq_emod_of_nonneg,Cs,rK];omega)|(simp only[List.length_append,bytesOf_length,List.toList_toArray,List.length_cons,List.length_nil,List.length_take,List.length_drop,Ap];omega)))
  |(split<;>rename_i hh<;>(try simp only[wS] at hh))
  |with_reducible refine lnI fun hln=>?_
  |with_reducible refine iA ?_ ?_
  |fail)<;>(conv=>whnf)))
 all_goals (try (show _=_;simp only[wQ]))
 all_goals omega
def zC:PC:=PC.fun fun|[.str s]=>some (s.length≤100000000,.tup [.str (sS (Ea s).1),.int .i64 (sI (Ea s).2.1),.bool (sB (Ea s).2.2)])|_=>none
def L1:PT:=D1 [(94,Uo),(159,aT)]
theorem Qn{W:World}(hW:Tabs W):Dj (Fw W) Tryz.prog L1:=(Ae Tryz.call94 (Ss hW) (Ae Tryz.call159 (mO hW) A6))
def L2:FuncId→Option Ctr:=Av L1 []
theorem dG{W:World}(hW:Tabs W):Ad (Fw W) Tryz.prog L2:=(A7 (Qn hW))
theorem Qo{W:World}(hW:Tabs W):GoodP (Fw W) Tryz.prog 224 zC:=by
 have hD:=Qn hW
 have hC0:Ad (Fw W) Tryz.prog L2:=(dG hW)
 refine Be (D:=L1) (C:=L2) (wr:=(fun _=>false)) rfl Aq hD hC0 Tryz.func224 (fun _ _=>none) ?_
 clear hC0 hD hW
 intro cs p r h hf hp
 split at h
 case h_2=>cases h
 rename_i s
 cases h
 try simp only[Bl,Cm,Ar,Go.Vc.lo,Go.Vc.hi,and_true] at hf
 have c1:=Py 61 s
 have c2:(sS (Br 61 s).2.1).length≤100000000:=by rw[Ap];omega
 have h1:Ea s=((Br 61 s).1,(Di (Br 61 s).2.1).1,(Br 61 s).2.2&&decide ((Di (Br 61 s).2.1).2=0)):=by unfold Ea;rfl
 (conv=>whnf)
 (repeat' ((first
  |with_reducible exact⟨⟩
  |((with_reducible refine aI ?_ ?_);focus (first|with_reducible assumption|with_reducible rfl))
  |(split<;>rename_i hh<;>(try simp only[wS] at hh))
  |with_reducible refine iA ?_ ?_
  |fail)<;>(conv=>whnf)))
 all_goals (try (show _=_;simp only[wQ]))
 all_goals first|(rw[h1];done)|(rw[h1,Bool.eq_iff_iff];simp[*,Bw];done)
def Agd:PC:=PC.fun fun|[.str s]=>some (s.length≤100000000,.tup [.agg (Ed s).1.enc,.bool (sB (Ed s).2)])|_=>none
def Hq:PT:=D1 [(93,Pw),(94,Uo),(224,zC)]
theorem Lq{W:World}(hW:Tabs W):Dj (Fw W) Tryz.prog Hq:=(Ae Tryz.call93 (F0 hW) (Ae Tryz.call94 (Ss hW) (Ae Tryz.call224 (Qo hW) A6)))
def Hr:FuncId→Option Ctr:=Av Hq []
theorem Sv{W:World}(hW:Tabs W):Ad (Fw W) Tryz.prog Hr:=(A7 (Lq hW))
theorem Sw{W:World}(hW:Tabs W):GoodP (Fw W) Tryz.prog 223 Agd:=by
 have hD:=Lq hW
 have hC0:Ad (Fw W) Tryz.prog Hr:=(Sv hW)
 refine Be (D:=Hq) (C:=Hr) (wr:=(fun _=>false)) rfl Aq hD hC0 Tryz.func223 (fun _ _=>none) ?_
 clear hC0 hD hW
 intro cs p r h hf hp
 split at h
 case h_2=>cases h
 rename_i s
 cases h
 try simp only[Bl,Cm,Ar,Go.Vc.lo,Go.Vc.hi,and_true] at hf
 have h1:(sS (Ea s).1).length≤100000000:=by
  rw[Ap];have:=Py 61 s;unfold Ea;dsimp only;omega
 have hf:Ed s=(⟨(An (Br 64 (Ea s).1).1).1,(An (Br 64 (Ea s).1).2.1).1,(Ea s).2.1,0,0,0⟩,(Ea s).2.2&&(Br 64 (Ea s).1).2.2&&(An (Br 64 (Ea s).1).1).2&&(An (Br 64 (Ea s).1).2.1).2):=by unfold Ed;rfl
 (conv=>whnf)
 (repeat' ((first
  |with_reducible exact⟨⟩
  |((with_reducible refine aI ?_ ?_);focus (first|with_reducible exact⟨⟩|with_reducible assumption|with_reducible rfl))
  |(split<;>rename_i hh<;>(try simp only[wS] at hh))
  |with_reducible refine iA ?_ ?_
  |fail)<;>(conv=>whnf)))
 all_goals (try (show _=_;simp only[wQ]))
 all_goals first|(rw[hf];done)|(rw[hf,Bool.eq_iff_iff];simp[*];done)
end
end Go.Vc.Z
namespace Go.Vc.Z
open Go Go.Vc Go.Proofs Go.RowKit Go.Pl Go.Lib
noncomputable section
abbrev As:Request:=⟨[],0,0,0,0,0,[],[],[],0,0,0⟩
open Classical in
@[irreducible] def Qc(s:List UInt8):Request × Int:=if h:∃ r,Ah r=true∧Bq r=s then(h.choose,0) else(As,4)
theorem Xa{s:List UInt8}(h:∀ r,Ah r=true→Bq r=s→False):Qc s=(As,4):=by
 unfold Qc
 rw[dif_neg]
 rintro⟨r,h1,h2⟩
 exact h r h1 h2
theorem E5{s:List UInt8}{R:Request}(h1:Ah R=true)(h2:Bq R=s)(h:∀ r,Ah r=true→Bq r=s→R=r):Qc s=(R,0):=by
 have hx:∃ r,Ah r=true∧Bq r=s:=⟨R,h1,h2⟩
 unfold Qc
 rw[dif_pos hx,←h _ hx.choose_spec.1 hx.choose_spec.2]
theorem wC{r:Request}(h:Ah r=true):(Bn r).getD 0 []=Gx.getD (r.kind - 1).toNat []:=by
 rcases Fh h with k|k|k|k|k|k|k|k|k|k
 ·rw[Ii k,k];rfl
 ·rw[Ij k,k];rfl
 ·rw[Ik k,k];rfl
 ·rw[Il k,k];rfl
 ·rw[Io k,k];rfl
 ·rw[Ip k,k];rfl
 ·rw[Iq k,k];rfl
 ·rw[Ir k,k];rfl
 ·rw[Is k,k];rfl
 ·rw[G6 k,k];rfl
theorem Hs{r:Request}(h:Ah r=true):r=De r:=by
 rcases Fh h with k|k|k|k|k|k|k|k|k|k
 ·rw[R9 k] at h;simp only[Bool.and_eq_true,A0] at h;exact h.2.2.2.2.2
 ·rw[Yh k] at h;simp only[Bool.and_eq_true,A0] at h;exact h.2.2.2.2.2
 ·rw[Yi k] at h;simp only[Bool.and_eq_true,A0] at h;exact h.2.2.2
 ·rw[Yj k] at h;simp only[Bool.and_eq_true,A0] at h;exact h.2.2.2.2
 ·rw[Yk k] at h;simp only[Bool.and_eq_true,A0] at h;exact h.2.2.2.2.2.2
 ·rw[Yl k] at h;simp only[Bool.and_eq_true,A0] at h;exact h.2.2.2.2
 ·rw[Ym k] at h;simp only[Bool.and_eq_true,A0] at h;exact h.2.2.2.2
 ·rw[Yn k] at h;simp only[Bool.and_eq_true,A0] at h;exact h.2
 ·rw[Yo k] at h;simp only[Bool.and_eq_true,A0] at h;exact h.2
 ·rw[Ub k] at h;simp only[Bool.and_eq_true,A0] at h;exact h.2
theorem Sx(s:List UInt8):kindOf s=0∨kindOf s=1∨kindOf s=2∨kindOf s=3∨kindOf s=4∨kindOf s=5∨kindOf s=6∨kindOf s=7∨kindOf s=8∨kindOf s=9∨kindOf s=10:=by
 unfold kindOf
 repeat' split
 all_goals omega
theorem Gu{s:List UInt8}{r:Request}{k:Int}(hm:Ah r=true)(hw:Bq r=s)(hk:kindOf ((Aa 32 s).getD 0 [])=k):r.kind=k:=by
 have hc:=Hh hm
 rw[hw] at hc
 have h1:1≤r.kind∧r.kind≤10:=by rcases Fh hm with k|k|k|k|k|k|k|k|k|k<;>omega
 rw[hc,wC hm,←Cc h1,eW h1] at hk
 exact hk
theorem Sy{m:Int}{l:List Coupon}(h:Gf m l=true):Aa 44 (Ct l)=l.map B0∧∀ c ∈ l,Ed (B0 c)=(c,true):=by
 obtain⟨h1,h2,h3⟩:=F4 h
 exact⟨sP (by intro e;rw[e] at h1;simp at h1),fun c hc=>Acp (h3 c hc)⟩
theorem aU{l:List Tax}(h:Dv l=true):(l=[]∧B9 l=[45])∨(B9 l≠[45]∧Aa 44 (B9 l)=l.map Gh∧∀ c ∈ l,Df (Gh c)=(c,true)):=by
 by_cases h0:l=[]
 ·subst h0;exact .inl ⟨rfl,by unfold B9;rfl⟩
 ·exact .inr ⟨sO h0,Acs h0,fun c hc=>Acr (Yt h c hc).1 (Yt h c hc).2⟩
theorem aV{s:List UInt8}{r:Request}(hm:Ah r=true)(hw:Bq r=s)(hk:kindOf ((Aa 32 s).getD 0 [])=1):Aa 32 s=[[105,115,115,117,101],r.key,Lib.itoa r.day,r.locator,Ct r.coupons,B9 r.taxes]∧r=⟨r.key,1,r.day,0,0,0,r.locator,r.coupons,r.taxes,0,0,0⟩∧(An (Lib.itoa r.day)=(r.day,true))∧(Aa 44 (Ct r.coupons)=r.coupons.map B0∧∀ c ∈ r.coupons,Ed (B0 c)=(c,true))∧((r.taxes=[]∧B9 r.taxes=[45])∨(B9 r.taxes≠[45]∧Aa 44 (B9 r.taxes)=r.taxes.map Gh∧∀ c ∈ r.taxes,Df (Gh c)=(c,true)))∧True:=by
 have k:=Gu hm hw hk
 have hc:=Hh hm
 have ho:=Hs hm
 rw[hw,Ii k] at hc
 obtain⟨hK,hD,hL,hC,hX⟩:=Ih k hm
 refine⟨hc,?_,Bz (Ef hD).1 (by have:=Ef hD;omega),Sy hC,aU hX,True.intro⟩
 refine ho.trans ?_
 unfold De;rw[k];rfl
theorem Ai5{s:List UInt8}{r:Request}(hm:Ah r=true)(hw:Bq r=s)(hk:kindOf ((Aa 32 s).getD 0 [])=2):Aa 32 s=[[109,111,118,101],r.key,Lib.itoa r.day,Ay r.ticket,Lib.itoa r.coupon,Do r.status]∧r=⟨r.key,2,r.day,r.ticket,r.coupon,r.status,[],[],[],0,0,0⟩∧(An (Lib.itoa r.day)=(r.day,true))∧(numOf (Ay r.ticket)=(r.ticket,0))∧(An (Lib.itoa r.coupon)=(r.coupon,true))∧(statOf (Do r.status)=r.status∧r.status≠0)∧True:=by
 have k:=Gu hm hw hk
 have hc:=Hh hm
 have ho:=Hs hm
 rw[hw,Ij k] at hc
 obtain⟨hK,hD,hT,hN,hS⟩:=Kp k hm
 refine⟨hc,?_,Bz (Ef hD).1 (by have:=Ef hD;omega),Gy (by unfold E7 at hT;simpa using hT),Bz (by omega) (by omega),⟨dA hS,by have:=R7.1 hS;omega⟩,True.intro⟩
 refine ho.trans ?_
 unfold De;rw[k];rfl
theorem Ai6{s:List UInt8}{r:Request}(hm:Ah r=true)(hw:Bq r=s)(hk:kindOf ((Aa 32 s).getD 0 [])=3):Aa 32 s=[[118,111,105,100],r.key,Lib.itoa r.day,Ay r.ticket]∧r=⟨r.key,3,r.day,r.ticket,0,0,[],[],[],0,0,0⟩∧(An (Lib.itoa r.day)=(r.day,true))∧(numOf (Ay r.ticket)=(r.ticket,0))∧True:=by
 have k:=Gu hm hw hk
 have hc:=Hh hm
 have ho:=Hs hm
 rw[hw,Ik k] at hc
 obtain⟨hK,hD,hT⟩:=Kq k hm
 refine⟨hc,?_,Bz (Ef hD).1 (by have:=Ef hD;omega),Gy (by unfold E7 at hT;simpa using hT),True.intro⟩
 refine ho.trans ?_
 unfold De;rw[k];rfl
theorem Ai7{s:List UInt8}{r:Request}(hm:Ah r=true)(hw:Bq r=s)(hk:kindOf ((Aa 32 s).getD 0 [])=4):Aa 32 s=[[114,101,102,117,110,100],r.key,Lib.itoa r.day,Ay r.ticket,D3 r.amount]∧r=⟨r.key,4,r.day,r.ticket,0,0,[],[],[],r.amount,0,0⟩∧(An (Lib.itoa r.day)=(r.day,true))∧(numOf (Ay r.ticket)=(r.ticket,0))∧(Di (D3 r.amount)=(r.amount,0))∧True:=by
 have k:=Gu hm hw hk
 have hc:=Hh hm
 have ho:=Hs hm
 rw[hw,Il k] at hc
 obtain⟨hK,hD,hT,hA⟩:=Kr k hm
 refine⟨hc,?_,Bz (Ef hD).1 (by have:=Ef hD;omega),Gy (by unfold E7 at hT;simpa using hT),Lj (Lh hA),True.intro⟩
 refine ho.trans ?_
 unfold De;rw[k];rfl
theorem aW{s:List UInt8}{r:Request}(hm:Ah r=true)(hw:Bq r=s)(hk:kindOf ((Aa 32 s).getD 0 [])=5):Aa 32 s=[[101,120,99,104,97,110,103,101],r.key,Lib.itoa r.day,Ay r.ticket,D3 r.amount,Ct r.coupons,B9 r.taxes]∧r=⟨r.key,5,r.day,r.ticket,0,0,[],r.coupons,r.taxes,r.amount,0,0⟩∧(An (Lib.itoa r.day)=(r.day,true))∧(numOf (Ay r.ticket)=(r.ticket,0))∧(Di (D3 r.amount)=(r.amount,0))∧(Aa 44 (Ct r.coupons)=r.coupons.map B0∧∀ c ∈ r.coupons,Ed (B0 c)=(c,true))∧((r.taxes=[]∧B9 r.taxes=[45])∨(B9 r.taxes≠[45]∧Aa 44 (B9 r.taxes)=r.taxes.map Gh∧∀ c ∈ r.taxes,Df (Gh c)=(c,true)))∧True:=by
 have k:=Gu hm hw hk
 have hc:=Hh hm
 have ho:=Hs hm
 rw[hw,Io k] at hc
 obtain⟨hK,hD,hT,hA,hC,hX⟩:=Im k hm
 refine⟨hc,?_,Bz (Ef hD).1 (by have:=Ef hD;omega),Gy (by unfold E7 at hT;simpa using hT),Lj (Lh hA),Sy hC,aU hX,True.intro⟩
 refine ho.trans ?_
 unfold De;rw[k];rfl
theorem Ai8{s:List UInt8}{r:Request}(hm:Ah r=true)(hw:Bq r=s)(hk:kindOf ((Aa 32 s).getD 0 [])=6):Aa 32 s=[[97,115,107],r.key,Lib.itoa r.day,Ay r.ticket,Lib.itoa r.coupon]∧r=⟨r.key,6,r.day,r.ticket,r.coupon,0,[],[],[],0,0,0⟩∧(An (Lib.itoa r.day)=(r.day,true))∧(numOf (Ay r.ticket)=(r.ticket,0))∧(An (Lib.itoa r.coupon)=(r.coupon,true))∧True:=by
 have k:=Gu hm hw hk
 have hc:=Hh hm
 have ho:=Hs hm
 rw[hw,Ip k] at hc
 obtain⟨hK,hD,hT,hN⟩:=Ks k hm
 refine⟨hc,?_,Bz (Ef hD).1 (by have:=Ef hD;omega),Gy (by unfold E7 at hT;simpa using hT),Bz (by omega) (by omega),True.intro⟩
 refine ho.trans ?_
 unfold De;rw[k];rfl
theorem Ai9{s:List UInt8}{r:Request}(hm:Ah r=true)(hw:Bq r=s)(hk:kindOf ((Aa 32 s).getD 0 [])=7):Aa 32 s=[[114,101,116,117,114,110],r.key,Lib.itoa r.day,Ay r.ticket,Lib.itoa r.coupon]∧r=⟨r.key,7,r.day,r.ticket,r.coupon,0,[],[],[],0,0,0⟩∧(An (Lib.itoa r.day)=(r.day,true))∧(numOf (Ay r.ticket)=(r.ticket,0))∧(An (Lib.itoa r.coupon)=(r.coupon,true))∧True:=by
 have k:=Gu hm hw hk
 have hc:=Hh hm
 have ho:=Hs hm
 rw[hw,Iq k] at hc
 obtain⟨hK,hD,hT,hN⟩:=Kt k hm
 refine⟨hc,?_,Bz (Ef hD).1 (by have:=Ef hD;omega),Gy (by unfold E7 at hT;simpa using hT),Bz (by omega) (by omega),True.intro⟩
 refine ho.trans ?_
 unfold De;rw[k];rfl
theorem Aja{s:List UInt8}{r:Request}(hm:Ah r=true)(hw:Bq r=s)(hk:kindOf ((Aa 32 s).getD 0 [])=8):Aa 32 s=[[115,104,111,119],Ay r.ticket]∧r=⟨[],8,0,r.ticket,0,0,[],[],[],0,0,0⟩∧(numOf (Ay r.ticket)=(r.ticket,0))∧True:=by
 have k:=Gu hm hw hk
 have hc:=Hh hm
 have ho:=Hs hm
 rw[hw,Ir k] at hc
 have hT:=Yr k hm
 refine⟨hc,?_,Gy (by unfold E7 at hT;simpa using hT),True.intro⟩
 refine ho.trans ?_
 unfold De;rw[k];rfl
theorem Ajb{s:List UInt8}{r:Request}(hm:Ah r=true)(hw:Bq r=s)(hk:kindOf ((Aa 32 s).getD 0 [])=9):Aa 32 s=[[102,105,110,100],r.locator]∧r=⟨[],9,0,0,0,0,r.locator,[],[],0,0,0⟩∧True:=by
 have k:=Gu hm hw hk
 have hc:=Hh hm
 have ho:=Hs hm
 rw[hw,Is k] at hc
 have hL:=Ku k hm
 refine⟨hc,?_,True.intro⟩
 refine ho.trans ?_
 unfold De;rw[k];rfl
theorem Abb{s:List UInt8}{r:Request}(hm:Ah r=true)(hw:Bq r=s)(hk:kindOf ((Aa 32 s).getD 0 [])=10):Aa 32 s=[[114,101,112,111,114,116],Lib.itoa r.frm,Lib.itoa r.til]∧r=⟨[],10,0,0,0,0,[],[],[],0,r.frm,r.til⟩∧(An (Lib.itoa r.frm)=(r.frm,true))∧(An (Lib.itoa r.til)=(r.til,true))∧True:=by
 have k:=Gu hm hw hk
 have hc:=Hh hm
 have ho:=Hs hm
 rw[hw,G6 k] at hc
 obtain⟨hF,hU⟩:=Vb k hm
 refine⟨hc,?_,Bz (Ef hF).1 (by have:=Ef hF;omega),Bz (Ef hU).1 (by have:=Ef hU;omega),True.intro⟩
 refine ho.trans ?_
 unfold De;rw[k];rfl
end
end Go.Vc.Z
