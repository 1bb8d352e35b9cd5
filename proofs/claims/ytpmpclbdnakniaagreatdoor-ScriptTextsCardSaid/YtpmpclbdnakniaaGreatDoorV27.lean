/- How strconv.Atoi, and what it calls, lie in this program (printed by the kit's tool). -/
import Derived.Test.YtpmpclbdnakniaaGreatDoorV9
import Derived.Test.YtpmpclbdnakniaaGreatDoorV11
import Derived.Test.YtpmpclbdnakniaaGreatDoorV17
import Derived.Test.YtpmpclbdnakniaaGreatDoorV18
import Derived.Ground.NamesProg
import Derived.Shelf.LaysC
import Derived.Shelf.Strconv.AtoiAll
import Derived.Shelf.Strings.Search3
import Derived.Shelf.Strings.Cut
import Derived.Shelf.Strings.Split
set_option linter.all false
set_option maxHeartbeats 8000000
namespace Go.Proofs
open Go.Shelf Go.RowKit
set_option maxRecDepth 1000000
def Tryz.lays172_ren:Go.Shelf.Ren:=⟨fun|172=>179|244=>245|245=>246|247=>287|279=>288|280=>289|281=>290|282=>291|287=>309|316=>310|171=>111|205=>311|321=>317|322=>318|243=>189|246=>190|283=>203|284=>204|285=>205|286=>206|129=>267|317=>266|318=>268|319=>269|320=>270|337=>301|338=>302|n=>n,fun|9=>9|3=>3|75=>154|76=>155|4=>4|5=>5|167=>296|37=>150|0=>0|85=>297|2=>2|168=>299|53=>37|175=>312|46=>284|210=>316|127=>221|145=>337|143=>335|21=>21|171=>233|173=>235|212=>281|51=>282|20=>20|213=>283|232=>323|233=>324|80=>162|n=>n,fun|15=>2|16=>3|17=>0|18=>4|19=>5|n=>n⟩
theorem Tryz.lays172:Go.Proofs.LaysC.n172 Tryz.prog Tryz.lays172_ren:={
 mixed:=by kernel_rfl
 f129:=Tryz.func267.trans (congrArg some (by kernel_rfl))
 f171:=Tryz.func111.trans (congrArg some (by kernel_rfl))
 f172:=Tryz.func179.trans (congrArg some (by kernel_rfl))
 f205:=Tryz.func311.trans (congrArg some (by kernel_rfl))
 f243:=Tryz.func189.trans (congrArg some (by kernel_rfl))
 f244:=Tryz.func245.trans (congrArg some (by kernel_rfl))
 f245:=Tryz.func246.trans (congrArg some (by kernel_rfl))
 f246:=Tryz.func190.trans (congrArg some (by kernel_rfl))
 f247:=Tryz.func287.trans (congrArg some (by kernel_rfl))
 f279:=Tryz.func288.trans (congrArg some (by kernel_rfl))
 f280:=Tryz.func289.trans (congrArg some (by kernel_rfl))
 f281:=Tryz.func290.trans (congrArg some (by kernel_rfl))
 f282:=Tryz.func291.trans (congrArg some (by kernel_rfl))
 f283:=Tryz.func203.trans (congrArg some (by kernel_rfl))
 f284:=Tryz.func204.trans (congrArg some (by kernel_rfl))
 f285:=Tryz.func205.trans (congrArg some (by kernel_rfl))
 f286:=Tryz.func206.trans (congrArg some (by kernel_rfl))
 f287:=Tryz.func309.trans (congrArg some (by kernel_rfl))
 f316:=Tryz.func310.trans (congrArg some (by kernel_rfl))
 f317:=Tryz.func266.trans (congrArg some (by kernel_rfl))
 f318:=Tryz.func268.trans (congrArg some (by kernel_rfl))
 f319:=Tryz.func269.trans (congrArg some (by kernel_rfl))
 f320:=Tryz.func270.trans (congrArg some (by kernel_rfl))
 f321:=Tryz.func317.trans (congrArg some (by kernel_rfl))
 f322:=Tryz.func318.trans (congrArg some (by kernel_rfl))
 f337:=Tryz.func301.trans (congrArg some (by kernel_rfl))
 f338:=Tryz.func302.trans (congrArg some (by kernel_rfl))
 t0:=Tryz.underlying0
 a0:=Tryz.isAgg0
 z0:=Tryz.sizeOf0
 v0:=Tryz.zeroValue0
 t2:=Tryz.underlying2
 a2:=Tryz.isAgg2
 z2:=Tryz.sizeOf2
 v2:=Tryz.zeroValue2
 t3:=Tryz.underlying3
 a3:=Tryz.isAgg3
 z3:=Tryz.sizeOf3
 v3:=Tryz.zeroValue3
 t4:=Tryz.underlying4
 a4:=Tryz.isAgg4
 z4:=Tryz.sizeOf4
 v4:=Tryz.zeroValue4
 t5:=Tryz.underlying5
 a5:=Tryz.isAgg5
 z5:=Tryz.sizeOf5
 v5:=Tryz.zeroValue5
 t9:=Tryz.underlying9
 a9:=Tryz.isAgg9
 z9:=Tryz.sizeOf9
 v9:=Tryz.zeroValue9
 t20:=Tryz.underlying20
 a20:=Tryz.isAgg20
 z20:=Tryz.sizeOf20
 v20:=Tryz.zeroValue20
 t21:=Tryz.underlying21
 a21:=Tryz.isAgg21
 z21:=Tryz.sizeOf21
 v21:=Tryz.zeroValue21
 t37:=Tryz.underlying150
 a37:=Tryz.isAgg150
 z37:=Tryz.sizeOf150
 v37:=Tryz.zeroValue150
 t46:=Tryz.underlying284
 a46:=Tryz.isAgg284
 z46:=Tryz.sizeOf284
 v46:=Tryz.zeroValue284
 t51:=Tryz.underlying282
 a51:=Tryz.isAgg282
 z51:=Tryz.sizeOf282
 v51:=Tryz.zeroValue282
 t53:=Tryz.underlying37
 a53:=Tryz.isAgg37
 z53:=Tryz.sizeOf37
 v53:=Tryz.zeroValue37
 t75:=Tryz.underlying154
 a75:=Tryz.isAgg154
 z75:=Tryz.sizeOf154
 v75:=Tryz.zeroValue154
 t76:=Tryz.underlying155
 a76:=Tryz.isAgg155
 z76:=Tryz.sizeOf155
 v76:=Tryz.zeroValue155
 t85:=Tryz.underlying297
 a85:=Tryz.isAgg297
 z85:=Tryz.sizeOf297
 v85:=Tryz.zeroValue297
 t127:=Tryz.underlying221
 a127:=Tryz.isAgg221
 z127:=Tryz.sizeOf221
 v127:=Tryz.zeroValue221
 t143:=Tryz.underlying335
 a143:=Tryz.isAgg335
 z143:=Tryz.sizeOf335
 v143:=Tryz.zeroValue335
 t145:=Tryz.underlying337
 a145:=Tryz.isAgg337
 z145:=Tryz.sizeOf337
 v145:=Tryz.zeroValue337
 t167:=Tryz.underlying296
 a167:=Tryz.isAgg296
 z167:=Tryz.sizeOf296
 v167:=Tryz.zeroValue296
 t168:=Tryz.underlying299
 a168:=Tryz.isAgg299
 z168:=Tryz.sizeOf299
 v168:=Tryz.zeroValue299
 t171:=Tryz.underlying233
 a171:=Tryz.isAgg233
 z171:=Tryz.sizeOf233
 v171:=Tryz.zeroValue233
 t173:=Tryz.underlying235
 a173:=Tryz.isAgg235
 z173:=Tryz.sizeOf235
 v173:=Tryz.zeroValue235
 t175:=Tryz.underlying312
 a175:=Tryz.isAgg312
 z175:=Tryz.sizeOf312
 v175:=Tryz.zeroValue312
 t210:=Tryz.underlying316
 a210:=Tryz.isAgg316
 z210:=Tryz.sizeOf316
 v210:=Tryz.zeroValue316
 t212:=Tryz.underlying281
 a212:=Tryz.isAgg281
 z212:=Tryz.sizeOf281
 v212:=Tryz.zeroValue281
 t213:=Tryz.underlying283
 a213:=Tryz.isAgg283
 z213:=Tryz.sizeOf283
 t232:=Tryz.underlying323
 a232:=Tryz.isAgg323
 z232:=Tryz.sizeOf323
 v232:=Tryz.zeroValue323
 t233:=Tryz.underlying324
 a233:=Tryz.isAgg324
 z233:=Tryz.sizeOf324
 v233:=Tryz.zeroValue324
 g15:=by kernel_rfl
 g16:=by kernel_rfl
 g17:=by kernel_rfl
 g18:=by kernel_rfl
 g19:=by kernel_rfl
 t80:=Tryz.underlying162
 a80:=Tryz.isAgg162
 z80:=Tryz.sizeOf162
 v80:=Tryz.zeroValue162
 i0:=by kernel_rfl
 i2:=by kernel_rfl
 i3:=by kernel_rfl
 i4:=by kernel_rfl
 i5:=by kernel_rfl
 i9:=by kernel_rfl
 i20:=by kernel_rfl
 i21:=by kernel_rfl
 i37:=by kernel_rfl
 i46:=by kernel_rfl
 i51:=by kernel_rfl
 i53:=by kernel_rfl
 i75:=by kernel_rfl
 i76:=by kernel_rfl
 i80:=by kernel_rfl
 i85:=by kernel_rfl
 i127:=by kernel_rfl
 i143:=by kernel_rfl
 i145:=by kernel_rfl
 i167:=by kernel_rfl
 i168:=by kernel_rfl
 i171:=by kernel_rfl
 i173:=by kernel_rfl
 i175:=by kernel_rfl
 i210:=by kernel_rfl
 i212:=by kernel_rfl
 i232:=by kernel_rfl
 i233:=by kernel_rfl
 m15:=by kernel_rfl
 m16:=by kernel_rfl
 m17:=by kernel_rfl
 m18:=by kernel_rfl
 m19:=by kernel_rfl
 c0:=by kernel_rfl
 c2:=by kernel_rfl
 c3:=by kernel_rfl
 c4:=by kernel_rfl
 c5:=by kernel_rfl
 c9:=by kernel_rfl
 c20:=by kernel_rfl
 c21:=by kernel_rfl
 c37:=by kernel_rfl
 c46:=by kernel_rfl
 c51:=by kernel_rfl
 c53:=by kernel_rfl
 c75:=by kernel_rfl
 c76:=by kernel_rfl
 c80:=by kernel_rfl
 c85:=by kernel_rfl
 c127:=by kernel_rfl
 c143:=by kernel_rfl
 c145:=by kernel_rfl
 c167:=by kernel_rfl
 c168:=by kernel_rfl
 c171:=by kernel_rfl
 c173:=by kernel_rfl
 c175:=by kernel_rfl
 c210:=by kernel_rfl
 c212:=by kernel_rfl
 c213:=by kernel_rfl
 c232:=by kernel_rfl
 c233:=by kernel_rfl }
end Go.Proofs
namespace Go.Proofs
open Go.Shelf Go.RowKit
set_option maxRecDepth 1000000
def Tryz.lays143_ren:Go.Shelf.Ren:=⟨fun|143=>220|219=>243|217=>283|225=>284|224=>285|267=>286|266=>307|314=>308|n=>n,fun|9=>9|3=>3|4=>4|5=>5|46=>284|146=>310|51=>282|n=>n,fun|1=>1|n=>n⟩
theorem Tryz.lays143:Go.Proofs.Lays.n143 Tryz.prog Tryz.lays143_ren:={
 mixed:=by kernel_rfl
 f143:=Tryz.func220.trans (congrArg some (by kernel_rfl))
 f217:=Tryz.func283.trans (congrArg some (by kernel_rfl))
 f219:=Tryz.func243.trans (congrArg some (by kernel_rfl))
 f224:=Tryz.func285.trans (congrArg some (by kernel_rfl))
 f225:=Tryz.func284.trans (congrArg some (by kernel_rfl))
 f266:=Tryz.func307.trans (congrArg some (by kernel_rfl))
 f267:=Tryz.func286.trans (congrArg some (by kernel_rfl))
 f314:=Tryz.func308.trans (congrArg some (by kernel_rfl))
 t3:=Tryz.underlying3
 a3:=Tryz.isAgg3
 z3:=Tryz.sizeOf3
 v3:=Tryz.zeroValue3
 t4:=Tryz.underlying4
 a4:=Tryz.isAgg4
 z4:=Tryz.sizeOf4
 v4:=Tryz.zeroValue4
 t5:=Tryz.underlying5
 a5:=Tryz.isAgg5
 z5:=Tryz.sizeOf5
 v5:=Tryz.zeroValue5
 t9:=Tryz.underlying9
 a9:=Tryz.isAgg9
 z9:=Tryz.sizeOf9
 v9:=Tryz.zeroValue9
 t46:=Tryz.underlying284
 a46:=Tryz.isAgg284
 z46:=Tryz.sizeOf284
 v46:=Tryz.zeroValue284
 t51:=Tryz.underlying282
 a51:=Tryz.isAgg282
 z51:=Tryz.sizeOf282
 v51:=Tryz.zeroValue282
 t146:=Tryz.underlying310
 a146:=Tryz.isAgg310
 z146:=Tryz.sizeOf310
 v146:=Tryz.zeroValue310
 g1:=by kernel_rfl }
def Tryz.lays145_ren:Go.Shelf.Ren:=⟨fun|145=>94|220=>177|219=>243|217=>283|225=>284|224=>285|267=>286|266=>307|314=>308|n=>n,fun|9=>9|4=>4|59=>143|3=>3|5=>5|46=>284|146=>310|51=>282|n=>n,fun|1=>1|n=>n⟩
theorem Tryz.lays145:Go.Proofs.Lays.n145 Tryz.prog Tryz.lays145_ren:={
 mixed:=by kernel_rfl
 f145:=Tryz.func94.trans (congrArg some (by kernel_rfl))
 f217:=Tryz.func283.trans (congrArg some (by kernel_rfl))
 f219:=Tryz.func243.trans (congrArg some (by kernel_rfl))
 f220:=Tryz.func177.trans (congrArg some (by kernel_rfl))
 f224:=Tryz.func285.trans (congrArg some (by kernel_rfl))
 f225:=Tryz.func284.trans (congrArg some (by kernel_rfl))
 f266:=Tryz.func307.trans (congrArg some (by kernel_rfl))
 f267:=Tryz.func286.trans (congrArg some (by kernel_rfl))
 f314:=Tryz.func308.trans (congrArg some (by kernel_rfl))
 t3:=Tryz.underlying3
 a3:=Tryz.isAgg3
 z3:=Tryz.sizeOf3
 v3:=Tryz.zeroValue3
 t4:=Tryz.underlying4
 a4:=Tryz.isAgg4
 z4:=Tryz.sizeOf4
 v4:=Tryz.zeroValue4
 t5:=Tryz.underlying5
 a5:=Tryz.isAgg5
 z5:=Tryz.sizeOf5
 v5:=Tryz.zeroValue5
 t9:=Tryz.underlying9
 a9:=Tryz.isAgg9
 z9:=Tryz.sizeOf9
 v9:=Tryz.zeroValue9
 t46:=Tryz.underlying284
 a46:=Tryz.isAgg284
 z46:=Tryz.sizeOf284
 v46:=Tryz.zeroValue284
 t51:=Tryz.underlying282
 a51:=Tryz.isAgg282
 z51:=Tryz.sizeOf282
 v51:=Tryz.zeroValue282
 t59:=Tryz.underlying143
 a59:=Tryz.isAgg143
 z59:=Tryz.sizeOf143
 v59:=Tryz.zeroValue143
 t146:=Tryz.underlying310
 a146:=Tryz.isAgg310
 z146:=Tryz.sizeOf310
 v146:=Tryz.zeroValue310
 g1:=by kernel_rfl }
def Tryz.lays146_ren:Go.Shelf.Ren:=⟨fun|146=>78|221=>168|268=>236|138=>237|143=>220|195=>280|197=>281|218=>282|219=>243|260=>306|217=>283|225=>284|224=>285|267=>286|266=>307|314=>308|n=>n,fun|9=>9|31=>32|3=>3|4=>4|0=>0|105=>293|21=>21|5=>5|46=>284|119=>330|139=>333|138=>332|146=>310|51=>282|n=>n,fun|1=>1|3=>6|4=>7|n=>n⟩
theorem Tryz.lays146:Go.Proofs.Lays.n146 Tryz.prog Tryz.lays146_ren:={
 mixed:=by kernel_rfl
 f138:=Tryz.func237.trans (congrArg some (by kernel_rfl))
 f143:=Tryz.func220.trans (congrArg some (by kernel_rfl))
 f146:=Tryz.func78.trans (congrArg some (by kernel_rfl))
 f195:=Tryz.func280.trans (congrArg some (by kernel_rfl))
 f197:=Tryz.func281.trans (congrArg some (by kernel_rfl))
 f217:=Tryz.func283.trans (congrArg some (by kernel_rfl))
 f218:=Tryz.func282.trans (congrArg some (by kernel_rfl))
 f219:=Tryz.func243.trans (congrArg some (by kernel_rfl))
 f221:=Tryz.func168.trans (congrArg some (by kernel_rfl))
 f224:=Tryz.func285.trans (congrArg some (by kernel_rfl))
 f225:=Tryz.func284.trans (congrArg some (by kernel_rfl))
 f260:=Tryz.func306.trans (congrArg some (by kernel_rfl))
 f266:=Tryz.func307.trans (congrArg some (by kernel_rfl))
 f267:=Tryz.func286.trans (congrArg some (by kernel_rfl))
 f268:=Tryz.func236.trans (congrArg some (by kernel_rfl))
 f314:=Tryz.func308.trans (congrArg some (by kernel_rfl))
 t0:=Tryz.underlying0
 a0:=Tryz.isAgg0
 z0:=Tryz.sizeOf0
 v0:=Tryz.zeroValue0
 t3:=Tryz.underlying3
 a3:=Tryz.isAgg3
 z3:=Tryz.sizeOf3
 v3:=Tryz.zeroValue3
 t4:=Tryz.underlying4
 a4:=Tryz.isAgg4
 z4:=Tryz.sizeOf4
 v4:=Tryz.zeroValue4
 t5:=Tryz.underlying5
 a5:=Tryz.isAgg5
 z5:=Tryz.sizeOf5
 v5:=Tryz.zeroValue5
 t9:=Tryz.underlying9
 a9:=Tryz.isAgg9
 z9:=Tryz.sizeOf9
 v9:=Tryz.zeroValue9
 t21:=Tryz.underlying21
 a21:=Tryz.isAgg21
 z21:=Tryz.sizeOf21
 v21:=Tryz.zeroValue21
 t31:=Tryz.underlying32
 a31:=Tryz.isAgg32
 z31:=Tryz.sizeOf32
 v31:=Tryz.zeroValue32
 t46:=Tryz.underlying284
 a46:=Tryz.isAgg284
 z46:=Tryz.sizeOf284
 v46:=Tryz.zeroValue284
 t51:=Tryz.underlying282
 a51:=Tryz.isAgg282
 z51:=Tryz.sizeOf282
 v51:=Tryz.zeroValue282
 t105:=Tryz.underlying293
 a105:=Tryz.isAgg293
 z105:=Tryz.sizeOf293
 v105:=Tryz.zeroValue293
 t119:=Tryz.underlying330
 a119:=Tryz.isAgg330
 z119:=Tryz.sizeOf330
 t138:=Tryz.underlying332
 a138:=Tryz.isAgg332
 z138:=Tryz.sizeOf332
 v138:=Tryz.zeroValue332
 t139:=Tryz.underlying333
 a139:=Tryz.isAgg333
 z139:=Tryz.sizeOf333
 v139:=Tryz.zeroValue333
 t146:=Tryz.underlying310
 a146:=Tryz.isAgg310
 z146:=Tryz.sizeOf310
 v146:=Tryz.zeroValue310
 g1:=by kernel_rfl
 g3:=by kernel_rfl
 g4:=by kernel_rfl }
end Go.Proofs
namespace Go.Vc
open Go Go.Proofs Go.RowKit Go.Sort Go.Pl
theorem fP{F:Nat→Obj→Prop}{P:Program}{f:FuncId}{α:Type}{args:α→List AV}{pre:α→Prop}{res:α→AV}(hu:∀ x,Fa 0 (args x)=true)
  (h:∀ x S w vs,pre x→Az (args x)→Sok F S w→VL (fun _=>none) S w (args x) vs→Calls P f vs w fun e w'=>∃ v S',e= .returned v∧V (fun _=>none) S' w' (res x) v∧Below w.heap.size w w'∧(∀ b,S b→S' b)∧(∀ b,S' b→S b∨w.heap.size≤b)∧∀ b,S' b→b<w'.heap.size):GoodP F P f (PC.of args pre res):=by
 intro S w cs vs Q hs hv hpre;obtain⟨x,h1,h2,h3⟩:=hpre;have hl:=Kv h2;have hv':VL (fun _=>none) S w (args x) vs:=by
  refine⟨by rw[←hl];exact hv.1,fun i c v hc hv'=>?_⟩
  have hi:i<cs.length:=by
   rcases Nat.lt_or_ge i (args x).length with h'|h'
   ·omega
   ·rw[List.getElem?_eq_none h'] at hc;cases hc
  exact(hv.2 i cs[i] v (List.getElem?_eq_getElem hi) hv').le (σ:=fun i=>i) (n:=0) (fun i b hi=>by omega) (Sa h2 i _ _ (List.getElem?_eq_getElem hi) hc) (Dh (hu x) i c hc)
 refine(h x S w vs h1 hv'.fact hs hv').mono ?_;rintro e w' ⟨v,S',rfl,hV,hb,g1,g2,g3⟩;have hE:Ext (fun _=>none) S w (fun _=>none) S' w':=⟨fun _ _ h=>(by cases h),g1,fun b hb' _=>hb.block b hb',hb.size,fun b arr T fr hb'=>⟨arr,fr,(hb.block b (lt_of_some hb')).trans hb',rfl⟩,fun _ _ h=>(by cases h),fun b h=>(g2 b h).elim .inl (fun h=>.inr (.inr h)),hb.os,hb.tape,hb.output⟩
 exact⟨v,res x,S',rfl,h3,hV,hE,hs.ext hE g3⟩
theorem fQ(w:World)(o:Obj):Below w.heap.size w (w.alloc o):=by
 refine⟨rfl,rfl,rfl,?_,fun b hb=>?_⟩
 ·show w.heap.size≤(w.heap.push o).size;simp
 ·show(w.heap.push o)[b]? =_;rw[Array.getElem?_push,if_neg (by omega)]
theorem Acv{S:Nat→Prop}{w:World}{a b:AV}{vs:Array Value}(h:VL (fun _=>none) S w [a,b] vs):∃ x y,vs=#[x,y]∧V (fun _=>none) S w a x∧V (fun _=>none) S w b y:=by
 obtain⟨vs⟩:=vs;match vs,h with
 |[x,y],h=>exact⟨x,y,rfl,h.2 0 _ _ rfl rfl,h.2 1 _ _ rfl rfl⟩
 |[],h=>simp[VL] at h
 |[_],h=>simp[VL] at h
 |_::_::_::_,h=>have:=h.1;simp at this
theorem V.texts{S:Nat→Prop}{w:World}{l:List ByteArray}{T:TypeId}(hs:∀ b,S b→b<w.heap.size)(hl:l.length≤maxLen)(hx:∀ x ∈ l,x.data.toList.length≤maxLen):
  V (fun _=>none) (fun b=>S b∨b=w.heap.size) (w.alloc (.cells (l.map Value.string).toArray T)) (slS (l.map (·.data.toList))) (.slice (some ⟨w.heap.size,0,none⟩) l.length l.length):=by
 have e:(l.map (·.data.toList)).length=l.length:=by simp
 unfold V slS;rw[e];refine .sl false 1 l.length _ w.heap.size 0 l.length (fun e _=>.string (l.getD e ByteArray.empty)) (fun _=>⟨.inr rfl,?_⟩) (Nat.le_refl _) hl (fun h=>by cases h) (fun e he=>rfl) (fun e j he hj=>?_) (fun e j c he hc=>?_)
 ·show w.heap.size<(w.heap.push _).size;simp
 ·have hj0:j=0:=by omega
  subst hj0;simp only[World.cell?,Cu];simp[he,List.getD_eq_getElem?_getD]
 ·have hj0:j=0:=by
   cases j with
   |zero=>rfl
   |succ j=>simp at hc
  subst hj0;simp only[List.getElem?_cons_zero,Option.some.injEq] at hc;subst hc;refine .str _ _ ?_ ?_
  ·simp[he,List.getD_eq_getElem?_getD]
  ·simp only[List.getD_eq_getElem?_getD,List.getElem?_map,List.getElem?_eq_getElem he,Option.map_some,Option.getD_some];exact hx _ (List.getElem_mem he)
theorem aK{W:World}(hW:Tabs W){S:Nat→Prop}{w:World}(hs:Sok (Fw W) S w):∃ m,w.cell? ⟨1,0,none⟩=some (.int .i64 m):=by
 obtain⟨m,hm⟩:∃ m,W.cell? ⟨1,0,none⟩=some (.int .i64 m):=cell_of_shapedOpen_int (zero:=#[.int .i64 0]) (t:=3) hW.2 (of_decide_eq_true (by kernel_rfl)) (by kernel_rfl) rfl (by kernel_rfl) (by kernel_rfl) Tryz.underlying3
 exact⟨m,Fw.cell hs hm⟩
theorem Ou(s:ByteArray){l:List UInt8}(h:s.data.toList=l):s.size=l.length:=by rw[←h,Array.length_toList];rfl
namespace Z
noncomputable section
def Arf:PC:=PC.of (fun x:List UInt8 × UInt8=>[.str x.1,.str [x.2]]) (fun x=>x.1.length≤100000000) (fun x=>slS (sL (Aa x.2 x.1)))
theorem Aju{W:World}(hW:Tabs W):GoodP (Fw W) Tryz.prog 78 Arf:=by
 refine fP (fun _=>rfl) ?_;rintro⟨s,c⟩ S w vs hpre hf hs hv;simp only at hpre hv ⊢;obtain⟨x,y,rfl,hx,hy⟩:=Acv hv;obtain⟨sx,rfl,h1,h2⟩:=V.strR' hx;obtain⟨sy,rfl,h3,h4⟩:=V.strR' hy;obtain⟨m,hm⟩:=aK hW hs;have e1:=Ou sx h1;have e2:sy.size=1:=Ou sy h3;have hd:(Lib.splitB sy 0 (Lib.countB sx sy) sx).map (·.data.toList)=Aa c s:=by
  rw[Lib.splitB_data,←uF];unfold Lib.split Lib.countB;rw[h1,h3]
 have hlen:(Lib.splitB sy 0 (Lib.countB sx sy) sx).length=Lib.countB sx sy+1:=by
  have a1:(Lib.splitB sy 0 (Lib.countB sx sy) sx).length=(Aa c s).length:=by rw[←hd];simp
  have a2:Lib.countB sx sy=s.count c:=by
   have:∀ t:List UInt8,Lib.count t [c]=t.count c:=fun t=>by
    refine Ym (c:=c) (P:=fun t=>Lib.count t [c]=t.count c) (fun t h=>?_) (fun a b ha ih=>?_) t.length t (Nat.le_refl _)
    ·rw[Lib.count_miss (Ss h),List.count_eq_zero_of_not_mem h]
    ·rw[Lib.count_hit (by simp) (Nh ha b)]
     have hd:(a++c::b).drop (a.length+[c].length)=b:=(by simp);rw[hd,ih,List.count_append,List.count_cons_self,List.count_eq_zero_of_not_mem ha];omega
   unfold Lib.countB;rw[h1,h3,this]
  rw[a1,U1,a2]
 refine(Any.strings_Split Tryz.lays146 (by kernel_rfl) sx sy m w (by omega) hm (by omega)).mono ?_
 rintro e w' ⟨rfl,rfl⟩;have hc:=Gw c s;have hcl:(Aa c s).length=Lib.countB sx sy+1:=by rw[←hd,List.length_map,hlen]
 have hV:=V.texts (S:=S) (w:=w) (l:=Lib.splitB sy 0 (Lib.countB sx sy) sx) (T:=9) hs.lt (by rw[hlen,Ch];omega) (fun x hx=>by
  have:x.data.toList ∈ Aa c s:=by rw[←hd];exact List.mem_map_of_mem hx
  have:=(Ri s _ this).1;rw[Ch];omega)
 rw[hd,hlen] at hV;refine⟨_,fun b=>S b∨b=w.heap.size,rfl,?_,fQ _ _,fun b h=>.inl h,fun b h=>?_,fun b h=>?_⟩
 ·rw[Ck];exact hV
 ·rcases h with h|h
  ·exact .inl h
  ·exact .inr (Nat.le_of_eq h.symm)
 ·have hsz:(w.alloc (.cells ((Lib.splitB sy 0 (Lib.countB sx sy) sx).map Value.string).toArray 9)).heap.size=w.heap.size+1:=by
   show(w.heap.push _).size=_;simp
  show b<(w.alloc (.cells ((Lib.splitB sy 0 (Lib.countB sx sy) sx).map Value.string).toArray 9)).heap.size;rw[hsz];rcases h with h|h
  ·have:=hs.lt b h;omega
  ·omega
def Auz:PC:=PC.of (fun x:List UInt8 × UInt8=>[.str x.1,.str [x.2]]) (fun x=>x.1.length≤100000000) (fun x=>.tup [.str (sS (Bp x.2 x.1).1),.str (sS (Bp x.2 x.1).2.1),.bool (sB (Bp x.2 x.1).2.2)])
theorem below_drewN(w:World)(n:Nat):Below w.heap.size w (w.drewN n):=⟨rfl,rfl,rfl,Nat.le_refl _,fun _ _=>rfl⟩
theorem An7{W:World}(hW:Tabs W):GoodP (Fw W) Tryz.prog 94 Auz:=by
 refine Lx (fun _=>rfl) (fun _=>rfl) ?_;rintro⟨s,c⟩ S w vs hpre hf hs hv;simp only at hpre hv ⊢;obtain⟨x,y,rfl,hx,hy⟩:=Acv hv;obtain⟨sx,rfl,h1,h2⟩:=V.strR' hx;obtain⟨sy,rfl,h3,h4⟩:=V.strR' hy;obtain⟨m,hm⟩:=aK hW hs;have e1:=Ou sx h1;refine(Any.strings_Cut Tryz.lays145 sx sy m w (by omega) hm).mono ?_
 rintro e w' ⟨rfl,n,rfl⟩;refine⟨_,rfl,fun S' w'=>?_,below_drewN w n⟩;have hle:=Wg c s;rw[Cn,Cn,Bt,h1,h3];refine .tup _ _ rfl fun i c' v hc hv=>?_;match i,hc,hv with
 |0,hc,hv=>cases hc;cases hv;exact .str _ _ rfl (by rw[Ch];omega)
 |1,hc,hv=>cases hc;cases hv;exact .str _ _ rfl (by rw[Ch];omega)
 |2,hc,hv=>cases hc;cases hv;exact .bool _
 |i+3,hc,hv=>simp at hc
def Acw:PC:=PC.fun fun|[.str s,.str [c]]=>some (s.length≤100000000,slS (sL (Aa c s)))|_=>none
theorem An8{W:World}(hW:Tabs W):GoodP (Fw W) Tryz.prog 78 Acw:=by
 intro S w cs vs Q hs hv hT;refine Aju hW S w cs vs Q hs hv ?_;simp only[Acw,PC.fun] at hT;split at hT
 ·rename_i p r hf;split at hf
  ·cases hf;rename_i s c;exact⟨(s,c),hT.1,⟨⟨rfl,⟨rfl,trivial⟩⟩,hT.2⟩⟩
  ·cases hf
 ·exact hT.elim
def cZ:PC:=PC.fun fun|[.str s,.str [c]]=>some (s.length≤100000000,.tup [.str (sS (Bp c s).1),.str (sS (Bp c s).2.1),.bool (sB (Bp c s).2.2)])|_=>none
theorem aL{W:World}(hW:Tabs W):GoodP (Fw W) Tryz.prog 94 cZ:=by
 intro S w cs vs Q hs hv hT;refine An7 hW S w cs vs Q hs hv ?_;simp only[cZ,PC.fun] at hT;split at hT
 ·rename_i p r hf;split at hf
  ·cases hf;rename_i s c;exact⟨(s,c),hT.1,⟨⟨rfl,⟨rfl,trivial⟩⟩,hT.2⟩⟩
  ·cases hf
 ·exact hT.elim
def Acx:PC:=PC.fun fun|[.str s,.str t]=>some (s.length≤100000000,.int .i64 (sI (Lib.index s t)))|_=>none
theorem An9{W:World}(hW:Tabs W):GoodP (Fw W) Tryz.prog 220 Acx:=by
 have h:GoodP (Fw W) Tryz.prog 220 (PC.of (fun x:List UInt8 × List UInt8=>[.str x.1,.str x.2]) (fun x=>x.1.length≤100000000) (fun x=>.int .i64 (Lib.index x.1 x.2))):=by
  refine Lx (fun _=>rfl) (fun _=>rfl) ?_;rintro⟨s,t⟩ S w vs hpre hf hs hv;simp only at hpre hv ⊢;obtain⟨x,y,rfl,hx,hy⟩:=Acv hv;obtain⟨sx,rfl,h1,h2⟩:=V.strR' hx;obtain⟨sy,rfl,h3,h4⟩:=V.strR' hy;obtain⟨m,hm⟩:=aK hW hs;have e1:=Ou sx h1;refine(Any.strings_Index Tryz.lays143 sx sy m w (by omega) hm).mono ?_
  rintro e w' ⟨rfl,rfl⟩;refine⟨_,rfl,fun S' w'=>?_,Below.refl _ _⟩;rw[h1,h3];have g1:=Lib.index_ge s t;have g2:=Lib.index_le s t;exact .int _ _ (by have:IntKind.min .i64= -9223372036854775808:=rfl;omega) (by have:IntKind.max .i64=9223372036854775807:=rfl;omega)
 intro S w cs vs Q hs hv hT;refine h S w cs vs Q hs hv ?_;simp only[Acx,PC.fun] at hT;split at hT
 ·rename_i p r hf;split at hf
  ·cases hf;rename_i s t;rw[De] at hT;exact⟨(s,t),hT.1,⟨⟨rfl,⟨rfl,trivial⟩⟩,hT.2⟩⟩
  ·cases hf
 ·exact hT.elim
end
end Z
end Go.Vc
namespace Go.Vc
open Go Go.Proofs Go.RowKit Go.Pl
theorem A02{S:Nat→Prop}{w:World}{a:AV}{vs:Array Value}(h:VL (fun _=>none) S w [a] vs):∃ x,vs=#[x]∧V (fun _=>none) S w a x:=by
 obtain⟨vs⟩:=vs;match vs,h with
 |[x],h=>exact⟨x,rfl,h.2 0 _ _ rfl rfl⟩
 |[],h=>simp[VL] at h
 |_::_::_,h=>have:=h.1;simp at this
namespace Z
noncomputable section
@[irreducible] def Dg(s:List UInt8):Int:=match Lib.atoiAll s with
 | .ok v=>v
 | .range=>Lib.atoiSat s
 |_=>0
def A8q(W:World):Prop:=(∃ ev,W.cell? ⟨2,0,none⟩=some ev∧(ev= .nilIface∨∃ te pe,ev= .iface te pe))∧(∃ ev,W.cell? ⟨3,0,none⟩=some ev∧(ev= .nilIface∨∃ te pe,ev= .iface te pe))
def Gd(W:World):Prop:=Tabs W∧A8q W
theorem Arh{W:World}(hW:Gd W){S:Nat→Prop}{w:World}(hs:Sok (Fw W) S w):(∃ ev,w.cell? ⟨2,0,none⟩=some ev∧(ev= .nilIface∨∃ te pe,ev= .iface te pe))∧(∃ ev,w.cell? ⟨3,0,none⟩=some ev∧(ev= .nilIface∨∃ te pe,ev= .iface te pe)):=by
 obtain⟨⟨m,hm,h1⟩,⟨n,hn,h2⟩⟩:=hW.2;exact⟨⟨m,Fw.cell hs hm,h1⟩,⟨n,Fw.cell hs hn,h2⟩⟩
theorem Ajv{ρ:Nat→Option Nat}{S:Nat→Prop}{w:World}{n:Int}{x:Value}(h: -9223372036854775808≤n∧n≤9223372036854775807):V ρ S w (.tup [.int .i64 (sI n),.any]) (.tuple #[.int .i64 n,x]):=by
 rw[De];refine .tup _ _ rfl fun i c' v hc hv=>?_;match i,hc,hv with
 |0,hc,hv=>cases hc;cases hv;exact .int _ _ h.1 h.2
 |1,hc,hv=>cases hc;cases hv;exact .any _
 |i+2,hc,hv=>simp at hc
def Au0:PC:=PC.of (fun s:List UInt8=>[.str s]) (fun s=>s.length≤100000000) (fun s=>.tup [.int .i64 (sI (Dg s)),.any])
theorem Aoa{W:World}(hW:Gd W):GoodP (Fw W) Tryz.prog 179 Au0:=by
 refine Lx (fun _=>rfl) (fun _=>rfl) ?_;intro s S w vs hpre hf hs hv;change s.length≤100000000 at hpre;obtain⟨x,rfl,hx⟩:=A02 (a:=.str s) hv;obtain⟨sx,rfl,h1,h2⟩:=V.strR' hx;obtain⟨⟨e1,c1,d1⟩,⟨e2,c2,d2⟩⟩:=Arh hW hs;have hz:=Ou sx h1;cases ha:Lib.atoiAll s
 ·rename_i v;have hv:Dg s=v:=by unfold Dg;rw[ha]
  refine(Any.strconv_Atoi_ok Tryz.lays172 sx (by omega) v (by rw[h1];exact ha) w).mono ?_
  rintro e w' ⟨rfl,hw⟩;refine⟨_,rfl,fun S' w'=>by rw[hv];exact Ajv (Lib.atoiAll_bounds ha),?_⟩
  rcases hw with rfl|⟨t,rfl⟩
  ·exact Below.refl _ _
  ·exact Lib.bytesWorld_below _ _ _
 ·have hv:Dg s=0:=by unfold Dg;rw[ha]
  refine(Any.strconv_Atoi_syntax Tryz.lays172 sx (by omega) (by rw[h1];exact ha) e1 w c1 d1).mono ?_
  rintro e w' ⟨N,rfl,_,_,hb⟩;exact⟨_,rfl,fun S' w'=>by rw[hv];exact Ajv (by omega),hb⟩
 ·have hv:Dg s=Lib.atoiSat sx.data.toList:=by unfold Dg;rw[ha,h1]
  refine(Any.strconv_Atoi_range Tryz.lays172 sx (by omega) (by rw[h1];exact ha) e2 w c2 d2).mono ?_
  rintro e w' ⟨N,rfl,_,_,hb⟩;exact⟨_,rfl,fun S' w'=>by rw[hv];exact Ajv (Lib.atoiSat_bounds _),hb⟩
def Ajw:PC:=PC.fun fun|[.str s]=>some (s.length≤100000000,.tup [.int .i64 (sI (Dg s)),.any])|_=>none
theorem Ari{W:World}(hW:Gd W):GoodP (Fw W) Tryz.prog 179 Ajw:=by
 intro S w cs vs Q hs hv hT;refine Aoa hW S w cs vs Q hs hv ?_;simp only[Ajw,PC.fun] at hT;split at hT
 ·rename_i p r hf;split at hf
  ·cases hf;rename_i s;exact⟨s,hT.1,⟨rfl,trivial⟩,hT.2⟩
  ·cases hf
 ·exact hT.elim
end
end Z
end Go.Vc
namespace Go.Vc.Z
open Go Go.Vc Go.Proofs Go.RowKit Go.Pl Go.Lib
def Ty(s:List UInt8):Int:=if (worth s:Int)≤1000000000001 then(worth s:Int) else 1000000000001
@[irreducible] def Ct(s:List UInt8):Int × Bool:=if allDig s=true then(Ty s,Dr s) else(0,false)
theorem zS{s:List UInt8}{i:Nat}(h:i<s.length):Ty (s.take (i+1))=if 10*Ty (s.take i)+((s.getD i 0).toNat - 48:Nat)≤1000000000001 then 10*Ty (s.take i)+((s.getD i 0).toNat - 48:Nat) else 1000000000001:=by
 unfold Ty;rw[Dl h];repeat' split
 all_goals omega
theorem Al4(s:List UInt8):0≤Ty s∧Ty s≤1000000000001:=by unfold Ty;split<;>omega
theorem Arj:Ty []=0:=by unfold Ty;simp[worth]
theorem zT:Dr []=false:=by unfold Dr;simp[allDig]
theorem Ajx{s:List UInt8}(h:worth s≤1000000000001):Ty s=worth s:=by unfold Ty;rw[if_pos (by omega)]
theorem oW{c:List UInt8}:allDig (49::c)=allDig c:=by simp[allDig,Zn]
theorem zU{c:List UInt8}:Dr (49::c)=allDig c:=by unfold Dr;rw[oW];simp
theorem Aob{c:List UInt8}(h:c.length=2)(hd:allDig c=true):worth (49::c)=100+worth c∧worth c<100:=by
 rw[N0,h];have:=Lt hd;rw[h] at this;exact⟨by simp,by simpa using this⟩
theorem Ajy{s:List UInt8}{c:UInt8}(h:1≤s.length):(s.take 1 == [c])=Lib.hasPrefix s [c]:=by
 cases s with
 |nil=>exact absurd h (by simp)
 |cons d t=>
  show([d] == [c])=((c == d)&&true);rw[Bool.and_true,Bool.eq_iff_iff,beq_iff_eq,beq_iff_eq];exact⟨fun h=>(List.cons.inj h).1.symm,fun h=>by rw[h]⟩
theorem Aoc{s:List UInt8}{c:UInt8}(h: ¬1≤s.length):Lib.hasPrefix s [c]=false:=by
 cases s with
 |nil=>rfl
 |cons d t=>simp at h
def A0(c:UInt8)(s:List UInt8):List UInt8:=if Lib.hasPrefix s [c]=true then s.drop 1 else s
theorem Al5(c:UInt8)(s:List UInt8):(A0 c s).length≤s.length:=by unfold A0;split<;>simp
theorem zV(s:List UInt8):0≤(Ct s).1∧(Ct s).1≤1000000000001:=by
 unfold Ct;split
 ·exact Al4 s
 ·exact⟨by decide,by decide⟩
theorem oX(s:List UInt8):(Ct s).2=Dr s:=by
 unfold Ct;split
 ·rfl
 ·rename_i h;symm;refine Bool.eq_false_iff.2 fun hd=>h ?_;unfold Dr at hd;simp only[Bool.and_eq_true] at hd;exact hd.1
theorem oY{s:List UInt8}:(Rk s=((Bp 46 s).2.2&&(Ct (Bp 46 s).1).2&&(Ct (49::(Bp 46 s).2.1)).2&&decide ((Bp 46 s).2.1.length=2)))∧
  (Rk s=true→(Jd s=100*(Ct (Bp 46 s).1).1+(Ct (49::(Bp 46 s).2.1)).1 - 100∨(1000000000001<100*(Ct (Bp 46 s).1).1+(Ct (49::(Bp 46 s).2.1)).1 - 100∧1000000000001<Jd s))∧0≤100*(Ct (Bp 46 s).1).1+(Ct (49::(Bp 46 s).2.1)).1 - 100):=by
 have e:Rk s=((Bp 46 s).2.2&&(Ct (Bp 46 s).1).2&&(Ct (49::(Bp 46 s).2.1)).2&&decide ((Bp 46 s).2.1.length=2)):=by
  rw[oX,oX,zU];rfl
 refine⟨e,fun h=>?_⟩;rw[e] at h;simp only[Bool.and_eq_true,decide_eq_true_eq,oX,zU] at h;obtain⟨⟨⟨h1,h2⟩,h3⟩,h4⟩:=h;obtain⟨w1,w2⟩:=Aob h4 h3;have hd2:allDig (Bp 46 s).1=true:=(K2 h2).1;have a1:(Ct (Bp 46 s).1).1=Ty (Bp 46 s).1:=by unfold Ct;rw[if_pos hd2]
 have a2:(Ct (49::(Bp 46 s).2.1)).1=100+worth (Bp 46 s).2.1:=by
  unfold Ct;rw[if_pos (by rw[oW];exact h3)]
  show Ty _=_;rw[Ajx (by omega),w1];omega
 rw[a1,a2];unfold Jd Ty;split<;>omega
theorem aM{s:List UInt8}(h:Rk (A0 45 s)=false):Da s=(0,4):=by
 unfold A0 at h;unfold Da;split
 ·rename_i hp;rw[if_pos hp] at h;rw[if_neg (by rw[h];simp)]
 ·rename_i hp;rw[if_neg hp] at h;rw[if_neg (by rw[h];simp)]
theorem Ark{s:List UInt8}(hp:Lib.hasPrefix s [45]=true)(h:Rk (A0 45 s)=true):Da s=if Jd (A0 45 s)=0 then(0,4) else if 1000000000000<Jd (A0 45 s) then(0,14) else(-Jd (A0 45 s),0):=by
 unfold A0 at h ⊢;rw[if_pos hp] at h ⊢;unfold Da;rw[if_pos hp];by_cases h0:Jd (s.drop 1)=0
 ·rw[if_neg (fun hn=>hn.2 h0),if_pos h0]
 ·rw[if_pos ⟨h,h0⟩,if_neg h0]
theorem Arl{s:List UInt8}(hp:Lib.hasPrefix s [45]=false)(h:Rk (A0 45 s)=true):Da s=if 1000000000000<Jd (A0 45 s) then(0,14) else(Jd (A0 45 s),0):=by
 have hp': ¬Lib.hasPrefix s [45]=true:=by rw[hp];simp
 unfold A0 at h ⊢;rw[if_neg hp'] at h ⊢;unfold Da;rw[if_neg hp',if_pos h]
theorem Ajz(c:UInt8):Lib.index stL [c]=statOf [c] - 1:=by
 rw[Lib.index_one];unfold statOf stL;simp only[List.cons.injEq,and_true];by_cases h1:c=79
 ·subst h1;rfl
 by_cases h2:c=67
 ·subst h2;rfl
 by_cases h3:c=76
 ·subst h3;rfl
 by_cases h4:c=70
 ·subst h4;rfl
 by_cases h5:c=69
 ·subst h5;rfl
 by_cases h6:c=82
 ·subst h6;rfl
 by_cases h7:c=86
 ·subst h7;rfl
 by_cases h8:c=83
 ·subst h8;rfl
 by_cases h9:c=65
 ·subst h9;rfl
 rw[if_neg h1,if_neg h2,if_neg h3,if_neg h4,if_neg h5,if_neg h6,if_neg h7,if_neg h8,if_neg h9];simp[Lib.indexByte,Ne.symm h1,Ne.symm h2,Ne.symm h3,Ne.symm h4,Ne.symm h5,Ne.symm h6,Ne.symm h7,Ne.symm h8,Ne.symm h9]
theorem Ahh{s:List UInt8}(h:s.length≠1):statOf s=0:=by
 unfold statOf;repeat' split
 all_goals first|rfl|(rename_i e;rw[e] at h;exact absurd rfl h)
theorem Ahi{s:List UInt8}(h:s.length=1):Lib.index stL s=statOf s - 1:=by
 match s,h with
 |[c],_=>exact Ajz c
@[irreducible] def jC(s:List UInt8):Int:=if statOf s=0 then 2 else 0
theorem oZ(s:List UInt8):(statOf s=0∧jC s=2)∨(statOf s≠0∧jC s=0):=by
 unfold jC;by_cases h:statOf s=0
 ·exact .inl ⟨h,if_pos h⟩
 ·exact .inr ⟨h,if_neg h⟩
noncomputable section
set_option maxRecDepth 100000
attribute [local irreducible] inK Utf8.decode Utf8.encode Lib.itoa Pl.worth Pl.allDig
attribute [local irreducible] Lib.join Bp Aa
def Ahj:PC:=PC.fun fun|[.str s]=>some (True,.tup [.int .i64 (sI (Ct s).1),.bool (sB (Ct s).2)])|_=>none
def Au1(s:List UInt8):LoopSpec:={
 α:=Nat
 keep:=[0,4,8]
 vals i:=[.str s,.int .i64 (sI (Ty (s.take i))),.iter 0]
 heap i:=[.iter s i]
 ok i:=i≤s.length∧allDig (s.take i)=true
 μ i:=s.length - i }
def Ex:PT:=Cg []
theorem J4{W:World}(hW:Tabs W):Cb (Fw W) Tryz.prog Ex:=Aq
def Ni:FuncId→Option Ctr:=Av Ex []
theorem S6{W:World}(hW:Tabs W):Ad (Fw W) Tryz.prog Ni:=(Ar (J4 hW))
def Acy:List AV→Nat→Option LR:=fun cs i=>match cs with|[.str s]=>cond (Nat.beq i 3) (some (.inv (Au1 s))) (none)|_=>none
theorem Acz{W:World}(hW:Tabs W):GoodP (Fw W) Tryz.prog 222 Ahj:=by
 have hD:=J4 hW;have hC0:Ad (Fw W) Tryz.prog Ni:=(S6 hW);refine Au (D:=Ex) (C:=Ni) (wr:=(fun _=>false)) rfl Ao hD hC0 Tryz.func222 (Acy) ?_;clear hC0 hD hW;intro cs p r h hf hp;split at h
 case h_2=>cases h
 rename_i s;cases h;try simp only[Az,Bd,Aw,Go.Vc.lo,Go.Vc.hi,and_true] at hf
 have e0:s.getD (Int.toNat 0) 0=s.getD 0 0:=rfl;have hbyte:∀ c:UInt8,eqI (c.toNat:Int) 48=(c == 48):=fun c=>kF c 48;have s0:=Arj
 (conv=>whnf)
 refine⟨?_,fun(i:Nat) hi=>?_⟩
 ·(conv=>whnf)
  refine⟨(0:Nat),[],?_,⟨⟨rfl,(nB rfl),rfl⟩,?_,?_⟩⟩
  ·exact⟨Nat.zero_le _,by simp[allDig]⟩
  ·(conv=>whnf)
   (repeat' (first|with_reducible exact⟨⟩|refine tuA ?_|with_reducible refine iA ?_ ?_)<;>conv=>whnf)
   all_goals try simp only[wQ]
   rw[List.take_zero,s0]
  ·exact tL
 ·obtain⟨h1,h2⟩:=hi;have h1:i≤s.length:=h1;have hl:=Al4 (s.take i);have hsi:=De (Ty (s.take i));have hbad:i<s.length→¬(48≤Bg s i∧Bg s i≤57)→Ct s=(0,false):=fun h hc=>by
   have:allDig s=false:=Ya h (by rcases Dy h with h6|h6<;>omega)
   unfold Ct;rw[this];rfl
  have hfin:s.length≤i→Ct s=(Ty (s.take i),Dr s):=fun h=>by
   rw[List.take_of_length_le h] at h2 ⊢;unfold Ct;rw[if_pos h2]
  have hdec:s.length≤i→Dr s=(s == [48] || (s != []&&s.getD 0 0 != 48)):=fun h=>by
   rw[List.take_of_length_le h] at h2;unfold Dr;rw[h2,Bool.true_and]
  by_cases hs:s=[]
  ·subst hs;obtain rfl:i=0:=Nat.le_zero.1 h1
   (conv=>whnf)
   (repeat' (first|with_reducible exact⟨⟩|refine tuU ?_|with_reducible refine iA ?_ ?_)<;>conv=>whnf)
   all_goals try(show _=_;simp only[wQ])
   ·rw[hfin (Nat.le_refl _)]
   ·rw[hfin (Nat.le_refl _)];exact zT.symm
  ·have hpos:0<s.length:=List.length_pos_iff.2 hs
   (conv=>whnf)
   (repeat' (first|with_reducible exact⟨⟩|refine tuU ?_|split<;>rename_i hh<;>try simp only[wS] at hh|with_reducible refine iA ?_ ?_)<;>conv=>whnf)
   all_goals try(show _=_;simp only[wQ])
   all_goals first|(rw[hbad (by omega) (by omega)];done)|(exact absurd (by assumption) hs)|(exfalso;exact absurd (by assumption) Bool.false_ne_true)|skip
   ·obtain⟨h6,h7,h8⟩:Bg s i=((s.getD i 0).toNat:Int)∧Ai s i=1∧(s.getD i 0).toNat<128:=by
     rcases Dy (l:=s) (p:=i) (by omega) with h6|h6<;>omega
    have hst:=zS (s:=s) (i:=i) (by omega)
    (conv=>whnf)
    refine⟨(i+1:Nat),[],?_,⟨⟨rfl,(nB rfl),rfl⟩,?_,?_⟩⟩
    ·exact⟨⟨show i+1≤s.length by omega,Eb (by omega) h2 (by omega) (by omega)⟩,show s.length - (i+1)<s.length - i by omega⟩
    ·(conv=>whnf)
     (repeat' (first|with_reducible exact⟨⟩|refine tuA ?_|with_reducible refine iA ?_ ?_)<;>conv=>whnf)
     all_goals try simp only[wQ]
     all_goals (try first|omega)
     all_goals (rw[hst];split<;>omega)
    ·(conv=>whnf)
     (repeat' (first|with_reducible exact⟨⟩|refine tuA ?_|with_reducible refine iB ?_ ?_)<;>conv=>whnf)
     all_goals (try first|omega)
     all_goals (rw[h7])
   ·obtain⟨h6,h7,h8⟩:Bg s i=((s.getD i 0).toNat:Int)∧Ai s i=1∧(s.getD i 0).toNat<128:=by
     rcases Dy (l:=s) (p:=i) (by omega) with h6|h6<;>omega
    have hst:=zS (s:=s) (i:=i) (by omega)
    (conv=>whnf)
    refine⟨(i+1:Nat),[],?_,⟨⟨rfl,(nB rfl),rfl⟩,?_,?_⟩⟩
    ·exact⟨⟨show i+1≤s.length by omega,Eb (by omega) h2 (by omega) (by omega)⟩,show s.length - (i+1)<s.length - i by omega⟩
    ·(conv=>whnf)
     (repeat' (first|with_reducible exact⟨⟩|refine tuA ?_|with_reducible refine iA ?_ ?_)<;>conv=>whnf)
     all_goals try simp only[wQ]
     all_goals (try first|omega)
     all_goals (rw[hst];split<;>omega)
    ·(conv=>whnf)
     (repeat' (first|with_reducible exact⟨⟩|refine tuA ?_|with_reducible refine iB ?_ ?_)<;>conv=>whnf)
     all_goals (try first|omega)
     all_goals (rw[h7])
   ·rw[hfin (by omega)]
   ·rw[hfin (by omega),hdec (by omega),show s=[48] by assumption];rfl
   ·rw[hfin (by omega)]
   ·rw[hfin (by omega),hdec (by omega),hbyte,e0]
    have a1:(s == [48])=false:=(by rw[beq_eq_false_iff_ne];assumption);have a2:(s != [])=true:=(by rw[bne_iff_ne];assumption);rw[a1,a2];rfl
def Ahk:PC:=PC.fun fun|[.str s,.str [c]]=>some (True,.tup [.str (sS (A0 c s)),.bool (sB (Lib.hasPrefix s [c]))])|_=>none
def L3:List (FuncId × Ctr):=(244,inl TY Ni Ex (fun _=>false) (fun _ _ _=>none) Tryz.f244)::[]
def L4:FuncId→Option Ctr:=Av Ex L3
theorem L5{W:World}(hW:Tabs W):Ad (Fw W) Tryz.prog L4:=Ae Tryz.call244 (Ah rfl Ao (J4 hW) (S6 hW) Tryz.func244 (fun _ _ _=>none)) (S6 hW)
def U9:List (FuncId × Ctr):=(272,inl TY L4 Ex (fun _=>false) (fun _ _ _=>none) Tryz.f272)::L3
def He:FuncId→Option Ctr:=Av Ex U9
theorem Va{W:World}(hW:Tabs W):Ad (Fw W) Tryz.prog He:=Ae Tryz.call272 (Ah rfl Ao (J4 hW) (L5 hW) Tryz.func272 (fun _ _ _=>none)) (L5 hW)
theorem W9{W:World}(hW:Tabs W):GoodP (Fw W) Tryz.prog 221 Ahk:=by
 have hD:=J4 hW;have hC0:Ad (Fw W) Tryz.prog He:=(Va hW);refine Au (D:=Ex) (C:=He) (wr:=(fun _=>false)) rfl Ao hD hC0 Tryz.func221 (fun _ _=>none) ?_;clear hC0 hD hW;intro cs p r h hf hp;split at h
 case h_2=>cases h
 rename_i s c;cases h;try simp only[Az,Bd,Aw,Go.Vc.lo,Go.Vc.hi,and_true] at hf
 have h1:=Ajy (s:=s) (c:=c);have h2:=Aoc (s:=s) (c:=c);have h3:A0 c s=if Lib.hasPrefix s [c]=true then s.drop 1 else s:=by unfold A0;rfl
 have h4:([c].length:Int)=1:=rfl;have hn:Lib.hasPrefix s [c]=false→s=A0 c s∧false=Lib.hasPrefix s [c]:=fun h=>by rw[h3,h];exact⟨rfl,rfl⟩
 have hy:1≤s.length→Lib.hasPrefix s [c]=true→List.take (s.length - Int.toNat ([c].length:Int)) (List.drop (Int.toNat ([c].length:Int)) s)=A0 c s∧true=Lib.hasPrefix s [c]:=fun h0 h=>by
  rw[h3,h];refine⟨?_,rfl⟩;show List.take (s.length - 1) (List.drop 1 s)=_;rw[List.take_of_length_le (by simp)];rfl
 have k1:1≤s.length→¬List.take (Int.toNat ([c].length:Int) - 0) (List.drop 0 s)=[c]→Lib.hasPrefix s [c]=false:=fun h0 h=>by
  rw[←h1 h0,beq_eq_false_iff_ne];exact h
 have k2:1≤s.length→List.take (Int.toNat ([c].length:Int) - 0) (List.drop 0 s)=[c]→Lib.hasPrefix s [c]=true:=fun h0 h=>by
  rw[←h1 h0,beq_iff_eq];exact h
 (conv=>whnf)
 (repeat' (first|with_reducible exact⟨⟩|(with_reducible refine Ap ?_)|refine tuU ?_|split<;>rename_i hh<;>try simp only[wS] at hh|with_reducible refine lnI fun hln=>?_|with_reducible refine iA ?_ ?_)<;>conv=>whnf)
 all_goals try(show _=_;simp only[wQ])
 ·exact(hn (k1 (by omega) (by assumption))).1
 ·exact(hn (k1 (by omega) (by assumption))).2
 ·exact(hy (by omega) (k2 (by omega) (by assumption))).1
 ·exact(hy (by omega) (k2 (by omega) (by assumption))).2
 ·exact(hn (h2 (by omega))).1
 ·exact(hn (h2 (by omega))).2
def pA:PC:=PC.fun fun|[.str s]=>some (s.length≤100000000,.tup [.int .i64 (sI (Da s).1),.int .i64 (sI (Da s).2)])|_=>none
def dA:PT:=Cg [(94,cZ),(221,Ahk),(222,Ahj)]
theorem zW{W:World}(hW:Tabs W):Cb (Fw W) Tryz.prog dA:=(Ab Tryz.call94 (aL hW) (Ab Tryz.call221 (W9 hW) (Ab Tryz.call222 (Acz hW) Aq)))
def dB:FuncId→Option Ctr:=Av dA []
theorem Aod{W:World}(hW:Tabs W):Ad (Fw W) Tryz.prog dB:=(Ar (zW hW))
theorem zX{W:World}(hW:Tabs W):GoodP (Fw W) Tryz.prog 159 pA:=by
 have hD:=zW hW;have hC0:Ad (Fw W) Tryz.prog dB:=(Aod hW);refine Au (D:=dA) (C:=dB) (wr:=(fun _=>false)) rfl Ao hD hC0 Tryz.func159 (fun _ _=>none) ?_;clear hC0 hD hW;intro cs p r h hf hp;split at h
 case h_2=>cases h
 rename_i s;cases h;try simp only[Az,Bd,Aw,Go.Vc.lo,Go.Vc.hi,and_true] at hf
 have e1:=Cn (A0 45 s);have e2:=Cn (Bp 46 (sS (A0 45 s))).1;have e3:=Cn (Bp 46 (sS (A0 45 s))).2.1;have c1:=Al5 45 s;have c2:=Wg 46 (sS (A0 45 s));have c3:(sS (A0 45 s)).length≤100000000:=by rw[e1];omega
 have c4:(sS (Bp 46 (sS (A0 45 s))).2.1).length≤100000000:=by rw[e3];omega
 have c5:=Wg 46 (A0 45 s);have w1:=zV (sS (Bp 46 (sS (A0 45 s))).1);have w2:=zV ((⟨#[49]⟩:ByteArray).data.toList++sS (Bp 46 (sS (A0 45 s))).2.1);have w3:=De (Ct (sS (Bp 46 (sS (A0 45 s))).1)).1;have w4:=De (Ct ((⟨#[49]⟩:ByteArray).data.toList++sS (Bp 46 (sS (A0 45 s))).2.1)).1;have hF:Rk (A0 45 s)=((Bp 46 (A0 45 s)).2.2&&(Ct (Bp 46 (A0 45 s)).1).2&&(Ct ((⟨#[49]⟩:ByteArray).data.toList++(Bp 46 (A0 45 s)).2.1)).2&&decide ((Bp 46 (A0 45 s)).2.1.length=2)):=oY.1;have hV:Rk (A0 45 s)=true→(Jd (A0 45 s)=100*(Ct (Bp 46 (A0 45 s)).1).1+(Ct ([49]++(Bp 46 (A0 45 s)).2.1)).1 - 100∨(1000000000001<100*(Ct (Bp 46 (A0 45 s)).1).1+(Ct ([49]++(Bp 46 (A0 45 s)).2.1)).1 - 100∧1000000000001<Jd (A0 45 s)))∧0≤100*(Ct (Bp 46 (A0 45 s)).1).1+(Ct ([49]++(Bp 46 (A0 45 s)).2.1)).1 - 100:=(oY (s:=A0 45 s)).2
 have b1:(Bp 46 (A0 45 s)).2.2=false→Da s=(0,4):=fun h=>aM (by rw[hF,h];rfl)
 have b2:(Ct (Bp 46 (A0 45 s)).1).2=false→Da s=(0,4):=fun h=>aM (by rw[hF,h];simp)
 have b3:(Ct ((⟨#[49]⟩:ByteArray).data.toList++(Bp 46 (A0 45 s)).2.1)).2=false→Da s=(0,4):=fun h=>aM (by rw[hF,h];simp)
 have b4: ¬(Bp 46 (A0 45 s)).2.1.length=2→Da s=(0,4):=fun h=>aM (by rw[hF,decide_eq_false h];simp)
 have hg:(Bp 46 (A0 45 s)).2.2=true→(Ct (Bp 46 (A0 45 s)).1).2=true→(Ct ((⟨#[49]⟩:ByteArray).data.toList++(Bp 46 (A0 45 s)).2.1)).2=true→(Bp 46 (A0 45 s)).2.1.length=2→Rk (A0 45 s)=true:=fun h1 h2 h3 h4=>by rw[hF,h1,h2,h3,decide_eq_true h4];rfl
 clear c2 hF
 (conv=>whnf)
 (repeat' (first|with_reducible exact⟨⟩|refine tuU ?_|split<;>rename_i hh<;>try simp only[wS] at hh|with_reducible refine lnI fun hln=>?_|with_reducible refine iA ?_ ?_)<;>conv=>whnf)
 all_goals try(show _=_;simp only[wQ])
 all_goals first
  |exact absurd (by assumption) Bool.false_ne_true
  |(rw[b1 (by assumption)];done)
  |(rw[b2 (by assumption)];done)
  |(rw[b3 (by assumption)];done)
  |(rw[b4 (by omega)];done)
  |(
   have hf:=hg (by assumption) (by assumption) (by assumption) (by omega)
   obtain⟨v1,v2⟩:=hV hf;first
   |(rw[Ark (by assumption) hf];(repeat' split)<;>((try dsimp only)<;>omega))
   |(rw[Arl (by assumption) hf];(repeat' split)<;>((try dsimp only)<;>omega)))
def Azk:PC:=PC.fun fun|[.str s]=>some (True,.tup [.int .i64 (sI (statOf s)),.int .i64 (sI (jC s))])|_=>none
def Vb:PT:=Cg [(220,Acx)]
theorem fR{W:World}(hW:Tabs W):Cb (Fw W) Tryz.prog Vb:=(Ab Tryz.call220 (An9 hW) Aq)
def Vd:FuncId→Option Ctr:=Av Vb []
theorem Ahl{W:World}(hW:Tabs W):Ad (Fw W) Tryz.prog Vd:=(Ar (fR hW))
theorem Ahm{W:World}(hW:Tabs W):GoodP (Fw W) Tryz.prog 156 Azk:=by
 have hD:=fR hW;have hC0:Ad (Fw W) Tryz.prog Vd:=(Ahl hW);refine Au (D:=Vb) (C:=Vd) (wr:=(fun _=>false)) rfl Ao hD hC0 Tryz.func156 (fun _ _=>none) ?_;clear hC0 hD hW;intro cs p r h hf hp;split at h
 case h_2=>cases h
 rename_i s;cases h;try simp only[Az,Bd,Aw,Go.Vc.lo,Go.Vc.hi,and_true] at hf
 have h1:(s.length:Int)=1∨statOf s=0:=by
  by_cases h:s.length=1
  ·exact .inl (by omega)
  ·exact .inr (Ahh h)
 have h2: ¬(s.length:Int)=1∨Lib.index [79,67,76,70,69,82,86,83,65] s=statOf s - 1:=by
  by_cases h:s.length=1
  ·exact .inr (Ahi h)
  ·exact .inl (by omega)
 have h4:sI (Lib.index (⟨#[79,67,76,70,69,82,86,83,65]⟩:ByteArray).data.toList s)=Lib.index [79,67,76,70,69,82,86,83,65] s:=De _;have h6:statOf s=0∨(1≤statOf s∧statOf s≤9):=(Yn (s:=s)).imp id N5.1;have h7:=oZ s
 (conv=>whnf)
 (repeat' (first|with_reducible exact⟨⟩|refine tuU ?_|split<;>rename_i hh<;>try simp only[wS] at hh|with_reducible refine lnI fun hln=>?_|with_reducible refine iA ?_ ?_)<;>conv=>whnf)
 all_goals try(show _=_;simp only[wQ])
 all_goals omega
def Aj0:PC:=PC.fun fun|[.str s]=>some (s.length≤100000000,.tup [.str (sS (D8 s).1),.int .i64 (sI (D8 s).2.1),.bool (sB (D8 s).2.2)])|_=>none
def Qn:PT:=Cg [(94,cZ),(159,pA)]
theorem Xs{W:World}(hW:Tabs W):Cb (Fw W) Tryz.prog Qn:=(Ab Tryz.call94 (aL hW) (Ab Tryz.call159 (zX hW) Aq))
def Qo:FuncId→Option Ctr:=Av Qn []
theorem rZ{W:World}(hW:Tabs W):Ad (Fw W) Tryz.prog Qo:=(Ar (Xs hW))
theorem Xt{W:World}(hW:Tabs W):GoodP (Fw W) Tryz.prog 224 Aj0:=by
 have hD:=Xs hW;have hC0:Ad (Fw W) Tryz.prog Qo:=(rZ hW);refine Au (D:=Qn) (C:=Qo) (wr:=(fun _=>false)) rfl Ao hD hC0 Tryz.func224 (fun _ _=>none) ?_;clear hC0 hD hW;intro cs p r h hf hp;split at h
 case h_2=>cases h
 rename_i s;cases h;try simp only[Az,Bd,Aw,Go.Vc.lo,Go.Vc.hi,and_true] at hf
 have c1:=Wg 61 s;have c2:(sS (Bp 61 s).2.1).length≤100000000:=by rw[Cn];omega
 have h1:D8 s=((Bp 61 s).1,(Da (Bp 61 s).2.1).1,(Bp 61 s).2.2&&decide ((Da (Bp 61 s).2.1).2=0)):=by unfold D8;rfl
 (conv=>whnf)
 (repeat' (first|with_reducible exact⟨⟩|refine tuU ?_|split<;>rename_i hh<;>try simp only[wS] at hh|with_reducible refine iA ?_ ?_)<;>conv=>whnf)
 all_goals try(show _=_;simp only[wQ])
 all_goals first|(rw[h1];done)|(rw[h1,Bool.eq_iff_iff];simp[*,Ca];done)
def Arm:PC:=PC.fun fun|[.str s]=>some (s.length≤100000000,.tup [.agg (Ef s).1.enc,.bool (sB (Ef s).2)])|_=>none
def J5:PT:=Cg [(93,Wa),(94,cZ),(224,Aj0)]
theorem P5{W:World}(hW:Tabs W):Cb (Fw W) Tryz.prog J5:=(Ab Tryz.call93 (G5 hW) (Ab Tryz.call94 (aL hW) (Ab Tryz.call224 (Xt hW) Aq)))
def J6:FuncId→Option Ctr:=Av J5 []
theorem aN{W:World}(hW:Tabs W):Ad (Fw W) Tryz.prog J6:=(Ar (P5 hW))
theorem aO{W:World}(hW:Tabs W):GoodP (Fw W) Tryz.prog 223 Arm:=by
 have hD:=P5 hW;have hC0:Ad (Fw W) Tryz.prog J6:=(aN hW);refine Au (D:=J5) (C:=J6) (wr:=(fun _=>false)) rfl Ao hD hC0 Tryz.func223 (fun _ _=>none) ?_;clear hC0 hD hW;intro cs p r h hf hp;split at h
 case h_2=>cases h
 rename_i s;cases h;try simp only[Az,Bd,Aw,Go.Vc.lo,Go.Vc.hi,and_true] at hf
 have h1:(sS (D8 s).1).length≤100000000:=by
  rw[Cn];have:=Wg 61 s;unfold D8;dsimp only;omega
 have hf:Ef s=(⟨(Aj (Bp 64 (D8 s).1).1).1,(Aj (Bp 64 (D8 s).1).2.1).1,(D8 s).2.1,0,0,0⟩,(D8 s).2.2&&(Bp 64 (D8 s).1).2.2&&(Aj (Bp 64 (D8 s).1).1).2&&(Aj (Bp 64 (D8 s).1).2.1).2):=by unfold Ef;rfl
 (conv=>whnf)
 (repeat' (first|with_reducible exact⟨⟩|refine tuU ?_|split<;>rename_i hh<;>try simp only[wS] at hh|with_reducible refine iA ?_ ?_)<;>conv=>whnf)
 all_goals try(show _=_;simp only[wQ])
 all_goals first|(rw[hf];done)|(rw[hf,Bool.eq_iff_iff];simp[*];done)
end
end Go.Vc.Z
namespace Go.Vc.Z
open Go Go.Vc Go.Proofs Go.RowKit Go.Pl Go.Lib
noncomputable section
abbrev An:Request:=⟨[],0,0,0,0,0,[],[],[],0,0,0⟩
open Classical in
@[irreducible] def Ve(s:List UInt8):Request × Int:=if h:∃ r,Af r=true∧Be r=s then(h.choose,0) else(An,4)
theorem aP{s:List UInt8}(h:∀ r,Af r=true→Be r=s→False):Ve s=(An,4):=by
 unfold Ve;rw[dif_neg];rintro⟨r,h1,h2⟩;exact h r h1 h2
theorem Cw{s:List UInt8}{R:Request}(h1:Af R=true)(h2:Be R=s)(h:∀ r,Af r=true→Be r=s→R=r):Ve s=(R,0):=by
 have hx:∃ r,Af r=true∧Be r=s:=⟨R,h1,h2⟩;unfold Ve;rw[dif_pos hx,←h _ hx.choose_spec.1 hx.choose_spec.2]
theorem Ahn{r:Request}(h:Af r=true):(Bn r).getD 0 []=Dd.getD (r.kind - 1).toNat []:=by
 rcases Fg h with k|k|k|k|k|k|k|k|k|k
 ·rw[K7 k,k];rfl
 ·rw[K8 k,k];rfl
 ·rw[K9 k,k];rfl
 ·rw[La k,k];rfl
 ·rw[Lb k,k];rfl
 ·rw[Lc k,k];rfl
 ·rw[Ld k,k];rfl
 ·rw[Le k,k];rfl
 ·rw[Lf k,k];rfl
 ·rw[Jc k,k];rfl
theorem J7{r:Request}(h:Af r=true):r=Cq r:=by
 rcases Fg h with k|k|k|k|k|k|k|k|k|k
 ·rw[Uz k] at h;simp only[Bool.and_eq_true,Bc] at h;exact h.2.2.2.2.2
 ·rw[Zv k] at h;simp only[Bool.and_eq_true,Bc] at h;exact h.2.2.2.2.2
 ·rw[Zw k] at h;simp only[Bool.and_eq_true,Bc] at h;exact h.2.2.2
 ·rw[Zx k] at h;simp only[Bool.and_eq_true,Bc] at h;exact h.2.2.2.2
 ·rw[Zy k] at h;simp only[Bool.and_eq_true,Bc] at h;exact h.2.2.2.2.2.2
 ·rw[Zz k] at h;simp only[Bool.and_eq_true,Bc] at h;exact h.2.2.2.2
 ·rw[Z0 k] at h;simp only[Bool.and_eq_true,Bc] at h;exact h.2.2.2.2
 ·rw[Z1 k] at h;simp only[Bool.and_eq_true,Bc] at h;exact h.2
 ·rw[Z2 k] at h;simp only[Bool.and_eq_true,Bc] at h;exact h.2
 ·rw[Wd k] at h;simp only[Bool.and_eq_true,Bc] at h;exact h.2
theorem J8(s:List UInt8):kindOf s=0∨kindOf s=1∨kindOf s=2∨kindOf s=3∨kindOf s=4∨kindOf s=5∨kindOf s=6∨kindOf s=7∨kindOf s=8∨kindOf s=9∨kindOf s=10:=by
 unfold kindOf;repeat' split
 all_goals omega
theorem Dj{s:List UInt8}{r:Request}{k:Int}(hm:Af r=true)(hw:Be r=s)(hk:kindOf ((Aa 32 s).getD 0 [])=k):r.kind=k:=by
 have hc:=Jw hm;rw[hw] at hc;have h1:1≤r.kind∧r.kind≤10:=by rcases Fg hm with k|k|k|k|k|k|k|k|k|k<;>omega
 rw[hc,Ahn hm,←B8 h1,cO h1] at hk;exact hk
theorem aQ{m:Int}{l:List Coupon}(h:E5 m l=true):Aa 44 (Bu l)=l.map Bi∧∀ c ∈ l,Ef (Bi c)=(c,true):=by
 obtain⟨h1,h2,h3⟩:=D7 h;exact⟨eK (by intro e;rw[e] at h1;simp at h1),fun c hc=>Anq (h3 c hc)⟩
theorem pB{l:List Tax}(h:C0 l=true):(l=[]∧Bm l=[45])∨(Bm l≠[45]∧Aa 44 (Bm l)=l.map E7∧∀ c ∈ l,C7 (E7 c)=(c,true)):=by
 by_cases h0:l=[]
 ·subst h0;exact .inl ⟨rfl,by unfold Bm;rfl⟩
 ·exact .inr ⟨eJ h0,uI h0,fun c hc=>Anr (Su h c hc).1 (Su h c hc).2⟩
theorem hJ{s:List UInt8}{r:Request}(hm:Af r=true)(hw:Be r=s)(hk:kindOf ((Aa 32 s).getD 0 [])=1):Aa 32 s=[[105,115,115,117,101],r.key,Lib.itoa r.day,r.locator,Bu r.coupons,Bm r.taxes]∧r=⟨r.key,1,r.day,0,0,0,r.locator,r.coupons,r.taxes,0,0,0⟩∧(Aj (Lib.itoa r.day)=(r.day,true))∧(Aa 44 (Bu r.coupons)=r.coupons.map Bi∧∀ c ∈ r.coupons,Ef (Bi c)=(c,true))∧((r.taxes=[]∧Bm r.taxes=[45])∨(Bm r.taxes≠[45]∧Aa 44 (Bm r.taxes)=r.taxes.map E7∧∀ c ∈ r.taxes,C7 (E7 c)=(c,true)))∧True:=by
 have k:=Dj hm hw hk;have hc:=Jw hm;have ho:=J7 hm;rw[hw,K7 k] at hc;obtain⟨hK,hD,hL,hC,hX⟩:=Ha k hm;refine⟨hc,?_,By (Cf hD).1 (by have:=Cf hD;omega),aQ hC,pB hX,True.intro⟩
 refine ho.trans ?_;unfold Cq;rw[k];rfl
theorem Arn{s:List UInt8}{r:Request}(hm:Af r=true)(hw:Be r=s)(hk:kindOf ((Aa 32 s).getD 0 [])=2):Aa 32 s=[[109,111,118,101],r.key,Lib.itoa r.day,A6 r.ticket,Lib.itoa r.coupon,Cr r.status]∧r=⟨r.key,2,r.day,r.ticket,r.coupon,r.status,[],[],[],0,0,0⟩∧(Aj (Lib.itoa r.day)=(r.day,true))∧(numOf (A6 r.ticket)=(r.ticket,0))∧(Aj (Lib.itoa r.coupon)=(r.coupon,true))∧(statOf (Cr r.status)=r.status∧r.status≠0)∧True:=by
 have k:=Dj hm hw hk;have hc:=Jw hm;have ho:=J7 hm;rw[hw,K8 k] at hc;obtain⟨hK,hD,hT,hN,hS⟩:=Iw k hm;refine⟨hc,?_,By (Cf hD).1 (by have:=Cf hD;omega),I2 (by unfold Ed at hT;simpa using hT),By (by omega) (by omega),⟨Xp hS,by have:=N5.1 hS;omega⟩,True.intro⟩
 refine ho.trans ?_;unfold Cq;rw[k];rfl
theorem Aro{s:List UInt8}{r:Request}(hm:Af r=true)(hw:Be r=s)(hk:kindOf ((Aa 32 s).getD 0 [])=3):Aa 32 s=[[118,111,105,100],r.key,Lib.itoa r.day,A6 r.ticket]∧r=⟨r.key,3,r.day,r.ticket,0,0,[],[],[],0,0,0⟩∧(Aj (Lib.itoa r.day)=(r.day,true))∧(numOf (A6 r.ticket)=(r.ticket,0))∧True:=by
 have k:=Dj hm hw hk;have hc:=Jw hm;have ho:=J7 hm;rw[hw,K9 k] at hc;obtain⟨hK,hD,hT⟩:=Ix k hm;refine⟨hc,?_,By (Cf hD).1 (by have:=Cf hD;omega),I2 (by unfold Ed at hT;simpa using hT),True.intro⟩
 refine ho.trans ?_;unfold Cq;rw[k];rfl
theorem Arp{s:List UInt8}{r:Request}(hm:Af r=true)(hw:Be r=s)(hk:kindOf ((Aa 32 s).getD 0 [])=4):Aa 32 s=[[114,101,102,117,110,100],r.key,Lib.itoa r.day,A6 r.ticket,Cp r.amount]∧r=⟨r.key,4,r.day,r.ticket,0,0,[],[],[],r.amount,0,0⟩∧(Aj (Lib.itoa r.day)=(r.day,true))∧(numOf (A6 r.ticket)=(r.ticket,0))∧(Da (Cp r.amount)=(r.amount,0))∧True:=by
 have k:=Dj hm hw hk;have hc:=Jw hm;have ho:=J7 hm;rw[hw,La k] at hc;obtain⟨hK,hD,hT,hA⟩:=Iy k hm;refine⟨hc,?_,By (Cf hD).1 (by have:=Cf hD;omega),I2 (by unfold Ed at hT;simpa using hT),Py (Db hA),True.intro⟩
 refine ho.trans ?_;unfold Cq;rw[k];rfl
theorem hO{s:List UInt8}{r:Request}(hm:Af r=true)(hw:Be r=s)(hk:kindOf ((Aa 32 s).getD 0 [])=5):Aa 32 s=[[101,120,99,104,97,110,103,101],r.key,Lib.itoa r.day,A6 r.ticket,Cp r.amount,Bu r.coupons,Bm r.taxes]∧r=⟨r.key,5,r.day,r.ticket,0,0,[],r.coupons,r.taxes,r.amount,0,0⟩∧(Aj (Lib.itoa r.day)=(r.day,true))∧(numOf (A6 r.ticket)=(r.ticket,0))∧(Da (Cp r.amount)=(r.amount,0))∧(Aa 44 (Bu r.coupons)=r.coupons.map Bi∧∀ c ∈ r.coupons,Ef (Bi c)=(c,true))∧((r.taxes=[]∧Bm r.taxes=[45])∨(Bm r.taxes≠[45]∧Aa 44 (Bm r.taxes)=r.taxes.map E7∧∀ c ∈ r.taxes,C7 (E7 c)=(c,true)))∧True:=by
 have k:=Dj hm hw hk;have hc:=Jw hm;have ho:=J7 hm;rw[hw,Lb k] at hc;obtain⟨hK,hD,hT,hA,hC,hX⟩:=Hb k hm;refine⟨hc,?_,By (Cf hD).1 (by have:=Cf hD;omega),I2 (by unfold Ed at hT;simpa using hT),Py (Db hA),aQ hC,pB hX,True.intro⟩
 refine ho.trans ?_;unfold Cq;rw[k];rfl
theorem Arq{s:List UInt8}{r:Request}(hm:Af r=true)(hw:Be r=s)(hk:kindOf ((Aa 32 s).getD 0 [])=6):Aa 32 s=[[97,115,107],r.key,Lib.itoa r.day,A6 r.ticket,Lib.itoa r.coupon]∧r=⟨r.key,6,r.day,r.ticket,r.coupon,0,[],[],[],0,0,0⟩∧(Aj (Lib.itoa r.day)=(r.day,true))∧(numOf (A6 r.ticket)=(r.ticket,0))∧(Aj (Lib.itoa r.coupon)=(r.coupon,true))∧True:=by
 have k:=Dj hm hw hk;have hc:=Jw hm;have ho:=J7 hm;rw[hw,Lc k] at hc;obtain⟨hK,hD,hT,hN⟩:=Iz k hm;refine⟨hc,?_,By (Cf hD).1 (by have:=Cf hD;omega),I2 (by unfold Ed at hT;simpa using hT),By (by omega) (by omega),True.intro⟩
 refine ho.trans ?_;unfold Cq;rw[k];rfl
theorem Arr{s:List UInt8}{r:Request}(hm:Af r=true)(hw:Be r=s)(hk:kindOf ((Aa 32 s).getD 0 [])=7):Aa 32 s=[[114,101,116,117,114,110],r.key,Lib.itoa r.day,A6 r.ticket,Lib.itoa r.coupon]∧r=⟨r.key,7,r.day,r.ticket,r.coupon,0,[],[],[],0,0,0⟩∧(Aj (Lib.itoa r.day)=(r.day,true))∧(numOf (A6 r.ticket)=(r.ticket,0))∧(Aj (Lib.itoa r.coupon)=(r.coupon,true))∧True:=by
 have k:=Dj hm hw hk;have hc:=Jw hm;have ho:=J7 hm;rw[hw,Ld k] at hc;obtain⟨hK,hD,hT,hN⟩:=I0 k hm;refine⟨hc,?_,By (Cf hD).1 (by have:=Cf hD;omega),I2 (by unfold Ed at hT;simpa using hT),By (by omega) (by omega),True.intro⟩
 refine ho.trans ?_;unfold Cq;rw[k];rfl
theorem Ars{s:List UInt8}{r:Request}(hm:Af r=true)(hw:Be r=s)(hk:kindOf ((Aa 32 s).getD 0 [])=8):Aa 32 s=[[115,104,111,119],A6 r.ticket]∧r=⟨[],8,0,r.ticket,0,0,[],[],[],0,0,0⟩∧(numOf (A6 r.ticket)=(r.ticket,0))∧True:=by
 have k:=Dj hm hw hk;have hc:=Jw hm;have ho:=J7 hm;rw[hw,Le k] at hc;have hT:=Sq k hm;refine⟨hc,?_,I2 (by unfold Ed at hT;simpa using hT),True.intro⟩
 refine ho.trans ?_;unfold Cq;rw[k];rfl
theorem Art{s:List UInt8}{r:Request}(hm:Af r=true)(hw:Be r=s)(hk:kindOf ((Aa 32 s).getD 0 [])=9):Aa 32 s=[[102,105,110,100],r.locator]∧r=⟨[],9,0,0,0,0,r.locator,[],[],0,0,0⟩∧True:=by
 have k:=Dj hm hw hk;have hc:=Jw hm;have ho:=J7 hm;rw[hw,Lf k] at hc;have hL:=I1 k hm;refine⟨hc,?_,True.intro⟩;refine ho.trans ?_;unfold Cq;rw[k];rfl
theorem Aho{s:List UInt8}{r:Request}(hm:Af r=true)(hw:Be r=s)(hk:kindOf ((Aa 32 s).getD 0 [])=10):Aa 32 s=[[114,101,112,111,114,116],Lib.itoa r.frm,Lib.itoa r.til]∧r=⟨[],10,0,0,0,0,[],[],[],0,r.frm,r.til⟩∧(Aj (Lib.itoa r.frm)=(r.frm,true))∧(Aj (Lib.itoa r.til)=(r.til,true))∧True:=by
 have k:=Dj hm hw hk;have hc:=Jw hm;have ho:=J7 hm;rw[hw,Jc k] at hc;obtain⟨hF,hU⟩:=Px k hm;refine⟨hc,?_,By (Cf hF).1 (by have:=Cf hF;omega),By (Cf hU).1 (by have:=Cf hU;omega),True.intro⟩
 refine ho.trans ?_;unfold Cq;rw[k];rfl
end
end Go.Vc.Z
