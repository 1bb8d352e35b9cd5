/- How strconv.Atoi, and what it calls, lie in this program (printed by the kit's tool). -/
import Derived.Test.YtpmpclbdnakniaaGreatDoorV10
import Derived.Test.YtpmpclbdnakniaaGreatDoorV12
import Derived.Test.YtpmpclbdnakniaaGreatDoorV9
import Derived.Test.YtpmpclbdnakniaaGreatDoorV13
import Derived.Test.YtpmpclbdnakniaaGreatDoorV11
import Derived.Ground.NamesProg
import Derived.Shelf.LaysC
import Derived.Shelf.Strconv.AtoiAll
import Derived.Shelf.Strings.Search3
import Derived.Shelf.Strings.Cut
import Derived.Shelf.Strings.Split
import Derived.Lib.Split
import Derived.Lib.Join
import Derived.Lib.CountLaws
set_option linter.all false
set_option linter.unusedVariables false
set_option linter.unusedSimpArgs false
namespace Go.Proofs
open Go.Shelf Go.RowKit
set_option maxRecDepth 1000000
def Tryz.lays172_ren:Go.Shelf.Ren:=⟨fun|172=>179|244=>245|245=>246|247=>287|279=>288|280=>289|281=>290|282=>291|287=>309|316=>310|171=>111|205=>311|321=>317|322=>318|243=>189|246=>190|283=>203|284=>204|285=>205|286=>206|129=>267|317=>266|318=>268|319=>269|320=>270|337=>301|338=>302|n=>n,fun|9=>9|3=>3|75=>154|76=>155|4=>4|5=>5|167=>296|37=>150|0=>0|85=>297|2=>2|168=>299|53=>37|175=>312|46=>284|210=>316|127=>221|145=>337|143=>335|21=>21|171=>233|173=>235|212=>281|51=>282|20=>20|213=>283|232=>323|233=>324|80=>162|n=>n,fun|15=>2|16=>3|17=>0|18=>4|19=>5|n=>n⟩
theorem Tryz.lays172:Go.Proofs.LaysC.n172 Tryz.prog Tryz.lays172_ren:={
 mixed:=by kernel_rfl
 f129:=Tryz.func267.trans (congrArg some (by kernel_rfl))
 f171:=Tryz.func111.trans (congrArg some (by kernel_rfl))
 f172:=Tryz.func179.trans (congrArg some (by kernel_rfl))
 f205:=Tryz.func311.trans (congrArg some (by kernel_rfl))
 f243:=Tryz.func189.trans (congrArg some (by kernel_rfl))
 f244:=Tryz.func245.trans (congrArg some (by kernel_rfl))
 f245:=Tryz.func246.trans (congrArg some (by kernel_rfl))
 f246:=Tryz.func190.trans (congrArg some (by kernel_rfl))
 f247:=Tryz.func287.trans (congrArg some (by kernel_rfl))
 f279:=Tryz.func288.trans (congrArg some (by kernel_rfl))
 f280:=Tryz.func289.trans (congrArg some (by kernel_rfl))
 f281:=Tryz.func290.trans (congrArg some (by kernel_rfl))
 f282:=Tryz.func291.trans (congrArg some (by kernel_rfl))
 f283:=Tryz.func203.trans (congrArg some (by kernel_rfl))
 f284:=Tryz.func204.trans (congrArg some (by kernel_rfl))
 f285:=Tryz.func205.trans (congrArg some (by kernel_rfl))
 f286:=Tryz.func206.trans (congrArg some (by kernel_rfl))
 f287:=Tryz.func309.trans (congrArg some (by kernel_rfl))
 f316:=Tryz.func310.trans (congrArg some (by kernel_rfl))
 f317:=Tryz.func266.trans (congrArg some (by kernel_rfl))
 f318:=Tryz.func268.trans (congrArg some (by kernel_rfl))
 f319:=Tryz.func269.trans (congrArg some (by kernel_rfl))
 f320:=Tryz.func270.trans (congrArg some (by kernel_rfl))
 f321:=Tryz.func317.trans (congrArg some (by kernel_rfl))
 f322:=Tryz.func318.trans (congrArg some (by kernel_rfl))
 f337:=Tryz.func301.trans (congrArg some (by kernel_rfl))
 f338:=Tryz.func302.trans (congrArg some (by kernel_rfl))
 t0:=Tryz.underlying0
 a0:=Tryz.isAgg0
 z0:=Tryz.sizeOf0
 v0:=Tryz.zeroValue0
 t2:=Tryz.underlying2
 a2:=Tryz.isAgg2
 z2:=Tryz.sizeOf2
 v2:=Tryz.zeroValue2
 t3:=Tryz.underlying3
 a3:=Tryz.isAgg3
 z3:=Tryz.sizeOf3
 v3:=Tryz.zeroValue3
 t4:=Tryz.underlying4
 a4:=Tryz.isAgg4
 z4:=Tryz.sizeOf4
 v4:=Tryz.zeroValue4
 t5:=Tryz.underlying5
 a5:=Tryz.isAgg5
 z5:=Tryz.sizeOf5
 v5:=Tryz.zeroValue5
 t9:=Tryz.underlying9
 a9:=Tryz.isAgg9
 z9:=Tryz.sizeOf9
 v9:=Tryz.zeroValue9
 t20:=Tryz.underlying20
 a20:=Tryz.isAgg20
 z20:=Tryz.sizeOf20
 v20:=Tryz.zeroValue20
 t21:=Tryz.underlying21
 a21:=Tryz.isAgg21
 z21:=Tryz.sizeOf21
 v21:=Tryz.zeroValue21
 t37:=Tryz.underlying150
 a37:=Tryz.isAgg150
 z37:=Tryz.sizeOf150
 v37:=Tryz.zeroValue150
 t46:=Tryz.underlying284
 a46:=Tryz.isAgg284
 z46:=Tryz.sizeOf284
 v46:=Tryz.zeroValue284
 t51:=Tryz.underlying282
 a51:=Tryz.isAgg282
 z51:=Tryz.sizeOf282
 v51:=Tryz.zeroValue282
 t53:=Tryz.underlying37
 a53:=Tryz.isAgg37
 z53:=Tryz.sizeOf37
 v53:=Tryz.zeroValue37
 t75:=Tryz.underlying154
 a75:=Tryz.isAgg154
 z75:=Tryz.sizeOf154
 v75:=Tryz.zeroValue154
 t76:=Tryz.underlying155
 a76:=Tryz.isAgg155
 z76:=Tryz.sizeOf155
 v76:=Tryz.zeroValue155
 t85:=Tryz.underlying297
 a85:=Tryz.isAgg297
 z85:=Tryz.sizeOf297
 v85:=Tryz.zeroValue297
 t127:=Tryz.underlying221
 a127:=Tryz.isAgg221
 z127:=Tryz.sizeOf221
 v127:=Tryz.zeroValue221
 t143:=Tryz.underlying335
 a143:=Tryz.isAgg335
 z143:=Tryz.sizeOf335
 v143:=Tryz.zeroValue335
 t145:=Tryz.underlying337
 a145:=Tryz.isAgg337
 z145:=Tryz.sizeOf337
 v145:=Tryz.zeroValue337
 t167:=Tryz.underlying296
 a167:=Tryz.isAgg296
 z167:=Tryz.sizeOf296
 v167:=Tryz.zeroValue296
 t168:=Tryz.underlying299
 a168:=Tryz.isAgg299
 z168:=Tryz.sizeOf299
 v168:=Tryz.zeroValue299
 t171:=Tryz.underlying233
 a171:=Tryz.isAgg233
 z171:=Tryz.sizeOf233
 v171:=Tryz.zeroValue233
 t173:=Tryz.underlying235
 a173:=Tryz.isAgg235
 z173:=Tryz.sizeOf235
 v173:=Tryz.zeroValue235
 t175:=Tryz.underlying312
 a175:=Tryz.isAgg312
 z175:=Tryz.sizeOf312
 v175:=Tryz.zeroValue312
 t210:=Tryz.underlying316
 a210:=Tryz.isAgg316
 z210:=Tryz.sizeOf316
 v210:=Tryz.zeroValue316
 t212:=Tryz.underlying281
 a212:=Tryz.isAgg281
 z212:=Tryz.sizeOf281
 v212:=Tryz.zeroValue281
 t213:=Tryz.underlying283
 a213:=Tryz.isAgg283
 z213:=Tryz.sizeOf283
 t232:=Tryz.underlying323
 a232:=Tryz.isAgg323
 z232:=Tryz.sizeOf323
 v232:=Tryz.zeroValue323
 t233:=Tryz.underlying324
 a233:=Tryz.isAgg324
 z233:=Tryz.sizeOf324
 v233:=Tryz.zeroValue324
 g15:=by kernel_rfl
 g16:=by kernel_rfl
 g17:=by kernel_rfl
 g18:=by kernel_rfl
 g19:=by kernel_rfl
 t80:=Tryz.underlying162
 a80:=Tryz.isAgg162
 z80:=Tryz.sizeOf162
 v80:=Tryz.zeroValue162
 i0:=by kernel_rfl
 i2:=by kernel_rfl
 i3:=by kernel_rfl
 i4:=by kernel_rfl
 i5:=by kernel_rfl
 i9:=by kernel_rfl
 i20:=by kernel_rfl
 i21:=by kernel_rfl
 i37:=by kernel_rfl
 i46:=by kernel_rfl
 i51:=by kernel_rfl
 i53:=by kernel_rfl
 i75:=by kernel_rfl
 i76:=by kernel_rfl
 i80:=by kernel_rfl
 i85:=by kernel_rfl
 i127:=by kernel_rfl
 i143:=by kernel_rfl
 i145:=by kernel_rfl
 i167:=by kernel_rfl
 i168:=by kernel_rfl
 i171:=by kernel_rfl
 i173:=by kernel_rfl
 i175:=by kernel_rfl
 i210:=by kernel_rfl
 i212:=by kernel_rfl
 i232:=by kernel_rfl
 i233:=by kernel_rfl
 m15:=by kernel_rfl
 m16:=by kernel_rfl
 m17:=by kernel_rfl
 m18:=by kernel_rfl
 m19:=by kernel_rfl
 c0:=by kernel_rfl
 c2:=by kernel_rfl
 c3:=by kernel_rfl
 c4:=by kernel_rfl
 c5:=by kernel_rfl
 c9:=by kernel_rfl
 c20:=by kernel_rfl
 c21:=by kernel_rfl
 c37:=by kernel_rfl
 c46:=by kernel_rfl
 c51:=by kernel_rfl
 c53:=by kernel_rfl
 c75:=by kernel_rfl
 c76:=by kernel_rfl
 c80:=by kernel_rfl
 c85:=by kernel_rfl
 c127:=by kernel_rfl
 c143:=by kernel_rfl
 c145:=by kernel_rfl
 c167:=by kernel_rfl
 c168:=by kernel_rfl
 c171:=by kernel_rfl
 c173:=by kernel_rfl
 c175:=by kernel_rfl
 c210:=by kernel_rfl
 c212:=by kernel_rfl
 c213:=by kernel_rfl
 c232:=by kernel_rfl
 c233:=by kernel_rfl }
end Go.Proofs
namespace Go.Proofs
open Go.Shelf Go.RowKit
set_option maxRecDepth 1000000
def Tryz.lays143_ren:Go.Shelf.Ren:=⟨fun|143=>220|219=>243|217=>283|225=>284|224=>285|267=>286|266=>307|314=>308|n=>n,fun|9=>9|3=>3|4=>4|5=>5|46=>284|146=>310|51=>282|n=>n,fun|1=>1|n=>n⟩
theorem Tryz.lays143:Go.Proofs.Lays.n143 Tryz.prog Tryz.lays143_ren:={
 mixed:=by kernel_rfl
 f143:=Tryz.func220.trans (congrArg some (by kernel_rfl))
 f217:=Tryz.func283.trans (congrArg some (by kernel_rfl))
 f219:=Tryz.func243.trans (congrArg some (by kernel_rfl))
 f224:=Tryz.func285.trans (congrArg some (by kernel_rfl))
 f225:=Tryz.func284.trans (congrArg some (by kernel_rfl))
 f266:=Tryz.func307.trans (congrArg some (by kernel_rfl))
 f267:=Tryz.func286.trans (congrArg some (by kernel_rfl))
 f314:=Tryz.func308.trans (congrArg some (by kernel_rfl))
 t3:=Tryz.underlying3
 a3:=Tryz.isAgg3
 z3:=Tryz.sizeOf3
 v3:=Tryz.zeroValue3
 t4:=Tryz.underlying4
 a4:=Tryz.isAgg4
 z4:=Tryz.sizeOf4
 v4:=Tryz.zeroValue4
 t5:=Tryz.underlying5
 a5:=Tryz.isAgg5
 z5:=Tryz.sizeOf5
 v5:=Tryz.zeroValue5
 t9:=Tryz.underlying9
 a9:=Tryz.isAgg9
 z9:=Tryz.sizeOf9
 v9:=Tryz.zeroValue9
 t46:=Tryz.underlying284
 a46:=Tryz.isAgg284
 z46:=Tryz.sizeOf284
 v46:=Tryz.zeroValue284
 t51:=Tryz.underlying282
 a51:=Tryz.isAgg282
 z51:=Tryz.sizeOf282
 v51:=Tryz.zeroValue282
 t146:=Tryz.underlying310
 a146:=Tryz.isAgg310
 z146:=Tryz.sizeOf310
 v146:=Tryz.zeroValue310
 g1:=by kernel_rfl }
def Tryz.lays145_ren:Go.Shelf.Ren:=⟨fun|145=>94|220=>177|219=>243|217=>283|225=>284|224=>285|267=>286|266=>307|314=>308|n=>n,fun|9=>9|4=>4|59=>143|3=>3|5=>5|46=>284|146=>310|51=>282|n=>n,fun|1=>1|n=>n⟩
theorem Tryz.lays145:Go.Proofs.Lays.n145 Tryz.prog Tryz.lays145_ren:={
 mixed:=by kernel_rfl
 f145:=Tryz.func94.trans (congrArg some (by kernel_rfl))
 f217:=Tryz.func283.trans (congrArg some (by kernel_rfl))
 f219:=Tryz.func243.trans (congrArg some (by kernel_rfl))
 f220:=Tryz.func177.trans (congrArg some (by kernel_rfl))
 f224:=Tryz.func285.trans (congrArg some (by kernel_rfl))
 f225:=Tryz.func284.trans (congrArg some (by kernel_rfl))
 f266:=Tryz.func307.trans (congrArg some (by kernel_rfl))
 f267:=Tryz.func286.trans (congrArg some (by kernel_rfl))
 f314:=Tryz.func308.trans (congrArg some (by kernel_rfl))
 t3:=Tryz.underlying3
 a3:=Tryz.isAgg3
 z3:=Tryz.sizeOf3
 v3:=Tryz.zeroValue3
 t4:=Tryz.underlying4
 a4:=Tryz.isAgg4
 z4:=Tryz.sizeOf4
 v4:=Tryz.zeroValue4
 t5:=Tryz.underlying5
 a5:=Tryz.isAgg5
 z5:=Tryz.sizeOf5
 v5:=Tryz.zeroValue5
 t9:=Tryz.underlying9
 a9:=Tryz.isAgg9
 z9:=Tryz.sizeOf9
 v9:=Tryz.zeroValue9
 t46:=Tryz.underlying284
 a46:=Tryz.isAgg284
 z46:=Tryz.sizeOf284
 v46:=Tryz.zeroValue284
 t51:=Tryz.underlying282
 a51:=Tryz.isAgg282
 z51:=Tryz.sizeOf282
 v51:=Tryz.zeroValue282
 t59:=Tryz.underlying143
 a59:=Tryz.isAgg143
 z59:=Tryz.sizeOf143
 v59:=Tryz.zeroValue143
 t146:=Tryz.underlying310
 a146:=Tryz.isAgg310
 z146:=Tryz.sizeOf310
 v146:=Tryz.zeroValue310
 g1:=by kernel_rfl }
def Tryz.lays146_ren:Go.Shelf.Ren:=⟨fun|146=>78|221=>168|268=>236|138=>237|143=>220|195=>280|197=>281|218=>282|219=>243|260=>306|217=>283|225=>284|224=>285|267=>286|266=>307|314=>308|n=>n,fun|9=>9|31=>32|3=>3|4=>4|0=>0|105=>293|21=>21|5=>5|46=>284|119=>330|139=>333|138=>332|146=>310|51=>282|n=>n,fun|1=>1|3=>6|4=>7|n=>n⟩
theorem Tryz.lays146:Go.Proofs.Lays.n146 Tryz.prog Tryz.lays146_ren:={
 mixed:=by kernel_rfl
 f138:=Tryz.func237.trans (congrArg some (by kernel_rfl))
 f143:=Tryz.func220.trans (congrArg some (by kernel_rfl))
 f146:=Tryz.func78.trans (congrArg some (by kernel_rfl))
 f195:=Tryz.func280.trans (congrArg some (by kernel_rfl))
 f197:=Tryz.func281.trans (congrArg some (by kernel_rfl))
 f217:=Tryz.func283.trans (congrArg some (by kernel_rfl))
 f218:=Tryz.func282.trans (congrArg some (by kernel_rfl))
 f219:=Tryz.func243.trans (congrArg some (by kernel_rfl))
 f221:=Tryz.func168.trans (congrArg some (by kernel_rfl))
 f224:=Tryz.func285.trans (congrArg some (by kernel_rfl))
 f225:=Tryz.func284.trans (congrArg some (by kernel_rfl))
 f260:=Tryz.func306.trans (congrArg some (by kernel_rfl))
 f266:=Tryz.func307.trans (congrArg some (by kernel_rfl))
 f267:=Tryz.func286.trans (congrArg some (by kernel_rfl))
 f268:=Tryz.func236.trans (congrArg some (by kernel_rfl))
 f314:=Tryz.func308.trans (congrArg some (by kernel_rfl))
 t0:=Tryz.underlying0
 a0:=Tryz.isAgg0
 z0:=Tryz.sizeOf0
 v0:=Tryz.zeroValue0
 t3:=Tryz.underlying3
 a3:=Tryz.isAgg3
 z3:=Tryz.sizeOf3
 v3:=Tryz.zeroValue3
 t4:=Tryz.underlying4
 a4:=Tryz.isAgg4
 z4:=Tryz.sizeOf4
 v4:=Tryz.zeroValue4
 t5:=Tryz.underlying5
 a5:=Tryz.isAgg5
 z5:=Tryz.sizeOf5
 v5:=Tryz.zeroValue5
 t9:=Tryz.underlying9
 a9:=Tryz.isAgg9
 z9:=Tryz.sizeOf9
 v9:=Tryz.zeroValue9
 t21:=Tryz.underlying21
 a21:=Tryz.isAgg21
 z21:=Tryz.sizeOf21
 v21:=Tryz.zeroValue21
 t31:=Tryz.underlying32
 a31:=Tryz.isAgg32
 z31:=Tryz.sizeOf32
 v31:=Tryz.zeroValue32
 t46:=Tryz.underlying284
 a46:=Tryz.isAgg284
 z46:=Tryz.sizeOf284
 v46:=Tryz.zeroValue284
 t51:=Tryz.underlying282
 a51:=Tryz.isAgg282
 z51:=Tryz.sizeOf282
 v51:=Tryz.zeroValue282
 t105:=Tryz.underlying293
 a105:=Tryz.isAgg293
 z105:=Tryz.sizeOf293
 v105:=Tryz.zeroValue293
 t119:=Tryz.underlying330
 a119:=Tryz.isAgg330
 z119:=Tryz.sizeOf330
 t138:=Tryz.underlying332
 a138:=Tryz.isAgg332
 z138:=Tryz.sizeOf332
 v138:=Tryz.zeroValue332
 t139:=Tryz.underlying333
 a139:=Tryz.isAgg333
 z139:=Tryz.sizeOf333
 v139:=Tryz.zeroValue333
 t146:=Tryz.underlying310
 a146:=Tryz.isAgg310
 z146:=Tryz.sizeOf310
 v146:=Tryz.zeroValue310
 g1:=by kernel_rfl
 g3:=by kernel_rfl
 g4:=by kernel_rfl }
end Go.Proofs
namespace Go.Pl
open Go Go.Lib
def E5(c:UInt8)(o:List (List UInt8))(x:UInt8):List (List UInt8):=if x=c then o++[[]] else o.dropLast++[o.getLastD []++[x]]
def Aa(c:UInt8)(s:List UInt8):List (List UInt8):=s.foldl (E5 c) [[]]
theorem eW(c:UInt8)(o:List (List UInt8))(x:UInt8):E5 c o x≠[]:=by
 unfold E5;split<;>simp
theorem Aa0(c:UInt8)(p o:List (List UInt8))(ho:o≠[])(x:UInt8):E5 c (p++o) x=p++E5 c o x:=by
 unfold E5
 split
 ·simp
 ·rw[List.dropLast_append_of_ne_nil ho,List.append_assoc]
  congr 2
  rw[List.getLastD_eq_getLast?,List.getLastD_eq_getLast?,List.getLast?_append]
  cases h:o.getLast? with
  |none=>exact absurd (List.getLast?_eq_none_iff.1 h) ho
  |some y=>rfl
theorem Agg(c:UInt8):∀ (s:List UInt8) (p o:List (List UInt8)),o≠[]→s.foldl (E5 c) (p++o)=p++s.foldl (E5 c) o
 |[],_,_,_=>rfl
 |x::s,p,o,ho=>by
  rw[List.foldl_cons,List.foldl_cons,Aa0 c p o ho,Agg c s _ _ (eW c o x)]
theorem Ae8(c:UInt8):∀ (s:List UInt8) (w:List UInt8),c ∉ s→s.foldl (E5 c) [w]=[w++s]
 |[],w,_=>by simp
 |x::s,w,h=>by
  rw[List.foldl_cons]
  have hx: ¬x=c:=fun e=>h (by rw[e];simp)
  have:E5 c [w] x=[w++[x]]:=by unfold E5;rw[if_neg hx];rfl
  rw[this,Ae8 c s _ (fun hm=>h (List.mem_cons_of_mem _ hm))]
  simp
theorem K5{c:UInt8}{s:List UInt8}(h:c ∉ s):Aa c s=[s]:=by
 unfold Aa;rw[Ae8 c s [] h];simp
theorem Jr{c:UInt8}{a:List UInt8}(h:c ∉ a)(b:List UInt8):Aa c (a++c::b)=a::Aa c b:=by
 unfold Aa
 rw[List.foldl_append,Ae8 c a [] h,List.nil_append,List.foldl_cons]
 have:E5 c [a] c=[a]++[[]]:=by unfold E5;rw[if_pos rfl]
 rw[this,Agg c b [a] [[]] (by simp)];rfl
theorem Aa1(c:UInt8):Aa c []=[[]]:=rfl
theorem oW(c:UInt8)(s:List UInt8)(x:UInt8):Aa c (s++[x])=E5 c (Aa c s) x:=by
 unfold Aa;rw[List.foldl_append];rfl
theorem Agh(c:UInt8)(s:List UInt8):Aa c s≠[]:=by
 rcases List.eq_nil_or_concat s with rfl|⟨t,x,rfl⟩
 ·simp[Aa]
 ·rw[List.concat_eq_append,oW];exact eW _ _ _
theorem Ei(c:UInt8)(s:List UInt8):1≤(Aa c s).length:=List.length_pos_iff.2 (Agh c s)
theorem Wd{c:UInt8}{P:List UInt8→Prop}(h0:∀ s,c ∉ s→P s)(h1:∀ a b,c ∉ a→P b→P (a++c::b)):∀ (n:Nat) (s:List UInt8),s.length≤n→P s
 |0,s,h=>h0 s (by obtain rfl:=List.length_eq_zero_iff.1 (Nat.le_zero.1 h);simp)
 |n+1,s,h=>by
  by_cases hc:c ∈ s
  ·obtain⟨a,b,rfl,ha⟩:=List.eq_append_cons_of_mem hc
   exact h1 a b ha (Wd h0 h1 n b (by simp at h;omega))
  ·exact h0 s hc
theorem S8(c:UInt8)(s:List UInt8):(Aa c s).length=s.count c+1:=by
 refine Wd (c:=c) (P:=fun s=>(Aa c s).length=s.count c+1) (fun s h=>?_) (fun a b ha ih=>?_) s.length s (Nat.le_refl _)
 ·rw[K5 h,List.count_eq_zero_of_not_mem h];rfl
 ·rw[Jr ha,List.length_cons,ih,List.count_append,List.count_cons_self,List.count_eq_zero_of_not_mem ha];omega
theorem Ik(c:UInt8)(s:List UInt8):(Aa c s).length≤s.length+1:=by
 rw[S8];have:=List.count_le_length (a:=c) (l:=s);omega
theorem Qb{c:UInt8}(s:List UInt8):∀ w ∈ Aa c s,w.length≤s.length∧c ∉ w:=by
 refine Wd (c:=c) (P:=fun s=>∀ w ∈ Aa c s,w.length≤s.length∧c ∉ w) (fun s h=>?_) (fun a b ha ih=>?_) s.length s (Nat.le_refl _)
 ·rw[K5 h];intro w hw;rw[List.mem_singleton] at hw;subst hw;exact⟨Nat.le_refl _,h⟩
 ·rw[Jr ha];intro w hw
  rcases List.mem_cons.1 hw with rfl|hw
  ·exact⟨by simp,ha⟩
  ·have:=ih w hw;exact⟨by simp;omega,this.2⟩
theorem Aiq(c:UInt8)(s:List UInt8):Lib.join (Aa c s) [c]=s:=by
 refine Wd (c:=c) (P:=fun s=>Lib.join (Aa c s) [c]=s) (fun s h=>?_) (fun a b ha ih=>?_) s.length s (Nat.le_refl _)
 ·rw[K5 h,Lib.join_one]
 ·rw[Jr ha]
  cases hb:Aa c b with
  |nil=>exact absurd hb (Agh c b)
  |cons x r=>
   rw[hb] at ih
   have:Lib.join (a::x::r) [c]=a++c::Lib.join (x::r) [c]:=by simp[Lib.join_cons,Lib.joinTail]
   rw[this,ih]
theorem Ko{c:UInt8}:∀ {L:List (List UInt8)},L≠[]→(∀ w ∈ L,c ∉ w)→Aa c (Lib.join L [c])=L
 |[],h,_=>absurd rfl h
 |[x],_,h=>by rw[Lib.join_one,K5 (h x (by simp))]
 |x::y::r,_,h=>by
  have:Lib.join (x::y::r) [c]=x++c::Lib.join (y::r) [c]:=by simp[Lib.join_cons,Lib.joinTail]
  rw[this,Jr (h x (by simp)),Ko (by simp) (fun w hw=>h w (List.mem_cons_of_mem _ hw))]
theorem Zm{s:List UInt8}{c:UInt8}{j:Nat}:occAt s [c] j=(s[j]? == some c):=by
 unfold occAt
 induction s generalizing j with
 |nil=>simp
 |cons x s ih=>
  cases j with
  |zero=>simp[List.isPrefixOf,Bool.beq_comm (a:=x)]
  |succ j=>simpa using ih (j:=j)
theorem Rc{c:UInt8}{s:List UInt8}(h:c ∉ s):index s [c]= -1:=by
 refine index_none fun j _=>?_
 rw[Zm,beq_eq_false_iff_ne]
 exact fun e=>h (List.mem_of_getElem? e)
theorem Mh{c:UInt8}{a:List UInt8}(h:c ∉ a)(b:List UInt8):index (a++c::b) [c]=a.length:=by
 refine index_first (by simp) ?_ fun j hj=>?_
 ·rw[Zm];simp
 ·rw[Zm,beq_eq_false_iff_ne,List.getElem?_append_left hj]
  exact fun e=>h (List.mem_of_getElem? e)
theorem oX(c:UInt8)(s:List UInt8):Lib.split s [c]=Aa c s:=by
 refine Wd (c:=c) (P:=fun s=>Lib.split s [c]=Aa c s) (fun s h=>?_) (fun a b ha ih=>?_) s.length s (Nat.le_refl _)
 ·unfold Lib.split;rw[count_miss (Rc h),K5 h];rfl
 ·have hi:=Mh ha b
  have hd:(a++c::b).drop (a.length+1)=b:=by simp
  unfold Lib.split at ih ⊢
  rw[count_hit (by simp) hi,Nat.add_comm,Jr ha,←ih]
  rw[splitK,hi,if_neg (by simp)]
  simp only[Int.toNat_natCast,Nat.add_zero,List.length_singleton,hd,List.take_left']
def Ca(c:UInt8)(s:List UInt8):List UInt8 × List UInt8 × Bool:=Lib.cut s [c]
theorem Uj{c:UInt8}{a:List UInt8}(h:c ∉ a)(b:List UInt8):Ca c (a++c::b)=(a,b,true):=by
 unfold Ca Lib.cut;rw[Mh h,if_pos (by omega)];simp
theorem Uk(c:UInt8)(s:List UInt8):(Ca c s).1.length≤s.length∧(Ca c s).2.1.length≤s.length:=by
 unfold Ca Lib.cut;split<;>simp;exact Nat.min_le_right _ _
end Go.Pl
namespace Go.Vc
open Go Go.Proofs Go.RowKit Go.Sort Go.Pl
theorem aN{F:Nat→Obj→Prop}{P:Program}{f:FuncId}{α:Type}{args:α→List AV}{pre:α→Prop}{res:α→AV}(hu:∀ x,Fo 0 (args x)=true)
  (h:∀ x S w vs,pre x→A0 (args x)→Sok F S w→VL (fun _=>none) S w (args x) vs→Calls P f vs w fun e w'=>∃ v S',e= .returned v∧V (fun _=>none) S' w' (res x) v∧Below w.heap.size w w'∧(∀ b,S b→S' b)∧(∀ b,S' b→S b∨w.heap.size≤b)∧∀ b,S' b→b<w'.heap.size):GoodP F P f (PC.of args pre res):=by
 intro S w cs vs Q hs hv hpre
 obtain⟨x,h1,h2,h3⟩:=hpre
 have hl:=Ke h2
 have hv':VL (fun _=>none) S w (args x) vs:=by
  refine⟨by rw[←hl];exact hv.1,fun i c v hc hv'=>?_⟩
  have hi:i<cs.length:=by
   rcases Nat.lt_or_ge i (args x).length with h'|h'
   ·omega
   ·rw[List.getElem?_eq_none h'] at hc;cases hc
  exact(hv.2 i cs[i] v (List.getElem?_eq_getElem hi) hv').le (σ:=fun i=>i) (n:=0) (fun i b hi=>by omega) (Qx h2 i _ _ (List.getElem?_eq_getElem hi) hc) (Dx (hu x) i c hc)
 refine(h x S w vs h1 hv'.fact hs hv').mono ?_
 rintro e w' ⟨v,S',rfl,hV,hb,g1,g2,g3⟩
 have hE:Ext (fun _=>none) S w (fun _=>none) S' w':=⟨fun _ _ h=>(by cases h),g1,fun b hb' _=>hb.block b hb',hb.size,fun b arr T fr hb'=>⟨arr,fr,(hb.block b (lt_of_some hb')).trans hb',rfl⟩,fun _ _ h=>(by cases h),fun b h=>(g2 b h).elim .inl (fun h=>.inr (.inr h)),hb.os,hb.tape,hb.output⟩
 exact⟨v,res x,S',rfl,h3,hV,hE,hs.ext hE g3⟩
theorem aO(w:World)(o:Obj):Below w.heap.size w (w.alloc o):=by
 refine⟨rfl,rfl,rfl,?_,fun b hb=>?_⟩
 ·show w.heap.size≤(w.heap.push o).size
  simp
 ·show(w.heap.push o)[b]? =_
  rw[Array.getElem?_push,if_neg (by omega)]
theorem xY{S:Nat→Prop}{w:World}{a b:AV}{vs:Array Value}(h:VL (fun _=>none) S w [a,b] vs):∃ x y,vs=#[x,y]∧V (fun _=>none) S w a x∧V (fun _=>none) S w b y:=by
 obtain⟨vs⟩:=vs
 match vs,h with
 |[x,y],h=>exact⟨x,y,rfl,h.2 0 _ _ rfl rfl,h.2 1 _ _ rfl rfl⟩
 |[],h=>simp[VL] at h
 |[_],h=>simp[VL] at h
 |_::_::_::_,h=>have:=h.1;simp at this
theorem V.texts{S:Nat→Prop}{w:World}{l:List ByteArray}{T:TypeId}(hs:∀ b,S b→b<w.heap.size)(hl:l.length≤maxLen)(hx:∀ x ∈ l,x.data.toList.length≤maxLen):
  V (fun _=>none) (fun b=>S b∨b=w.heap.size) (w.alloc (.cells (l.map Value.string).toArray T)) (slS (l.map (·.data.toList))) (.slice (some ⟨w.heap.size,0,none⟩) l.length l.length):=by
 have e:(l.map (·.data.toList)).length=l.length:=by simp
 unfold V slS
 rw[e]
 refine .sl false 1 l.length _ w.heap.size 0 l.length (fun e _=>.string (l.getD e ByteArray.empty)) (fun _=>⟨.inr rfl,?_⟩) (Nat.le_refl _) hl (fun h=>by cases h) (fun e he=>rfl) (fun e j he hj=>?_) (fun e j c he hc=>?_)
 ·show w.heap.size<(w.heap.push _).size
  simp
 ·have hj0:j=0:=by omega
  subst hj0
  simp only[World.cell?,C7]
  simp[he,List.getD_eq_getElem?_getD]
 ·have hj0:j=0:=by
   cases j with
   |zero=>rfl
   |succ j=>simp at hc
  subst hj0
  simp only[List.getElem?_cons_zero,Option.some.injEq] at hc
  subst hc
  refine .str _ _ ?_ ?_
  ·simp[he,List.getD_eq_getElem?_getD]
  ·simp only[List.getD_eq_getElem?_getD,List.getElem?_map,List.getElem?_eq_getElem he,Option.map_some,Option.getD_some]
   exact hx _ (List.getElem_mem he)
theorem Xp{W:World}(hW:Tabs W){S:Nat→Prop}{w:World}(hs:Sok (Fw W) S w):∃ m,w.cell? ⟨1,0,none⟩=some (.int .i64 m):=by
 obtain⟨m,hm⟩:∃ m,W.cell? ⟨1,0,none⟩=some (.int .i64 m):=cell_of_shapedOpen_int (zero:=#[.int .i64 0]) (t:=3) hW.2 (of_decide_eq_true (by kernel_rfl)) (by kernel_rfl) rfl (by kernel_rfl) (by kernel_rfl) Tryz.underlying3
 exact⟨m,Fw.cell hs hm⟩
theorem Nf(s:ByteArray){l:List UInt8}(h:s.data.toList=l):s.size=l.length:=by rw[←h,Array.length_toList];rfl
namespace Z
noncomputable section
def Ali:PC:=PC.of (fun x:List UInt8 × UInt8=>[.str x.1,.str [x.2]]) (fun x=>x.1.length≤100000000) (fun x=>slS (sL (Aa x.2 x.1)))
theorem Ae9{W:World}(hW:Tabs W):GoodP (Fw W) Tryz.prog 78 Ali:=by
 refine aN (fun _=>rfl) ?_
 rintro⟨s,c⟩ S w vs hpre hf hs hv
 simp only at hpre hv ⊢
 obtain⟨x,y,rfl,hx,hy⟩:=xY hv
 obtain⟨sx,rfl,h1,h2⟩:=V.strR' hx
 obtain⟨sy,rfl,h3,h4⟩:=V.strR' hy
 obtain⟨m,hm⟩:=Xp hW hs
 have e1:=Nf sx h1
 have e2:sy.size=1:=Nf sy h3
 have hd:(Lib.splitB sy 0 (Lib.countB sx sy) sx).map (·.data.toList)=Aa c s:=by
  rw[Lib.splitB_data,←oX]
  unfold Lib.split Lib.countB
  rw[h1,h3]
 have hlen:(Lib.splitB sy 0 (Lib.countB sx sy) sx).length=Lib.countB sx sy+1:=by
  have a1:(Lib.splitB sy 0 (Lib.countB sx sy) sx).length=(Aa c s).length:=by rw[←hd];simp
  have a2:Lib.countB sx sy=s.count c:=by
   have:∀ t:List UInt8,Lib.count t [c]=t.count c:=fun t=>by
    refine Wd (c:=c) (P:=fun t=>Lib.count t [c]=t.count c) (fun t h=>?_) (fun a b ha ih=>?_) t.length t (Nat.le_refl _)
    ·rw[Lib.count_miss (Rc h),List.count_eq_zero_of_not_mem h]
    ·rw[Lib.count_hit (by simp) (Mh ha b)]
     have hd:(a++c::b).drop (a.length+[c].length)=b:=by simp
     rw[hd,ih,List.count_append,List.count_cons_self,List.count_eq_zero_of_not_mem ha];omega
   unfold Lib.countB
   rw[h1,h3,this]
  rw[a1,S8,a2]
 refine(Any.strings_Split Tryz.lays146 (by kernel_rfl) sx sy m w (by omega) hm (by omega)).mono ?_
 rintro e w' ⟨rfl,rfl⟩
 have hc:=Ik c s
 have hcl:(Aa c s).length=Lib.countB sx sy+1:=by rw[←hd,List.length_map,hlen]
 have hV:=V.texts (S:=S) (w:=w) (l:=Lib.splitB sy 0 (Lib.countB sx sy) sx) (T:=9) hs.lt (by rw[hlen,Cn];omega) (fun x hx=>by
  have:x.data.toList ∈ Aa c s:=by rw[←hd];exact List.mem_map_of_mem hx
  have:=(Qb s _ this).1
  rw[Cn];omega)
 rw[hd,hlen] at hV
 refine⟨_,fun b=>S b∨b=w.heap.size,rfl,?_,aO _ _,fun b h=>.inl h,fun b h=>?_,fun b h=>?_⟩
 ·rw[Do];exact hV
 ·rcases h with h|h
  ·exact .inl h
  ·exact .inr (Nat.le_of_eq h.symm)
 ·have hsz:(w.alloc (.cells ((Lib.splitB sy 0 (Lib.countB sx sy) sx).map Value.string).toArray 9)).heap.size=w.heap.size+1:=by
   show(w.heap.push _).size=_
   simp
  show b<(w.alloc (.cells ((Lib.splitB sy 0 (Lib.countB sx sy) sx).map Value.string).toArray 9)).heap.size
  rw[hsz]
  rcases h with h|h
  ·have:=hs.lt b h;omega
  ·omega
def Aoj:PC:=PC.of (fun x:List UInt8 × UInt8=>[.str x.1,.str [x.2]]) (fun x=>x.1.length≤100000000) (fun x=>.tup [.str (sS (Ca x.2 x.1).1),.str (sS (Ca x.2 x.1).2.1),.bool (sB (Ca x.2 x.1).2.2)])
theorem below_drewN(w:World)(n:Nat):Below w.heap.size w (w.drewN n):=⟨rfl,rfl,rfl,Nat.le_refl _,fun _ _=>rfl⟩
theorem Air{W:World}(hW:Tabs W):GoodP (Fw W) Tryz.prog 94 Aoj:=by
 refine Lc (fun _=>rfl) (fun _=>rfl) ?_
 rintro⟨s,c⟩ S w vs hpre hf hs hv
 simp only at hpre hv ⊢
 obtain⟨x,y,rfl,hx,hy⟩:=xY hv
 obtain⟨sx,rfl,h1,h2⟩:=V.strR' hx
 obtain⟨sy,rfl,h3,h4⟩:=V.strR' hy
 obtain⟨m,hm⟩:=Xp hW hs
 have e1:=Nf sx h1
 refine(Any.strings_Cut Tryz.lays145 sx sy m w (by omega) hm).mono ?_
 rintro e w' ⟨rfl,n,rfl⟩
 refine⟨_,rfl,fun S' w'=>?_,below_drewN w n⟩
 have hle:=Uk c s
 rw[Bb,Bb,Bh,h1,h3]
 refine .tup _ _ rfl fun i c' v hc hv=>?_
 match i,hc,hv with
 |0,hc,hv=>cases hc;cases hv;exact .str _ _ rfl (by rw[Cn];omega)
 |1,hc,hv=>cases hc;cases hv;exact .str _ _ rfl (by rw[Cn];omega)
 |2,hc,hv=>cases hc;cases hv;exact .bool _
 |i+3,hc,hv=>simp at hc
def xZ:PC:=PC.fun fun|[.str s,.str [c]]=>some (s.length≤100000000,slS (sL (Aa c s)))|_=>none
theorem Ais{W:World}(hW:Tabs W):GoodP (Fw W) Tryz.prog 78 xZ:=by
 intro S w cs vs Q hs hv hT
 refine Ae9 hW S w cs vs Q hs hv ?_
 simp only[xZ,PC.fun] at hT
 split at hT
 ·rename_i p r hf
  split at hf
  ·cases hf
   rename_i s c
   exact⟨(s,c),hT.1,⟨⟨rfl,⟨rfl,trivial⟩⟩,hT.2⟩⟩
  ·cases hf
 ·exact hT.elim
def Zn:PC:=PC.fun fun|[.str s,.str [c]]=>some (s.length≤100000000,.tup [.str (sS (Ca c s).1),.str (sS (Ca c s).2.1),.bool (sB (Ca c s).2.2)])|_=>none
theorem Xq{W:World}(hW:Tabs W):GoodP (Fw W) Tryz.prog 94 Zn:=by
 intro S w cs vs Q hs hv hT
 refine Air hW S w cs vs Q hs hv ?_
 simp only[Zn,PC.fun] at hT
 split at hT
 ·rename_i p r hf
  split at hf
  ·cases hf
   rename_i s c
   exact⟨(s,c),hT.1,⟨⟨rfl,⟨rfl,trivial⟩⟩,hT.2⟩⟩
  ·cases hf
 ·exact hT.elim
def yA:PC:=PC.fun fun|[.str s,.str t]=>some (s.length≤100000000,.int .i64 (sI (Lib.index s t)))|_=>none
theorem Ait{W:World}(hW:Tabs W):GoodP (Fw W) Tryz.prog 220 yA:=by
 have h:GoodP (Fw W) Tryz.prog 220 (PC.of (fun x:List UInt8 × List UInt8=>[.str x.1,.str x.2]) (fun x=>x.1.length≤100000000) (fun x=>.int .i64 (Lib.index x.1 x.2))):=by
  refine Lc (fun _=>rfl) (fun _=>rfl) ?_
  rintro⟨s,t⟩ S w vs hpre hf hs hv
  simp only at hpre hv ⊢
  obtain⟨x,y,rfl,hx,hy⟩:=xY hv
  obtain⟨sx,rfl,h1,h2⟩:=V.strR' hx
  obtain⟨sy,rfl,h3,h4⟩:=V.strR' hy
  obtain⟨m,hm⟩:=Xp hW hs
  have e1:=Nf sx h1
  refine(Any.strings_Index Tryz.lays143 sx sy m w (by omega) hm).mono ?_
  rintro e w' ⟨rfl,rfl⟩
  refine⟨_,rfl,fun S' w'=>?_,Below.refl _ _⟩
  rw[h1,h3]
  have g1:=Lib.index_ge s t
  have g2:=Lib.index_le s t
  exact .int _ _ (by have:IntKind.min .i64= -9223372036854775808:=rfl;omega) (by have:IntKind.max .i64=9223372036854775807:=rfl;omega)
 intro S w cs vs Q hs hv hT
 refine h S w cs vs Q hs hv ?_
 simp only[yA,PC.fun] at hT
 split at hT
 ·rename_i p r hf
  split at hf
  ·cases hf
   rename_i s t
   rw[Cm] at hT
   exact⟨(s,t),hT.1,⟨⟨rfl,⟨rfl,trivial⟩⟩,hT.2⟩⟩
  ·cases hf
 ·exact hT.elim
end
end Z
end Go.Vc
namespace Go.Vc
open Go Go.Proofs Go.RowKit Go.Pl
theorem Au4{S:Nat→Prop}{w:World}{a:AV}{vs:Array Value}(h:VL (fun _=>none) S w [a] vs):∃ x,vs=#[x]∧V (fun _=>none) S w a x:=by
 obtain⟨vs⟩:=vs
 match vs,h with
 |[x],h=>exact⟨x,rfl,h.2 0 _ _ rfl rfl⟩
 |[],h=>simp[VL] at h
 |_::_::_,h=>have:=h.1;simp at this
namespace Z
noncomputable section
@[irreducible] def Dw(s:List UInt8):Int:=match Lib.atoiAll s with
 | .ok v=>v
 | .range=>Lib.atoiSat s
 |_=>0
def A15(W:World):Prop:=(∃ ev,W.cell? ⟨2,0,none⟩=some ev∧(ev= .nilIface∨∃ te pe,ev= .iface te pe))∧(∃ ev,W.cell? ⟨3,0,none⟩=some ev∧(ev= .nilIface∨∃ te pe,ev= .iface te pe))
def Js(W:World):Prop:=Tabs W∧A15 W
theorem Alj{W:World}(hW:Js W){S:Nat→Prop}{w:World}(hs:Sok (Fw W) S w):(∃ ev,w.cell? ⟨2,0,none⟩=some ev∧(ev= .nilIface∨∃ te pe,ev= .iface te pe))∧(∃ ev,w.cell? ⟨3,0,none⟩=some ev∧(ev= .nilIface∨∃ te pe,ev= .iface te pe)):=by
 obtain⟨⟨m,hm,h1⟩,⟨n,hn,h2⟩⟩:=hW.2
 exact⟨⟨m,Fw.cell hs hm,h1⟩,⟨n,Fw.cell hs hn,h2⟩⟩
theorem Afa{ρ:Nat→Option Nat}{S:Nat→Prop}{w:World}{n:Int}{x:Value}(h: -9223372036854775808≤n∧n≤9223372036854775807):V ρ S w (.tup [.int .i64 (sI n),.any]) (.tuple #[.int .i64 n,x]):=by
 rw[Cm]
 refine .tup _ _ rfl fun i c' v hc hv=>?_
 match i,hc,hv with
 |0,hc,hv=>cases hc;cases hv;exact .int _ _ h.1 h.2
 |1,hc,hv=>cases hc;cases hv;exact .any _
 |i+2,hc,hv=>simp at hc
def Aok:PC:=PC.of (fun s:List UInt8=>[.str s]) (fun s=>s.length≤100000000) (fun s=>.tup [.int .i64 (sI (Dw s)),.any])
theorem Aiu{W:World}(hW:Js W):GoodP (Fw W) Tryz.prog 179 Aok:=by
 refine Lc (fun _=>rfl) (fun _=>rfl) ?_
 intro s S w vs hpre hf hs hv
 change s.length≤100000000 at hpre
 obtain⟨x,rfl,hx⟩:=Au4 (a:=.str s) hv
 obtain⟨sx,rfl,h1,h2⟩:=V.strR' hx
 obtain⟨⟨e1,c1,d1⟩,⟨e2,c2,d2⟩⟩:=Alj hW hs
 have hz:=Nf sx h1
 cases ha:Lib.atoiAll s
 ·rename_i v
  have hv:Dw s=v:=by unfold Dw;rw[ha]
  refine(Any.strconv_Atoi_ok Tryz.lays172 sx (by omega) v (by rw[h1];exact ha) w).mono ?_
  rintro e w' ⟨rfl,hw⟩
  refine⟨_,rfl,fun S' w'=>by rw[hv];exact Afa (Lib.atoiAll_bounds ha),?_⟩
  rcases hw with rfl|⟨t,rfl⟩
  ·exact Below.refl _ _
  ·exact Lib.bytesWorld_below _ _ _
 ·have hv:Dw s=0:=by unfold Dw;rw[ha]
  refine(Any.strconv_Atoi_syntax Tryz.lays172 sx (by omega) (by rw[h1];exact ha) e1 w c1 d1).mono ?_
  rintro e w' ⟨N,rfl,_,_,hb⟩
  exact⟨_,rfl,fun S' w'=>by rw[hv];exact Afa (by omega),hb⟩
 ·have hv:Dw s=Lib.atoiSat sx.data.toList:=by unfold Dw;rw[ha,h1]
  refine(Any.strconv_Atoi_range Tryz.lays172 sx (by omega) (by rw[h1];exact ha) e2 w c2 d2).mono ?_
  rintro e w' ⟨N,rfl,_,_,hb⟩
  exact⟨_,rfl,fun S' w'=>by rw[hv];exact Afa (Lib.atoiSat_bounds _),hb⟩
def Afb:PC:=PC.fun fun|[.str s]=>some (s.length≤100000000,.tup [.int .i64 (sI (Dw s)),.any])|_=>none
theorem Alk{W:World}(hW:Js W):GoodP (Fw W) Tryz.prog 179 Afb:=by
 intro S w cs vs Q hs hv hT
 refine Aiu hW S w cs vs Q hs hv ?_
 simp only[Afb,PC.fun] at hT
 split at hT
 ·rename_i p r hf
  split at hf
  ·cases hf
   rename_i s
   exact⟨s,hT.1,⟨rfl,trivial⟩,hT.2⟩
  ·cases hf
 ·exact hT.elim
end
end Z
end Go.Vc
namespace Go.Vc.Z
open Go Go.Vc Go.Proofs Go.RowKit Go.Pl Go.Lib
theorem G7(x z:List UInt8)(r:List (List UInt8))(c:UInt8):Lib.join (x::z::r) [c]=x++c::Lib.join (z::r) [c]:=by
 simp[Lib.join_cons,Lib.joinTail]
theorem eY{c:UInt8}:∀ {L:List (List UInt8)} {k:UInt8},c ∈ Lib.join L [k]→c=k∨∃ s ∈ L,c ∈ s
 |[],_,h=>by simp[Lib.join_nil] at h
 |[x],_,h=>.inr ⟨x,by simp,by rwa[Lib.join_one] at h⟩
 |x::z::r,k,h=>by
  rw[G7,List.mem_append,List.mem_cons] at h
  rcases h with h|h|h
  ·exact .inr ⟨x,by simp,h⟩
  ·exact .inl h
  ·rcases eY h with h|⟨s,hs,h⟩
   ·exact .inl h
   ·exact .inr ⟨s,List.mem_cons_of_mem _ hs,h⟩
theorem eZ{k:UInt8}(h: ¬(48≤k.toNat∧k.toNat≤57))(u:Nat):k ∉ decDigits u:=fun hm=>h (D5.1 (D6 u) k hm)
theorem Fl{k:UInt8}(h: ¬(48≤k.toNat∧k.toNat≤57))(h45:k≠45)(n:Int):k ∉ Lib.itoa n:=by
 unfold Lib.itoa
 split
 ·rw[List.mem_cons];exact fun hm=>hm.elim h45 (eZ h _)
 ·exact eZ h _
theorem Au5{k:UInt8}(h: ¬(48≤k.toNat∧k.toNat≤57))(n:Int):k ∉ A6 n:=by
 unfold A6
 split
 ·exact eZ h _
 ·simp
theorem Ng(n:Int):48≤(Eg n).toNat∧(Eg n).toNat≤57:=by
 have:(48+n % 10).toNat=48+(n % 10).toNat % 10:=by omega
 rw[Eg,this,Ki];omega
theorem fB(n:Int):(Eg n).toNat=48+(n % 10).toNat:=by
 have:(48+n % 10).toNat=48+(n % 10).toNat % 10:=by omega
 rw[Eg,this,Ki];omega
theorem Aa2{k:UInt8}(h: ¬(48≤k.toNat∧k.toNat≤57))(h46:k≠46)(n:Int):k ∉ Bu n:=by
 unfold Bu
 simp only[List.mem_append,List.mem_cons,List.not_mem_nil,or_false]
 rintro(hm|hm|hm|hm)
 ·exact eZ h _ hm
 ·exact h46 hm
 ·exact h (by rw[hm];exact Ng _)
 ·exact h (by rw[hm];exact Ng _)
theorem Ul{k:UInt8}(h: ¬(48≤k.toNat∧k.toNat≤57))(h45:k≠45)(h46:k≠46)(n:Int):k ∉ C0 n:=by
 unfold C0 Gn
 split
 ·split
  ·rw[List.mem_cons];exact fun hm=>hm.elim h45 (Aa2 h h46 _)
  ·exact Aa2 h h46 _
 ·simp
theorem fE{s:Int}(h:Jf s=true):C2 s=[stL.getD (s - 1).toNat 0]:=by
 unfold C2
 rw[if_pos h]
 rcases Q5 h with rfl|rfl|rfl|rfl|rfl|rfl|rfl|rfl|rfl<;>rfl
theorem Aiv{k:UInt8}(h:k ∉ stL)(s:Int):k ∉ C2 s:=by
 unfold C2
 split
 ·exact fun hm=>h (List.mem_of_mem_drop (List.mem_of_mem_take hm))
 ·simp
theorem Alm{k:UInt8}(h: ¬(48≤k.toNat∧k.toNat≤57))(h45:k≠45)(h46:k≠46)(h61:k≠61)(x:Tax):k ∉ Fp x:=by
 unfold Fp
 simp only[List.mem_append,List.mem_cons,List.not_mem_nil,or_false]
 rintro((hm|hm)|hm)
 ·exact Fl h h45 _ hm
 ·exact h61 hm
 ·exact Ul h h45 h46 _ hm
theorem Dt{n:Int}(h:Di n=true):Dl n=true:=by
 unfold Di at h
 unfold Dl
 simp only[Bool.and_eq_true,decide_eq_true_eq] at h ⊢
 omega
theorem Aln{s:List UInt8}(h:G3 s=true):(32:UInt8) ∉ s:=by
 unfold G3 at h
 simp only[Bool.and_eq_true,List.all_eq_true] at h
 intro hm
 have:=h.1 32 hm
 exact absurd this (by decide)
theorem Aa3(l:List Tax):(32:UInt8) ∉ By l:=by
 unfold By
 split
 ·decide
 ·intro hm
  rcases eY hm with h|⟨s,hs,h⟩
  ·exact absurd h (by decide)
  ·obtain⟨x,_,rfl⟩:=List.mem_map.1 hs
   exact Alm (by decide) (by decide) (by decide) (by decide) x h
end Go.Vc.Z
namespace Go.Vc.Z
open Go Go.Vc Go.Proofs Go.RowKit Go.Pl Go.Lib
theorem Qc(u:Nat):D7 (decDigits u)=true:=by
 unfold D7
 rw[D6,Bool.true_and]
 rcases Nat.eq_zero_or_pos u with rfl|h
 ·rw[show decDigits 0=[48] by rw[I6 (by decide)];rfl];rfl
 ·obtain⟨c,t,he,h1,h2⟩:=Aks u h
  rw[he]
  have: ¬c=48:=fun e=>by rw[e] at h1;exact absurd h1 (by decide)
  simp[this]
theorem oY{u:Nat}{m:Int}(h:(u:Int)≤m):Et (decDigits u) m=((u:Int),0):=by
 unfold Et
 rw[if_pos (Qc u),Eo,if_neg (by omega)]
theorem Aa4{n:Int}(h:0≤n):Lib.itoa n=decDigits n.toNat:=by unfold Lib.itoa;rw[if_neg (by omega)]
theorem C3{n:Int}(h0:0≤n)(h1:n≤9223372036854775807):Aq (Lib.itoa n)=(n,true):=by
 have:((n.toNat:Nat):Int)=n:=by omega
 unfold Aq
 rw[Aa4 h0,oY (by omega),this];rfl
theorem C4{n:Int}(h0:0≤n)(h1:n≤4611686018427387904):A9 (Lib.itoa n)=n:=by
 have:((n.toNat:Nat):Int)=n:=by omega
 unfold A9
 rw[Aa4 h0,oY (by omega),this,if_pos rfl]
theorem It{t:Int}(h:checkN t=0):numOf (A6 t)=(t,0):=by
 obtain⟨h0,h1⟩:=Sn h
 have e:((t.toNat:Nat):Int)=t:=by omega
 have hl:(decDigits t.toNat).length=13:=by
  rw[decDigits_length];exact nDigits_unique 12 t.toNat (by omega) (by omega)
 unfold A6 numOf
 rw[if_pos h,if_pos ⟨hl,D6 _⟩,Eo,e,if_pos h]
@[irreducible] def statOf(s:List UInt8):Int:=if s=[79] then 1 else if s=[67] then 2 else if s=[76] then 3 else if s=[70] then 4 else if s=[69] then 5 else if s=[82] then 6 else if s=[86] then 7 else if s=[83] then 8 else if s=[65] then 9 else 0
theorem Vo{k:Int}(h:Jf k=true):statOf (C2 k)=k:=by
 rw[fE h]
 rcases Q5 h with rfl|rfl|rfl|rfl|rfl|rfl|rfl|rfl|rfl<;>(unfold statOf;rfl)
theorem We{s:List UInt8}:statOf s=0∨Jf (statOf s)=true:=by
 unfold statOf Jf
 repeat' split
 all_goals first|exact .inl rfl|exact .inr rfl
def I9(s:List UInt8):Int:=100*worth (Ca 46 s).1+worth (Ca 46 s).2.1
def Qd(s:List UInt8):Bool:=(Ca 46 s).2.2&&D7 (Ca 46 s).1&&allDig (Ca 46 s).2.1&&decide ((Ca 46 s).2.1.length=2)
@[irreducible] def Ds(s:List UInt8):Int × Int:=
 if Lib.hasPrefix s [45]=true then
  (if Qd (s.drop 1)=true∧I9 (s.drop 1)≠0 then(if 1000000000000<I9 (s.drop 1) then(0,14) else(-I9 (s.drop 1),0)) else(0,4))
 else if Qd s=true then(if 1000000000000<I9 s then(0,14) else(I9 s,0)) else(0,4)
theorem Aa5(a b:Int):allDig [Eg a,Eg b]=true∧worth [Eg a,Eg b]=10*(a % 10).toNat+(b % 10).toNat:=by
 refine⟨?_,?_⟩
 ·rw[D5];intro c hc
  simp only[List.mem_cons,List.not_mem_nil,or_false] at hc
  rcases hc with rfl|rfl<;>exact Ng _
 ·simp only[worth,List.foldl_cons,List.foldl_nil,fB];omega
theorem oZ{n:Int}:Ca 46 (Bu n)=(decDigits (n / 10 / 10).toNat,[Eg (n / 10),Eg n],true):=by
 unfold Bu
 exact Uj (eZ (by decide) _) _
theorem aP{n:Int}:Qd (Bu n)=true:=by
 unfold Qd
 rw[oZ]
 simp only[Bool.true_and,Qc,(Aa5 _ _).1];rfl
theorem S9{n:Int}(h:0≤n):I9 (Bu n)=n:=by
 unfold I9
 rw[oZ]
 simp only[Eo,(Aa5 _ _).2];omega
theorem Wg{n:Int}:Lib.hasPrefix (Bu n) [45]=false:=by
 unfold Bu
 have h1:=D6 (n / 10 / 10).toNat
 have h2:=xI (n / 10 / 10).toNat
 cases hd:decDigits (n / 10 / 10).toNat with
 |nil=>exact absurd hd h2
 |cons c t=>
  rw[hd,D5] at h1
  have:=h1 c (by simp)
  have hc: ¬(45:UInt8)=c:=fun e=>by rw[←e] at this;exact absurd this (by decide)
  simp[Lib.hasPrefix,List.isPrefixOf,hc]
theorem Ou{n:Int}(h:Dl n=true):Ds (C0 n)=(n,0):=by
 have hb: -1000000000000≤n∧n≤1000000000000:=by unfold Dl at h;simpa using h
 unfold C0 Ds Gn
 rw[if_pos h]
 split
 ·rename_i hn
  rw[if_pos (by simp[Lib.hasPrefix,List.isPrefixOf])]
  rw[show(45::Bu (-n)).drop 1=Bu (-n) from rfl,S9 (by omega),if_pos ⟨aP,by omega⟩,if_neg (by omega),Int.neg_neg]
 ·rw[if_neg (by rw[Wg];simp),if_pos aP,S9 (by omega),if_neg (by omega)]
@[irreducible] def El(s:List UInt8):List UInt8 × Int × Bool:=((Ca 61 s).1,(Ds (Ca 61 s).2.1).1,(Ca 61 s).2.2&&decide ((Ds (Ca 61 s).2.1).2=0))
@[irreducible] def Eu(s:List UInt8):Coupon × Bool:=
 (⟨(Aq (Ca 64 (El s).1).1).1,(Aq (Ca 64 (El s).1).2.1).1,(El s).2.1,0,0,0⟩,(El s).2.2&&(Ca 64 (El s).1).2.2&&(Aq (Ca 64 (El s).1).1).2&&(Aq (Ca 64 (El s).1).2.1).2)
theorem Aiw{c:Coupon}(h:Gk c 0=true):Eu (Bs c)=(c,true):=by
 unfold Gk F7 at h
 simp only[Bool.and_eq_true,decide_eq_true_eq] at h
 obtain⟨⟨⟨⟨⟨⟨h1,h2⟩,h3,h4⟩,h5⟩,h6⟩,h7⟩,h8⟩:=h
 have e1:Ca 61 (Bs c)=(Lib.itoa c.flight++[64]++Lib.itoa c.day,C0 c.value,true):=by
  unfold Bs
  rw[show Lib.itoa c.flight++[64]++Lib.itoa c.day++[61]++C0 c.value=(Lib.itoa c.flight++[64]++Lib.itoa c.day)++61::C0 c.value by simp]
  refine Uj ?_ _
  simp only[List.mem_append,List.mem_singleton,not_or]
  exact⟨⟨Fl (by decide) (by decide) _,by decide⟩,Fl (by decide) (by decide) _⟩
 have e2:El (Bs c)=(Lib.itoa c.flight++[64]++Lib.itoa c.day,c.value,true):=by
  unfold El;rw[e1];simp only[Ou (Dt h5)];rfl
 have e3:Ca 64 (Lib.itoa c.flight++[64]++Lib.itoa c.day)=(Lib.itoa c.flight,Lib.itoa c.day,true):=by
  rw[show Lib.itoa c.flight++[64]++Lib.itoa c.day=Lib.itoa c.flight++64::Lib.itoa c.day by simp]
  exact Uj (Fl (by decide) (by decide) _) _
 unfold Eu
 rw[e2];simp only[e3,C3 (n:=c.flight) (by omega) (by omega),C3 (n:=c.day) (by omega) (by omega),Bool.true_and]
 cases c;simp_all
@[irreducible] def Dq(s:List UInt8):Tax × Bool:=(⟨(Aq (El s).1).1,(El s).2.1⟩,(El s).2.2&&(Aq (El s).1).2)
theorem Aix{x:Tax}(h1:1≤x.code∧x.code≤99)(h2:Di x.amount=true):Dq (Fp x)=(x,true):=by
 have e1:Ca 61 (Fp x)=(Lib.itoa x.code,C0 x.amount,true):=by
  unfold Fp
  rw[show Lib.itoa x.code++[61]++C0 x.amount=Lib.itoa x.code++61::C0 x.amount by simp]
  exact Uj (Fl (by decide) (by decide) _) _
 unfold Dq El
 rw[e1];simp only[Ou (Dt h2),C3 (n:=x.code) (by omega) (by omega),Bool.true_and];rfl
theorem Vp:∀ {l:List Tax} {n:Int},Cz n l=true→1≤n→∀ x ∈ l,(1≤x.code∧x.code≤99)∧Di x.amount=true
 |[],_,_,_,x,hx=>by cases hx
 |y::l,n,h,hn,x,hx=>by
  simp only[Cz,Bool.and_eq_true,decide_eq_true_eq] at h
  rcases List.mem_cons.1 hx with rfl|hx
  ·exact⟨⟨by omega,h.1.1.2⟩,h.1.2⟩
  ·exact Vp h.2 (by omega) x hx
theorem Re{l:List Tax}(h:Dg l=true):∀ x ∈ l,(1≤x.code∧x.code≤99)∧Di x.amount=true:=by
 unfold Dg at h
 simp only[Bool.and_eq_true] at h
 exact Vp h.1 (by omega)
theorem pA{l:List Tax}(h:l≠[]):Aa 44 (By l)=l.map Fp:=by
 have hl: ¬l.length=0:=fun e=>h (List.length_eq_zero_iff.1 e)
 unfold By
 rw[if_neg hl]
 refine Ko (by simpa using h) fun w hw=>?_
 obtain⟨c,_,rfl⟩:=List.mem_map.1 hw
 exact Alm (by decide) (by decide) (by decide) (by decide) c
theorem aQ{l:List Tax}(h:l≠[]):By l≠[45]:=by
 have hl: ¬l.length=0:=fun e=>h (List.length_eq_zero_iff.1 e)
 intro e
 have:(61:UInt8) ∈ By l:=by
  unfold By
  rw[if_neg hl]
  cases l with
  |nil=>exact absurd rfl h
  |cons x l=>rw[List.map_cons,Lib.join_cons];exact List.mem_append_left _ (by unfold Fp;simp)
 rw[e] at this
 exact absurd this (by decide)
end Go.Vc.Z
