/- Printed by PrintTY: what the program's types are. -/
import Derived.Test.YtpmpclbdnakniaaGreatDoorV8
import Derived.Test.YtpmpclbdnakniaaGreatDoorProg
set_option linter.all false
set_option linter.unusedVariables false
set_option linter.unusedSimpArgs false
namespace Go.Vc.Z
open Go Go.Vc Go.Proofs
def ty0:TI:=⟨1,0,false,.other,(some (.any)),true⟩
theorem ok0:A7 Tryz.prog 0=some ty0:=by kernel_rfl
def ty2:TI:=⟨1,8,false,(.int .i64),(some (.int .i64 0)),true⟩
theorem ok2:A7 Tryz.prog 2=some ty2:=by kernel_rfl
def ty3:TI:=⟨1,8,false,(.int .i64),(some (.int .i64 0)),true⟩
theorem ok3:A7 Tryz.prog 3=some ty3:=by kernel_rfl
def ty4:TI:=⟨1,1,false,.bool,(some (.bool false)),true⟩
theorem ok4:A7 Tryz.prog 4=some ty4:=by kernel_rfl
def ty5:TI:=⟨1,1,false,(.int .u8),(some (.int .u8 0)),true⟩
theorem ok5:A7 Tryz.prog 5=some ty5:=by kernel_rfl
def ty9:TI:=⟨1,16,false,.str,(some (.str [])),true⟩
theorem ok9:A7 Tryz.prog 9=some ty9:=by kernel_rfl
def Avq:TI:=⟨1,16,false,.iface,(some (.nilif)),true⟩
theorem A0w:A7 Tryz.prog 20=some Avq:=by kernel_rfl
def Cu:TI:=⟨1,4,false,(.int .i32),(some (.int .i32 0)),true⟩
theorem A0x:A7 Tryz.prog 21=some Cu:=by kernel_rfl
def Avr:TI:=⟨1,8,false,(.int .i64),(some (.int .i64 0)),true⟩
theorem A0y:A7 Tryz.prog 22=some Avr:=by kernel_rfl
def Avs:TI:=⟨1,24,false,(.slice 42),(some (.nilsl)),true⟩
theorem A0z:A7 Tryz.prog 23=some Avs:=by kernel_rfl
def Avt:TI:=⟨1,24,false,(.slice 95),(some (.nilsl)),true⟩
theorem A00:A7 Tryz.prog 24=some Avt:=by kernel_rfl
def Avu:TI:=⟨1,24,false,(.slice 47),(some (.nilsl)),true⟩
theorem A01:A7 Tryz.prog 25=some Avu:=by kernel_rfl
def Avv:TI:=⟨4,80,true,(.struct [(0,22),(1,23),(2,24),(3,25)]),(some (.agg [.int .i64 0,.nilsl,.nilsl,.nilsl])),true⟩
theorem A02:A7 Tryz.prog 26=some Avv:=by kernel_rfl
def Avw:TI:=⟨4,80,true,(.struct [(0,22),(1,23),(2,24),(3,25)]),(some (.agg [.int .i64 0,.nilsl,.nilsl,.nilsl])),true⟩
theorem A03:A7 Tryz.prog 27=some Avw:=by kernel_rfl
def Avx:TI:=⟨6,96,true,(.struct [(0,27),(4,22),(5,3)]),(some (.agg [.int .i64 0,.nilsl,.nilsl,.nilsl,.int .i64 0,.int .i64 0])),true⟩
theorem A04:A7 Tryz.prog 28=some Avx:=by kernel_rfl
def Avy:TI:=⟨6,96,true,(.struct [(0,27),(4,22),(5,3)]),(some (.agg [.int .i64 0,.nilsl,.nilsl,.nilsl,.int .i64 0,.int .i64 0])),true⟩
theorem A05:A7 Tryz.prog 29=some Avy:=by kernel_rfl
def Avz:TI:=⟨1,24,false,(.slice 9),(some (.nilsl)),true⟩
theorem A06:A7 Tryz.prog 32=some Avz:=by kernel_rfl
def Ck:TI:=⟨1,8,false,(.int .u64),(some (.int .u64 0)),true⟩
theorem Akj:A7 Tryz.prog 37=some Ck:=by kernel_rfl
def Auc:TI:=⟨1,24,false,(.slice 45),(some (.nilsl)),true⟩
theorem Aud:A7 Tryz.prog 38=some Auc:=by kernel_rfl
def Aue:TI:=⟨1,24,false,(.slice 113),(some (.nilsl)),true⟩
theorem Auf:A7 Tryz.prog 39=some Aue:=by kernel_rfl
def Av0:TI:=⟨1,24,false,(.slice 105),(some (.nilsl)),true⟩
theorem A07:A7 Tryz.prog 40=some Av0:=by kernel_rfl
def Av1:TI:=⟨11,144,true,(.struct [(0,37),(1,9),(2,3),(3,38),(4,39),(5,37),(6,37),(7,37),(8,2),(9,3),(10,40)]),(some (.agg [.int .u64 0,.str [],.int .i64 0,.nilsl,.nilsl,.int .u64 0,.int .u64 0,.int .u64 0,.int .i64 0,.int .i64 0,.nilsl])),true⟩
theorem A08:A7 Tryz.prog 41=some Av1:=by kernel_rfl
def Cv:TI:=⟨11,144,true,(.struct [(0,37),(1,9),(2,3),(3,38),(4,39),(5,37),(6,37),(7,37),(8,2),(9,3),(10,40)]),(some (.agg [.int .u64 0,.str [],.int .i64 0,.nilsl,.nilsl,.int .u64 0,.int .u64 0,.int .u64 0,.int .i64 0,.int .i64 0,.nilsl])),true⟩
theorem A09:A7 Tryz.prog 42=some Cv:=by kernel_rfl
def Cl:TI:=⟨1,8,false,(.int .i64),(some (.int .i64 0)),true⟩
theorem Akk:A7 Tryz.prog 43=some Cl:=by kernel_rfl
def Av2:TI:=⟨6,48,true,(.struct [(0,3),(1,3),(2,2),(3,43),(4,3),(5,37)]),(some (.agg [.int .i64 0,.int .i64 0,.int .i64 0,.int .i64 0,.int .i64 0,.int .u64 0])),true⟩
theorem A1a:A7 Tryz.prog 44=some Av2:=by kernel_rfl
def Cq:TI:=⟨6,48,true,(.struct [(0,3),(1,3),(2,2),(3,43),(4,3),(5,37)]),(some (.agg [.int .i64 0,.int .i64 0,.int .i64 0,.int .i64 0,.int .i64 0,.int .u64 0])),true⟩
theorem Aug:A7 Tryz.prog 45=some Cq:=by kernel_rfl
def Av3:TI:=⟨9,72,true,(.struct [(0,37),(1,3),(2,4),(3,45)]),(some (.agg [.int .u64 0,.int .i64 0,.bool false,.int .i64 0,.int .i64 0,.int .i64 0,.int .i64 0,.int .i64 0,.int .u64 0])),true⟩
theorem A1b:A7 Tryz.prog 46=some Av3:=by kernel_rfl
def Cw:TI:=⟨9,72,true,(.struct [(0,37),(1,3),(2,4),(3,45)]),(some (.agg [.int .u64 0,.int .i64 0,.bool false,.int .i64 0,.int .i64 0,.int .i64 0,.int .i64 0,.int .i64 0,.int .u64 0])),true⟩
theorem A1c:A7 Tryz.prog 47=some Cw:=by kernel_rfl
def Av4:TI:=⟨1,8,false,.func,(some (.nilfn)),true⟩
theorem A1d:A7 Tryz.prog 52=some Av4:=by kernel_rfl
def Akl:TI:=⟨1,8,false,(.int .i64),(some (.int .i64 0)),true⟩
theorem Auh:A7 Tryz.prog 54=some Akl:=by kernel_rfl
def Av5:TI:=⟨12,144,true,(.struct [(0,9),(1,54),(2,3),(3,37),(4,3),(5,43),(6,9),(7,38),(8,39),(9,2),(10,3),(11,3)]),(some (.agg [.str [],.int .i64 0,.int .i64 0,.int .u64 0,.int .i64 0,.int .i64 0,.str [],.nilsl,.nilsl,.int .i64 0,.int .i64 0,.int .i64 0])),true⟩
theorem A1e:A7 Tryz.prog 55=some Av5:=by kernel_rfl
def Aui:TI:=⟨12,144,true,(.struct [(0,9),(1,54),(2,3),(3,37),(4,3),(5,43),(6,9),(7,38),(8,39),(9,2),(10,3),(11,3)]),(some (.agg [.str [],.int .i64 0,.int .i64 0,.int .u64 0,.int .i64 0,.int .i64 0,.str [],.nilsl,.nilsl,.int .i64 0,.int .i64 0,.int .i64 0])),true⟩
theorem Auj:A7 Tryz.prog 56=some Aui:=by kernel_rfl
def Av6:TI:=⟨1,8,false,.func,(some (.nilfn)),true⟩
theorem A1f:A7 Tryz.prog 58=some Av6:=by kernel_rfl
def Av7:TI:=⟨1,0,false,.other,(some (.any)),true⟩
theorem A1g:A7 Tryz.prog 59=some Av7:=by kernel_rfl
def Av8:TI:=⟨1,0,false,.other,(some (.any)),true⟩
theorem A1h:A7 Tryz.prog 62=some Av8:=by kernel_rfl
def Auk:TI:=⟨1,8,false,(.int .i64),(some (.int .i64 0)),true⟩
theorem Aul:A7 Tryz.prog 64=some Auk:=by kernel_rfl
def Aum:TI:=⟨1,24,false,(.slice 3),(some (.nilsl)),true⟩
theorem Aun:A7 Tryz.prog 65=some Aum:=by kernel_rfl
def Av9:TI:=⟨17,200,true,(.struct [(0,64),(1,3),(2,56),(14,3),(15,65),(16,4)]),(some (.agg [.int .i64 0,.int .i64 0,.str [],.int .i64 0,.int .i64 0,.int .u64 0,.int .i64 0,.int .i64 0,.str [],.nilsl,.nilsl,.int .i64 0,.int .i64 0,.int .i64 0,.int .i64 0,.nilsl,.bool false])),true⟩
theorem A1i:A7 Tryz.prog 66=some Av9:=by kernel_rfl
def Cx:TI:=⟨17,200,true,(.struct [(0,64),(1,3),(2,56),(14,3),(15,65),(16,4)]),(some (.agg [.int .i64 0,.int .i64 0,.str [],.int .i64 0,.int .i64 0,.int .u64 0,.int .i64 0,.int .i64 0,.str [],.nilsl,.nilsl,.int .i64 0,.int .i64 0,.int .i64 0,.int .i64 0,.nilsl,.bool false])),true⟩
theorem Auo:A7 Tryz.prog 67=some Cx:=by kernel_rfl
def Awa:TI:=⟨1,0,false,.other,(some (.any)),true⟩
theorem A1j:A7 Tryz.prog 68=some Awa:=by kernel_rfl
def Awb:TI:=⟨1,0,false,.other,(some (.any)),true⟩
theorem A1k:A7 Tryz.prog 70=some Awb:=by kernel_rfl
def Awc:TI:=⟨1,8,false,.func,(some (.nilfn)),true⟩
theorem A1l:A7 Tryz.prog 73=some Awc:=by kernel_rfl
def Awd:TI:=⟨1,24,false,(.slice 161),(some (.nilsl)),true⟩
theorem A1m:A7 Tryz.prog 76=some Awd:=by kernel_rfl
def Awe:TI:=⟨2,32,true,(.struct [(0,76),(1,3)]),(some (.agg [.nilsl,.int .i64 0])),true⟩
theorem A1n:A7 Tryz.prog 77=some Awe:=by kernel_rfl
def Awf:TI:=⟨2,32,true,(.struct [(0,76),(1,3)]),(some (.agg [.nilsl,.int .i64 0])),true⟩
theorem A1o:A7 Tryz.prog 78=some Awf:=by kernel_rfl
def Awg:TI:=⟨1,24,false,(.slice 67),(some (.nilsl)),true⟩
theorem A1p:A7 Tryz.prog 79=some Awg:=by kernel_rfl
def Awh:TI:=⟨1,0,false,.other,(some (.any)),true⟩
theorem A1q:A7 Tryz.prog 81=some Awh:=by kernel_rfl
def Awi:TI:=⟨1,0,false,.other,(some (.any)),true⟩
theorem A1r:A7 Tryz.prog 84=some Awi:=by kernel_rfl
def Awj:TI:=⟨1,0,false,.other,(some (.any)),true⟩
theorem A1s:A7 Tryz.prog 90=some Awj:=by kernel_rfl
def Awk:TI:=⟨1,8,false,(.int .i64),(some (.int .i64 0)),true⟩
theorem A1t:A7 Tryz.prog 93=some Awk:=by kernel_rfl
def Awl:TI:=⟨10,80,true,(.struct [(0,3),(1,37),(2,3),(3,93),(4,2),(5,2),(6,2),(7,2),(8,2),(9,2)]),(some (.agg [.int .i64 0,.int .u64 0,.int .i64 0,.int .i64 0,.int .i64 0,.int .i64 0,.int .i64 0,.int .i64 0,.int .i64 0,.int .i64 0])),true⟩
theorem A1u:A7 Tryz.prog 94=some Awl:=by kernel_rfl
def Cy:TI:=⟨10,80,true,(.struct [(0,3),(1,37),(2,3),(3,93),(4,2),(5,2),(6,2),(7,2),(8,2),(9,2)]),(some (.agg [.int .i64 0,.int .u64 0,.int .i64 0,.int .i64 0,.int .i64 0,.int .i64 0,.int .i64 0,.int .i64 0,.int .i64 0,.int .i64 0])),true⟩
theorem A1v:A7 Tryz.prog 95=some Cy:=by kernel_rfl
def Awm:TI:=⟨1,24,false,(.slice 37),(some (.nilsl)),true⟩
theorem A1w:A7 Tryz.prog 98=some Awm:=by kernel_rfl
def Aqf:TI:=⟨1,8,false,.func,(some (.nilfn)),true⟩
theorem Awn:A7 Tryz.prog 101=some Aqf:=by kernel_rfl
def Aqg:TI:=⟨4,32,true,(.struct [(0,3),(1,3),(2,43),(3,43)]),(some (.agg [.int .i64 0,.int .i64 0,.int .i64 0,.int .i64 0])),true⟩
theorem Awo:A7 Tryz.prog 104=some Aqg:=by kernel_rfl
def Bm:TI:=⟨4,32,true,(.struct [(0,3),(1,3),(2,43),(3,43)]),(some (.agg [.int .i64 0,.int .i64 0,.int .i64 0,.int .i64 0])),true⟩
theorem Awp:A7 Tryz.prog 105=some Bm:=by kernel_rfl
def Aqh:TI:=⟨1,8,false,.func,(some (.nilfn)),true⟩
theorem Awq:A7 Tryz.prog 107=some Aqh:=by kernel_rfl
def Aqi:TI:=⟨2,16,true,(.struct [(0,3),(1,2)]),(some (.agg [.int .i64 0,.int .i64 0])),true⟩
theorem Awr:A7 Tryz.prog 112=some Aqi:=by kernel_rfl
def Bl:TI:=⟨2,16,true,(.struct [(0,3),(1,2)]),(some (.agg [.int .i64 0,.int .i64 0])),true⟩
theorem Akm:A7 Tryz.prog 113=some Bl:=by kernel_rfl
def Aqj:TI:=⟨1,8,false,.func,(some (.nilfn)),true⟩
theorem Aws:A7 Tryz.prog 114=some Aqj:=by kernel_rfl
def Aqk:TI:=⟨1,24,false,(.slice 43),(some (.nilsl)),true⟩
theorem Awt:A7 Tryz.prog 115=some Aqk:=by kernel_rfl
def Aql:TI:=⟨1,0,false,.other,(some (.any)),true⟩
theorem Awu:A7 Tryz.prog 116=some Aql:=by kernel_rfl
def Aqm:TI:=⟨1,8,false,(.map 21 125),(some (.nilmap)),true⟩
theorem Awv:A7 Tryz.prog 120=some Aqm:=by kernel_rfl
def Aqn:TI:=⟨1,8,false,.func,(some (.nilfn)),true⟩
theorem Aww:A7 Tryz.prog 123=some Aqn:=by kernel_rfl
def Aqo:TI:=⟨2,16,true,(.struct [(0,58),(1,123)]),(some (.agg [.nilfn,.nilfn])),true⟩
theorem Awx:A7 Tryz.prog 124=some Aqo:=by kernel_rfl
def Aqp:TI:=⟨2,16,true,(.struct [(0,58),(1,123)]),(some (.agg [.nilfn,.nilfn])),true⟩
theorem Awy:A7 Tryz.prog 125=some Aqp:=by kernel_rfl
def Aqq:TI:=⟨1,8,false,(.ptr 56),(some (.nilp)),true⟩
theorem Awz:A7 Tryz.prog 130=some Aqq:=by kernel_rfl
def Aqr:TI:=⟨1,0,false,.other,(some (.any)),true⟩
theorem Aw0:A7 Tryz.prog 135=some Aqr:=by kernel_rfl
def Aqs:TI:=⟨1,0,false,.other,(some (.any)),true⟩
theorem Aw1:A7 Tryz.prog 141=some Aqs:=by kernel_rfl
def Aqt:TI:=⟨1,0,false,.other,(some (.any)),true⟩
theorem Aw2:A7 Tryz.prog 143=some Aqt:=by kernel_rfl
def Aqu:TI:=⟨1,16,true,(.struct [(0,9)]),(some (.agg [.str []])),true⟩
theorem Aw3:A7 Tryz.prog 147=some Aqu:=by kernel_rfl
def Aqv:TI:=⟨1,8,false,(.map 4 147),(some (.nilmap)),true⟩
theorem Aw4:A7 Tryz.prog 148=some Aqv:=by kernel_rfl
def Aqw:TI:=⟨1,8,false,(.ptr 152),(some (.nilp)),true⟩
theorem Aw5:A7 Tryz.prog 149=some Aqw:=by kernel_rfl
def Bn:TI:=⟨1,24,false,(.slice 5),(some (.nilsl)),true⟩
theorem Aw6:A7 Tryz.prog 150=some Bn:=by kernel_rfl
def Aqx:TI:=⟨2,32,true,(.struct [(0,149),(1,150)]),(some (.agg [.nilp,.nilsl])),true⟩
theorem Aw7:A7 Tryz.prog 151=some Aqx:=by kernel_rfl
def Aqy:TI:=⟨2,32,true,(.struct [(0,149),(1,150)]),(some (.agg [.nilp,.nilsl])),true⟩
theorem Aw8:A7 Tryz.prog 152=some Aqy:=by kernel_rfl
def Aqz:TI:=⟨1,16,false,.iface,(some (.nilif)),false⟩
theorem Aw9:A7 Tryz.prog 153=some Aqz:=by kernel_rfl
def Aq0:TI:=⟨1,16,false,.iface,(some (.nilif)),false⟩
theorem Axa:A7 Tryz.prog 154=some Aq0:=by kernel_rfl
def Aq1:TI:=⟨1,0,false,.other,(some (.any)),true⟩
theorem Axb:A7 Tryz.prog 155=some Aq1:=by kernel_rfl
def Aq2:TI:=⟨1,8,false,.func,(some (.nilfn)),true⟩
theorem Axc:A7 Tryz.prog 157=some Aq2:=by kernel_rfl
def Aq3:TI:=⟨3,24,true,(.struct [(0,3),(1,3),(2,3)]),(some (.agg [.int .i64 0,.int .i64 0,.int .i64 0])),true⟩
theorem Axd:A7 Tryz.prog 158=some Aq3:=by kernel_rfl
def Aq4:TI:=⟨3,24,true,(.struct [(0,3),(1,3),(2,3)]),(some (.agg [.int .i64 0,.int .i64 0,.int .i64 0])),true⟩
theorem Axe:A7 Tryz.prog 159=some Aq4:=by kernel_rfl
def Aq5:TI:=⟨6,48,true,(.struct [(0,159),(3,3),(4,3),(5,3)]),(some (.agg [.int .i64 0,.int .i64 0,.int .i64 0,.int .i64 0,.int .i64 0,.int .i64 0])),true⟩
theorem Axf:A7 Tryz.prog 160=some Aq5:=by kernel_rfl
def Bo:TI:=⟨6,48,true,(.struct [(0,159),(3,3),(4,3),(5,3)]),(some (.agg [.int .i64 0,.int .i64 0,.int .i64 0,.int .i64 0,.int .i64 0,.int .i64 0])),true⟩
theorem Axg:A7 Tryz.prog 161=some Bo:=by kernel_rfl
def Aq6:TI:=⟨1,0,false,.other,(some (.any)),true⟩
theorem Axh:A7 Tryz.prog 163=some Aq6:=by kernel_rfl
def Aq7:TI:=⟨1,0,false,.other,(some (.any)),true⟩
theorem Axi:A7 Tryz.prog 167=some Aq7:=by kernel_rfl
def Aq8:TI:=⟨6,48,true,(.arr 6 2),(some (.agg [.int .i64 0,.int .i64 0,.int .i64 0,.int .i64 0,.int .i64 0,.int .i64 0])),true⟩
theorem Axj:A7 Tryz.prog 169=some Aq8:=by kernel_rfl
def Aq9:TI:=⟨6,48,true,(.arr 6 2),(some (.agg [.int .i64 0,.int .i64 0,.int .i64 0,.int .i64 0,.int .i64 0,.int .i64 0])),true⟩
theorem Axk:A7 Tryz.prog 170=some Aq9:=by kernel_rfl
def Ara:TI:=⟨1,24,false,(.slice 2),(some (.nilsl)),true⟩
theorem Axl:A7 Tryz.prog 173=some Ara:=by kernel_rfl
def Arb:TI:=⟨1,8,false,.func,(some (.nilfn)),true⟩
theorem Axm:A7 Tryz.prog 178=some Arb:=by kernel_rfl
def Arc:TI:=⟨1,24,false,(.slice 21),(some (.nilsl)),true⟩
theorem Axn:A7 Tryz.prog 180=some Arc:=by kernel_rfl
def Ard:TI:=⟨1,8,false,.func,(some (.nilfn)),true⟩
theorem Axo:A7 Tryz.prog 182=some Ard:=by kernel_rfl
def Are:TI:=⟨1,8,false,(.ptr 193),(some (.nilp)),true⟩
theorem Axp:A7 Tryz.prog 187=some Are:=by kernel_rfl
def Arf:TI:=⟨1,8,false,(.ptr 327),(some (.nilp)),true⟩
theorem Axq:A7 Tryz.prog 188=some Arf:=by kernel_rfl
def Arh:TI:=⟨1,8,false,(.ptr 322),(some (.nilp)),true⟩
theorem Axr:A7 Tryz.prog 189=some Arh:=by kernel_rfl
def Ari:TI:=⟨3,24,true,(.struct [(0,188),(1,189),(2,4)]),(some (.agg [.nilp,.nilp,.bool false])),true⟩
theorem Axs:A7 Tryz.prog 190=some Ari:=by kernel_rfl
def Arj:TI:=⟨3,24,true,(.struct [(0,188),(1,189),(2,4)]),(some (.agg [.nilp,.nilp,.bool false])),true⟩
theorem Axt:A7 Tryz.prog 191=some Arj:=by kernel_rfl
def Ark:TI:=⟨4,32,true,(.struct [(0,191),(3,130)]),(some (.agg [.nilp,.nilp,.bool false,.nilp])),true⟩
theorem Axu:A7 Tryz.prog 192=some Ark:=by kernel_rfl
def Arl:TI:=⟨4,32,true,(.struct [(0,191),(3,130)]),(some (.agg [.nilp,.nilp,.bool false,.nilp])),true⟩
theorem Axv:A7 Tryz.prog 193=some Arl:=by kernel_rfl
def Arm:TI:=⟨1,8,false,(.ptr 9),(some (.nilp)),true⟩
theorem Axw:A7 Tryz.prog 195=some Arm:=by kernel_rfl
def Arn:TI:=⟨1,8,false,.func,(some (.nilfn)),true⟩
theorem Axx:A7 Tryz.prog 196=some Arn:=by kernel_rfl
def Bp:TI:=⟨1,8,false,(.ptr 3),(some (.nilp)),true⟩
theorem Axy:A7 Tryz.prog 198=some Bp:=by kernel_rfl
def Aro:TI:=⟨1,8,false,.func,(some (.nilfn)),true⟩
theorem Axz:A7 Tryz.prog 199=some Aro:=by kernel_rfl
def Arp:TI:=⟨1,0,false,.other,(some (.any)),true⟩
theorem Ax0:A7 Tryz.prog 200=some Arp:=by kernel_rfl
def Arq:TI:=⟨1,0,false,.other,(some (.any)),true⟩
theorem Ax1:A7 Tryz.prog 202=some Arq:=by kernel_rfl
def Arr:TI:=⟨1,0,false,.other,(some (.any)),true⟩
theorem Ax2:A7 Tryz.prog 204=some Arr:=by kernel_rfl
def Ars:TI:=⟨1,24,false,(.slice 242),(some (.nilsl)),true⟩
theorem Ax3:A7 Tryz.prog 206=some Ars:=by kernel_rfl
def Art:TI:=⟨1,0,false,.other,(some (.any)),true⟩
theorem Ax4:A7 Tryz.prog 207=some Art:=by kernel_rfl
def Aru:TI:=⟨1,0,false,.other,(some (.any)),true⟩
theorem Ax5:A7 Tryz.prog 214=some Aru:=by kernel_rfl
def Arv:TI:=⟨1,8,false,(.map 3 220),(some (.nilmap)),true⟩
theorem Ax6:A7 Tryz.prog 218=some Arv:=by kernel_rfl
def Arw:TI:=⟨1,1,true,(.struct [(0,4)]),(some (.agg [.bool false])),true⟩
theorem Ax7:A7 Tryz.prog 220=some Arw:=by kernel_rfl
def Arx:TI:=⟨1,8,false,(.ptr 5),(some (.nilp)),true⟩
theorem Ax8:A7 Tryz.prog 221=some Arx:=by kernel_rfl
def Ary:TI:=⟨1,24,false,(.slice 198),(some (.nilsl)),true⟩
theorem Ax9:A7 Tryz.prog 222=some Ary:=by kernel_rfl
def Arz:TI:=⟨1,8,false,(.ptr 191),(some (.nilp)),true⟩
theorem Aya:A7 Tryz.prog 225=some Arz:=by kernel_rfl
def Ar0:TI:=⟨1,8,false,(.ptr 47),(some (.nilp)),true⟩
theorem Ayb:A7 Tryz.prog 227=some Ar0:=by kernel_rfl
def Ar1:TI:=⟨1,8,false,.func,(some (.nilfn)),true⟩
theorem Ayc:A7 Tryz.prog 232=some Ar1:=by kernel_rfl
def Ar2:TI:=⟨24,24,true,(.arr 24 5),(some (.agg [.int .u8 0,.int .u8 0,.int .u8 0,.int .u8 0,.int .u8 0,.int .u8 0,.int .u8 0,.int .u8 0,.int .u8 0,.int .u8 0,.int .u8 0,.int .u8 0,.int .u8 0,.int .u8 0,.int .u8 0,.int .u8 0,.int .u8 0,.int .u8 0,.int .u8 0,.int .u8 0,.int .u8 0,.int .u8 0,.int .u8 0,.int .u8 0])),true⟩
theorem Ayd:A7 Tryz.prog 233=some Ar2:=by kernel_rfl
def Ar3:TI:=⟨1,0,false,.other,(some (.any)),true⟩
theorem Aye:A7 Tryz.prog 235=some Ar3:=by kernel_rfl
def Ar4:TI:=⟨1,0,false,.other,(some (.any)),true⟩
theorem Ayf:A7 Tryz.prog 238=some Ar4:=by kernel_rfl
def Bq:TI:=⟨1,8,false,.func,(some (.nilfn)),true⟩
theorem Ayg:A7 Tryz.prog 242=some Bq:=by kernel_rfl
def Ar5:TI:=⟨10,96,true,(.struct [(0,54),(1,9),(2,9),(3,3),(4,3),(5,37),(6,43),(7,2),(8,3),(9,3)]),(some (.agg [.int .i64 0,.str [],.str [],.int .i64 0,.int .i64 0,.int .u64 0,.int .i64 0,.int .i64 0,.int .i64 0,.int .i64 0])),true⟩
theorem Ayh:A7 Tryz.prog 243=some Ar5:=by kernel_rfl
def Afx:TI:=⟨10,96,true,(.struct [(0,54),(1,9),(2,9),(3,3),(4,3),(5,37),(6,43),(7,2),(8,3),(9,3)]),(some (.agg [.int .i64 0,.str [],.str [],.int .i64 0,.int .i64 0,.int .u64 0,.int .i64 0,.int .i64 0,.int .i64 0,.int .i64 0])),true⟩
theorem Ayi:A7 Tryz.prog 244=some Afx:=by kernel_rfl
def Ar6:TI:=⟨1,8,false,.func,(some (.nilfn)),true⟩
theorem Ayj:A7 Tryz.prog 245=some Ar6:=by kernel_rfl
def Ar7:TI:=⟨1,0,false,.other,(some (.any)),true⟩
theorem Ayk:A7 Tryz.prog 249=some Ar7:=by kernel_rfl
def Ar8:TI:=⟨1,0,false,.other,(some (.any)),true⟩
theorem Ayl:A7 Tryz.prog 251=some Ar8:=by kernel_rfl
def Ar9:TI:=⟨1,0,false,.other,(some (.any)),true⟩
theorem Aym:A7 Tryz.prog 253=some Ar9:=by kernel_rfl
def Asa:TI:=⟨1,0,false,.other,(some (.any)),true⟩
theorem Ayn:A7 Tryz.prog 255=some Asa:=by kernel_rfl
def Asb:TI:=⟨1,8,false,.other,(some (.nilp)),true⟩
theorem Ayo:A7 Tryz.prog 264=some Asb:=by kernel_rfl
def Asd:TI:=⟨1,8,false,(.ptr 37),(some (.nilp)),true⟩
theorem Ayp:A7 Tryz.prog 268=some Asd:=by kernel_rfl
def Ase:TI:=⟨1,8,false,(.ptr 45),(some (.nilp)),true⟩
theorem Ayq:A7 Tryz.prog 272=some Ase:=by kernel_rfl
def Asf:TI:=⟨1,8,false,(.ptr 43),(some (.nilp)),true⟩
theorem Ayr:A7 Tryz.prog 274=some Asf:=by kernel_rfl
def Br:TI:=⟨1,24,false,(.slice 4),(some (.nilsl)),true⟩
theorem Ays:A7 Tryz.prog 275=some Br:=by kernel_rfl
def Asg:TI:=⟨20,160,true,(.arr 20 37),(some (.agg [.int .u64 0,.int .u64 0,.int .u64 0,.int .u64 0,.int .u64 0,.int .u64 0,.int .u64 0,.int .u64 0,.int .u64 0,.int .u64 0,.int .u64 0,.int .u64 0,.int .u64 0,.int .u64 0,.int .u64 0,.int .u64 0,.int .u64 0,.int .u64 0,.int .u64 0,.int .u64 0])),true⟩
theorem Ayt:A7 Tryz.prog 281=some Asg:=by kernel_rfl
def Ash:TI:=⟨1,4,false,(.int .u32),(some (.int .u32 0)),true⟩
theorem Ayu:A7 Tryz.prog 282=some Ash:=by kernel_rfl
def Asi:TI:=⟨65,65,true,(.arr 65 5),(some (.agg [.int .u8 0,.int .u8 0,.int .u8 0,.int .u8 0,.int .u8 0,.int .u8 0,.int .u8 0,.int .u8 0,.int .u8 0,.int .u8 0,.int .u8 0,.int .u8 0,.int .u8 0,.int .u8 0,.int .u8 0,.int .u8 0,.int .u8 0,.int .u8 0,.int .u8 0,.int .u8 0,.int .u8 0,.int .u8 0,.int .u8 0,.int .u8 0,.int .u8 0,.int .u8 0,.int .u8 0,.int .u8 0,.int .u8 0,.int .u8 0,.int .u8 0,.int .u8 0,.int .u8 0,.int .u8 0,.int .u8 0,.int .u8 0,.int .u8 0,.int .u8 0,.int .u8 0,.int .u8 0,.int .u8 0,.int .u8 0,.int .u8 0,.int .u8 0,.int .u8 0,.int .u8 0,.int .u8 0,.int .u8 0,.int .u8 0,.int .u8 0,.int .u8 0,.int .u8 0,.int .u8 0,.int .u8 0,.int .u8 0,.int .u8 0,.int .u8 0,.int .u8 0,.int .u8 0,.int .u8 0,.int .u8 0,.int .u8 0,.int .u8 0,.int .u8 0,.int .u8 0])),true⟩
theorem Ayv:A7 Tryz.prog 283=some Asi:=by kernel_rfl
def Asj:TI:=⟨1,8,false,(.int .u64),(some (.int .u64 0)),true⟩
theorem Ayw:A7 Tryz.prog 284=some Asj:=by kernel_rfl
def Asl:TI:=⟨1,8,false,(.ptr 113),(some (.nilp)),true⟩
theorem Ayx:A7 Tryz.prog 290=some Asl:=by kernel_rfl
def Asm:TI:=⟨1,8,false,(.ptr 2),(some (.nilp)),true⟩
theorem Ayy:A7 Tryz.prog 292=some Asm:=by kernel_rfl
def Asn:TI:=⟨1,0,false,.other,(some (.any)),true⟩
theorem Ayz:A7 Tryz.prog 293=some Asn:=by kernel_rfl
def Aso:TI:=⟨1,8,false,(.int .i64),(some (.int .i64 0)),true⟩
theorem Ay0:A7 Tryz.prog 296=some Aso:=by kernel_rfl
def Asp:TI:=⟨1,0,false,.other,(some (.any)),true⟩
theorem Ay1:A7 Tryz.prog 297=some Asp:=by kernel_rfl
def Asq:TI:=⟨1,8,false,(.ptr 316),(some (.nilp)),true⟩
theorem Ay2:A7 Tryz.prog 299=some Asq:=by kernel_rfl
def Asr:TI:=⟨1,24,false,(.slice 275),(some (.nilsl)),true⟩
theorem Ay3:A7 Tryz.prog 306=some Asr:=by kernel_rfl
def Ass:TI:=⟨1,0,false,.other,(some (.any)),true⟩
theorem Ay4:A7 Tryz.prog 310=some Ass:=by kernel_rfl
def Ast:TI:=⟨1,0,false,.other,(some (.any)),true⟩
theorem Ay5:A7 Tryz.prog 312=some Ast:=by kernel_rfl
def Asu:TI:=⟨3,48,true,(.struct [(0,9),(1,9),(2,154)]),(some (.agg [.str [],.str [],.nilif])),false⟩
theorem Ay6:A7 Tryz.prog 315=some Asu:=by kernel_rfl
def Asv:TI:=⟨3,48,true,(.struct [(0,9),(1,9),(2,154)]),(some (.agg [.str [],.str [],.nilif])),false⟩
theorem Ay7:A7 Tryz.prog 316=some Asv:=by kernel_rfl
def Asw:TI:=⟨8,8,true,(.arr 8 5),(some (.agg [.int .u8 0,.int .u8 0,.int .u8 0,.int .u8 0,.int .u8 0,.int .u8 0,.int .u8 0,.int .u8 0])),true⟩
theorem Ay8:A7 Tryz.prog 318=some Asw:=by kernel_rfl
def Asx:TI:=⟨3,40,true,(.struct [(0,150),(1,3),(2,4)]),(some (.agg [.nilsl,.int .i64 0,.bool false])),true⟩
theorem Ay9:A7 Tryz.prog 321=some Asx:=by kernel_rfl
def Asy:TI:=⟨3,40,true,(.struct [(0,150),(1,3),(2,4)]),(some (.agg [.nilsl,.int .i64 0,.bool false])),true⟩
theorem Aza:A7 Tryz.prog 322=some Asy:=by kernel_rfl
def Asz:TI:=⟨32,32,true,(.arr 32 5),(some (.agg [.int .u8 0,.int .u8 0,.int .u8 0,.int .u8 0,.int .u8 0,.int .u8 0,.int .u8 0,.int .u8 0,.int .u8 0,.int .u8 0,.int .u8 0,.int .u8 0,.int .u8 0,.int .u8 0,.int .u8 0,.int .u8 0,.int .u8 0,.int .u8 0,.int .u8 0,.int .u8 0,.int .u8 0,.int .u8 0,.int .u8 0,.int .u8 0,.int .u8 0,.int .u8 0,.int .u8 0,.int .u8 0,.int .u8 0,.int .u8 0,.int .u8 0,.int .u8 0])),true⟩
theorem Azb:A7 Tryz.prog 323=some Asz:=by kernel_rfl
def As0:TI:=⟨64,64,true,(.arr 64 5),(some (.agg [.int .u8 0,.int .u8 0,.int .u8 0,.int .u8 0,.int .u8 0,.int .u8 0,.int .u8 0,.int .u8 0,.int .u8 0,.int .u8 0,.int .u8 0,.int .u8 0,.int .u8 0,.int .u8 0,.int .u8 0,.int .u8 0,.int .u8 0,.int .u8 0,.int .u8 0,.int .u8 0,.int .u8 0,.int .u8 0,.int .u8 0,.int .u8 0,.int .u8 0,.int .u8 0,.int .u8 0,.int .u8 0,.int .u8 0,.int .u8 0,.int .u8 0,.int .u8 0,.int .u8 0,.int .u8 0,.int .u8 0,.int .u8 0,.int .u8 0,.int .u8 0,.int .u8 0,.int .u8 0,.int .u8 0,.int .u8 0,.int .u8 0,.int .u8 0,.int .u8 0,.int .u8 0,.int .u8 0,.int .u8 0,.int .u8 0,.int .u8 0,.int .u8 0,.int .u8 0,.int .u8 0,.int .u8 0,.int .u8 0,.int .u8 0,.int .u8 0,.int .u8 0,.int .u8 0,.int .u8 0,.int .u8 0,.int .u8 0,.int .u8 0,.int .u8 0])),true⟩
theorem Azc:A7 Tryz.prog 324=some As0:=by kernel_rfl
def As1:TI:=⟨1,24,false,(.slice 150),(some (.nilsl)),true⟩
theorem Azd:A7 Tryz.prog 325=some As1:=by kernel_rfl
def As2:TI:=⟨3,40,true,(.struct [(0,325),(1,3),(2,4)]),(some (.agg [.nilsl,.int .i64 0,.bool false])),true⟩
theorem Aze:A7 Tryz.prog 326=some As2:=by kernel_rfl
def As3:TI:=⟨3,40,true,(.struct [(0,325),(1,3),(2,4)]),(some (.agg [.nilsl,.int .i64 0,.bool false])),true⟩
theorem Azf:A7 Tryz.prog 327=some As3:=by kernel_rfl
def As4:TI:=⟨256,256,true,(.arr 256 5),(some (.agg [.int .u8 0,.int .u8 0,.int .u8 0,.int .u8 0,.int .u8 0,.int .u8 0,.int .u8 0,.int .u8 0,.int .u8 0,.int .u8 0,.int .u8 0,.int .u8 0,.int .u8 0,.int .u8 0,.int .u8 0,.int .u8 0,.int .u8 0,.int .u8 0,.int .u8 0,.int .u8 0,.int .u8 0,.int .u8 0,.int .u8 0,.int .u8 0,.int .u8 0,.int .u8 0,.int .u8 0,.int .u8 0,.int .u8 0,.int .u8 0,.int .u8 0,.int .u8 0,.int .u8 0,.int .u8 0,.int .u8 0,.int .u8 0,.int .u8 0,.int .u8 0,.int .u8 0,.int .u8 0,.int .u8 0,.int .u8 0,.int .u8 0,.int .u8 0,.int .u8 0,.int .u8 0,.int .u8 0,.int .u8 0,.int .u8 0,.int .u8 0,.int .u8 0,.int .u8 0,.int .u8 0,.int .u8 0,.int .u8 0,.int .u8 0,.int .u8 0,.int .u8 0,.int .u8 0,.int .u8 0,.int .u8 0,.int .u8 0,.int .u8 0,.int .u8 0,.int .u8 0,.int .u8 0,.int .u8 0,.int .u8 0,.int .u8 0,.int .u8 0,.int .u8 0,.int .u8 0,.int .u8 0,.int .u8 0,.int .u8 0,.int .u8 0,.int .u8 0,.int .u8 0,.int .u8 0,.int .u8 0,.int .u8 0,.int .u8 0,.int .u8 0,.int .u8 0,.int .u8 0,.int .u8 0,.int .u8 0,.int .u8 0,.int .u8 0,.int .u8 0,.int .u8 0,.int .u8 0,.int .u8 0,.int .u8 0,.int .u8 0,.int .u8 0,.int .u8 0,.int .u8 0,.int .u8 0,.int .u8 0,.int .u8 0,.int .u8 0,.int .u8 0,.int .u8 0,.int .u8 0,.int .u8 0,.int .u8 0,.int .u8 0,.int .u8 0,.int .u8 0,.int .u8 0,.int .u8 0,.int .u8 0,.int .u8 0,.int .u8 0,.int .u8 0,.int .u8 0,.int .u8 0,.int .u8 0,.int .u8 0,.int .u8 0,.int .u8 0,.int .u8 0,.int .u8 0,.int .u8 0,.int .u8 0,.int .u8 0,.int .u8 0,.int .u8 0,.int .u8 0,.int .u8 0,.int .u8 0,.int .u8 0,.int .u8 0,.int .u8 0,.int .u8 0,.int .u8 0,.int .u8 0,.int .u8 0,.int .u8 0,.int .u8 0,.int .u8 0,.int .u8 0,.int .u8 0,.int .u8 0,.int .u8 0,.int .u8 0,.int .u8 0,.int .u8 0,.int .u8 0,.int .u8 0,.int .u8 0,.int .u8 0,.int .u8 0,.int .u8 0,.int .u8 0,.int .u8 0,.int .u8 0,.int .u8 0,.int .u8 0,.int .u8 0,.int .u8 0,.int .u8 0,.int .u8 0,.int .u8 0,.int .u8 0,.int .u8 0,.int .u8 0,.int .u8 0,.int .u8 0,.int .u8 0,.int .u8 0,.int .u8 0,.int .u8 0,.int .u8 0,.int .u8 0,.int .u8 0,.int .u8 0,.int .u8 0,.int .u8 0,.int .u8 0,.int .u8 0,.int .u8 0,.int .u8 0,.int .u8 0,.int .u8 0,.int .u8 0,.int .u8 0,.int .u8 0,.int .u8 0,.int .u8 0,.int .u8 0,.int .u8 0,.int .u8 0,.int .u8 0,.int .u8 0,.int .u8 0,.int .u8 0,.int .u8 0,.int .u8 0,.int .u8 0,.int .u8 0,.int .u8 0,.int .u8 0,.int .u8 0,.int .u8 0,.int .u8 0,.int .u8 0,.int .u8 0,.int .u8 0,.int .u8 0,.int .u8 0,.int .u8 0,.int .u8 0,.int .u8 0,.int .u8 0,.int .u8 0,.int .u8 0,.int .u8 0,.int .u8 0,.int .u8 0,.int .u8 0,.int .u8 0,.int .u8 0,.int .u8 0,.int .u8 0,.int .u8 0,.int .u8 0,.int .u8 0,.int .u8 0,.int .u8 0,.int .u8 0,.int .u8 0,.int .u8 0,.int .u8 0,.int .u8 0,.int .u8 0,.int .u8 0,.int .u8 0,.int .u8 0,.int .u8 0,.int .u8 0,.int .u8 0,.int .u8 0,.int .u8 0,.int .u8 0,.int .u8 0,.int .u8 0,.int .u8 0,.int .u8 0,.int .u8 0,.int .u8 0,.int .u8 0,.int .u8 0,.int .u8 0,.int .u8 0])),true⟩
theorem Azg:A7 Tryz.prog 330=some As4:=by kernel_rfl
def As5:TI:=⟨2,2,true,(.struct [(0,5),(1,5)]),(some (.agg [.int .u8 0,.int .u8 0])),true⟩
theorem Azh:A7 Tryz.prog 331=some As5:=by kernel_rfl
def As6:TI:=⟨2,2,true,(.struct [(0,5),(1,5)]),(some (.agg [.int .u8 0,.int .u8 0])),true⟩
theorem Azi:A7 Tryz.prog 332=some As6:=by kernel_rfl
def As7:TI:=⟨32,32,true,(.arr 16 332),(some (.agg [.int .u8 0,.int .u8 0,.int .u8 0,.int .u8 0,.int .u8 0,.int .u8 0,.int .u8 0,.int .u8 0,.int .u8 0,.int .u8 0,.int .u8 0,.int .u8 0,.int .u8 0,.int .u8 0,.int .u8 0,.int .u8 0,.int .u8 0,.int .u8 0,.int .u8 0,.int .u8 0,.int .u8 0,.int .u8 0,.int .u8 0,.int .u8 0,.int .u8 0,.int .u8 0,.int .u8 0,.int .u8 0,.int .u8 0,.int .u8 0,.int .u8 0,.int .u8 0])),true⟩
theorem Azj:A7 Tryz.prog 333=some As7:=by kernel_rfl
def As8:TI:=⟨1,8,false,(.ptr 337),(some (.nilp)),true⟩
theorem Azk:A7 Tryz.prog 335=some As8:=by kernel_rfl
def As9:TI:=⟨1,16,true,(.struct [(0,9)]),(some (.agg [.str []])),true⟩
theorem Azl:A7 Tryz.prog 336=some As9:=by kernel_rfl
def Ata:TI:=⟨1,16,true,(.struct [(0,9)]),(some (.agg [.str []])),true⟩
theorem Azm:A7 Tryz.prog 337=some Ata:=by kernel_rfl
def Azn:TT:=(.node 159 (.node 70 (.node 40 (.node 24 (.node 9 (.node 3 (.node 2 (.leaf 0 (some ty0)) (.leaf 2 (some ty2))) (.node 4 (.leaf 3 (some ty3)) (.node 5 (.leaf 4 (some ty4)) (.leaf 5 (some ty5))))) (.node 21 (.node 20 (.leaf 9 (some ty9)) (.leaf 20 (some Avq))) (.node 22 (.leaf 21 (some Cu)) (.node 23 (.leaf 22 (some Avr)) (.leaf 23 (some Avs)))))) (.node 29 (.node 26 (.node 25 (.leaf 24 (some Avt)) (.leaf 25 (some Avu))) (.node 27 (.leaf 26 (some Avv)) (.node 28 (.leaf 27 (some Avw)) (.leaf 28 (some Avx))))) (.node 37 (.node 32 (.leaf 29 (some Avy)) (.leaf 32 (some Avz))) (.node 38 (.leaf 37 (some Ck)) (.node 39 (.leaf 38 (some Auc)) (.leaf 39 (some Aue))))))) (.node 55 (.node 45 (.node 42 (.node 41 (.leaf 40 (some Av0)) (.leaf 41 (some Av1))) (.node 43 (.leaf 42 (some Cv)) (.node 44 (.leaf 43 (some Cl)) (.leaf 44 (some Av2))))) (.node 47 (.node 46 (.leaf 45 (some Cq)) (.leaf 46 (some Av3))) (.node 52 (.leaf 47 (some Cw)) (.node 54 (.leaf 52 (some Av4)) (.leaf 54 (some Akl)))))) (.node 64 (.node 58 (.node 56 (.leaf 55 (some Av5)) (.leaf 56 (some Aui))) (.node 59 (.leaf 58 (some Av6)) (.node 62 (.leaf 59 (some Av7)) (.leaf 62 (some Av8))))) (.node 66 (.node 65 (.leaf 64 (some Auk)) (.leaf 65 (some Aum))) (.node 67 (.leaf 66 (some Av9)) (.node 68 (.leaf 67 (some Cx)) (.leaf 68 (some Awa)))))))) (.node 115 (.node 94 (.node 79 (.node 76 (.node 73 (.leaf 70 (some Awb)) (.leaf 73 (some Awc))) (.node 77 (.leaf 76 (some Awd)) (.node 78 (.leaf 77 (some Awe)) (.leaf 78 (some Awf))))) (.node 84 (.node 81 (.leaf 79 (some Awg)) (.leaf 81 (some Awh))) (.node 90 (.leaf 84 (some Awi)) (.node 93 (.leaf 90 (some Awj)) (.leaf 93 (some Awk)))))) (.node 105 (.node 98 (.node 95 (.leaf 94 (some Awl)) (.leaf 95 (some Cy))) (.node 101 (.leaf 98 (some Awm)) (.node 104 (.leaf 101 (some Aqf)) (.leaf 104 (some Aqg))))) (.node 112 (.node 107 (.leaf 105 (some Bm)) (.leaf 107 (some Aqh))) (.node 113 (.leaf 112 (some Aqi)) (.node 114 (.leaf 113 (some Bl)) (.leaf 114 (some Aqj))))))) (.node 147 (.node 125 (.node 120 (.node 116 (.leaf 115 (some Aqk)) (.leaf 116 (some Aql))) (.node 123 (.leaf 120 (some Aqm)) (.node 124 (.leaf 123 (some Aqn)) (.leaf 124 (some Aqo))))) (.node 135 (.node 130 (.leaf 125 (some Aqp)) (.leaf 130 (some Aqq))) (.node 141 (.leaf 135 (some Aqr)) (.node 143 (.leaf 141 (some Aqs)) (.leaf 143 (some Aqt)))))) (.node 152 (.node 149 (.node 148 (.leaf 147 (some Aqu)) (.leaf 148 (some Aqv))) (.node 150 (.leaf 149 (some Aqw)) (.node 151 (.leaf 150 (some Bn)) (.leaf 151 (some Aqx))))) (.node 155 (.node 153 (.leaf 152 (some Aqy)) (.node 154 (.leaf 153 (some Aqz)) (.leaf 154 (some Aq0)))) (.node 157 (.leaf 155 (some Aq1)) (.node 158 (.leaf 157 (some Aq2)) (.leaf 158 (some Aq3))))))))) (.node 244 (.node 198 (.node 182 (.node 169 (.node 161 (.node 160 (.leaf 159 (some Aq4)) (.leaf 160 (some Aq5))) (.node 163 (.leaf 161 (some Bo)) (.node 167 (.leaf 163 (some Aq6)) (.leaf 167 (some Aq7))))) (.node 173 (.node 170 (.leaf 169 (some Aq8)) (.leaf 170 (some Aq9))) (.node 178 (.leaf 173 (some Ara)) (.node 180 (.leaf 178 (some Arb)) (.leaf 180 (some Arc)))))) (.node 191 (.node 188 (.node 187 (.leaf 182 (some Ard)) (.leaf 187 (some Are))) (.node 189 (.leaf 188 (some Arf)) (.node 190 (.leaf 189 (some Arh)) (.leaf 190 (some Ari))))) (.node 193 (.node 192 (.leaf 191 (some Arj)) (.leaf 192 (some Ark))) (.node 195 (.leaf 193 (some Arl)) (.node 196 (.leaf 195 (some Arm)) (.leaf 196 (some Arn))))))) (.node 221 (.node 206 (.node 200 (.node 199 (.leaf 198 (some Bp)) (.leaf 199 (some Aro))) (.node 202 (.leaf 200 (some Arp)) (.node 204 (.leaf 202 (some Arq)) (.leaf 204 (some Arr))))) (.node 214 (.node 207 (.leaf 206 (some Ars)) (.leaf 207 (some Art))) (.node 218 (.leaf 214 (some Aru)) (.node 220 (.leaf 218 (some Arv)) (.leaf 220 (some Arw)))))) (.node 233 (.node 225 (.node 222 (.leaf 221 (some Arx)) (.leaf 222 (some Ary))) (.node 227 (.leaf 225 (some Arz)) (.node 232 (.leaf 227 (some Ar0)) (.leaf 232 (some Ar1))))) (.node 238 (.node 235 (.leaf 233 (some Ar2)) (.leaf 235 (some Ar3))) (.node 242 (.leaf 238 (some Ar4)) (.node 243 (.leaf 242 (some Bq)) (.leaf 243 (some Ar5)))))))) (.node 299 (.node 275 (.node 255 (.node 249 (.node 245 (.leaf 244 (some Afx)) (.leaf 245 (some Ar6))) (.node 251 (.leaf 249 (some Ar7)) (.node 253 (.leaf 251 (some Ar8)) (.leaf 253 (some Ar9))))) (.node 268 (.node 264 (.leaf 255 (some Asa)) (.leaf 264 (some Asb))) (.node 272 (.leaf 268 (some Asd)) (.node 274 (.leaf 272 (some Ase)) (.leaf 274 (some Asf)))))) (.node 290 (.node 282 (.node 281 (.leaf 275 (some Br)) (.leaf 281 (some Asg))) (.node 283 (.leaf 282 (some Ash)) (.node 284 (.leaf 283 (some Asi)) (.leaf 284 (some Asj))))) (.node 293 (.node 292 (.leaf 290 (some Asl)) (.leaf 292 (some Asm))) (.node 296 (.leaf 293 (some Asn)) (.node 297 (.leaf 296 (some Aso)) (.leaf 297 (some Asp))))))) (.node 324 (.node 316 (.node 310 (.node 306 (.leaf 299 (some Asq)) (.leaf 306 (some Asr))) (.node 312 (.leaf 310 (some Ass)) (.node 315 (.leaf 312 (some Ast)) (.leaf 315 (some Asu))))) (.node 321 (.node 318 (.leaf 316 (some Asv)) (.leaf 318 (some Asw))) (.node 322 (.leaf 321 (some Asx)) (.node 323 (.leaf 322 (some Asy)) (.leaf 323 (some Asz)))))) (.node 331 (.node 326 (.node 325 (.leaf 324 (some As0)) (.leaf 325 (some As1))) (.node 327 (.leaf 326 (some As2)) (.node 330 (.leaf 327 (some As3)) (.leaf 330 (some As4))))) (.node 335 (.node 332 (.leaf 331 (some As5)) (.node 333 (.leaf 332 (some As6)) (.leaf 333 (some As7)))) (.node 336 (.leaf 335 (some As8)) (.node 337 (.leaf 336 (some As9)) (.leaf 337 (some Ata))))))))))
def TY:TypeId→Option TI:=Azn.look
theorem Ao:TyOk Tryz.prog TY:=TT.ok (t:=Azn) ⟨⟨⟨⟨⟨⟨⟨ok0,ok2⟩,⟨ok3,⟨ok4,ok5⟩⟩⟩,⟨⟨ok9,A0w⟩,⟨A0x,⟨A0y,A0z⟩⟩⟩⟩,⟨⟨⟨A00,A01⟩,⟨A02,⟨A03,A04⟩⟩⟩,⟨⟨A05,A06⟩,⟨Akj,⟨Aud,Auf⟩⟩⟩⟩⟩,⟨⟨⟨⟨A07,A08⟩,⟨A09,⟨Akk,A1a⟩⟩⟩,⟨⟨Aug,A1b⟩,⟨A1c,⟨A1d,Auh⟩⟩⟩⟩,⟨⟨⟨A1e,Auj⟩,⟨A1f,⟨A1g,A1h⟩⟩⟩,⟨⟨Aul,Aun⟩,⟨A1i,⟨Auo,A1j⟩⟩⟩⟩⟩⟩,⟨⟨⟨⟨⟨A1k,A1l⟩,⟨A1m,⟨A1n,A1o⟩⟩⟩,⟨⟨A1p,A1q⟩,⟨A1r,⟨A1s,A1t⟩⟩⟩⟩,⟨⟨⟨A1u,A1v⟩,⟨A1w,⟨Awn,Awo⟩⟩⟩,⟨⟨Awp,Awq⟩,⟨Awr,⟨Akm,Aws⟩⟩⟩⟩⟩,⟨⟨⟨⟨Awt,Awu⟩,⟨Awv,⟨Aww,Awx⟩⟩⟩,⟨⟨Awy,Awz⟩,⟨Aw0,⟨Aw1,Aw2⟩⟩⟩⟩,⟨⟨⟨Aw3,Aw4⟩,⟨Aw5,⟨Aw6,Aw7⟩⟩⟩,⟨⟨Aw8,⟨Aw9,Axa⟩⟩,⟨Axb,⟨Axc,Axd⟩⟩⟩⟩⟩⟩⟩,⟨⟨⟨⟨⟨⟨Axe,Axf⟩,⟨Axg,⟨Axh,Axi⟩⟩⟩,⟨⟨Axj,Axk⟩,⟨Axl,⟨Axm,Axn⟩⟩⟩⟩,⟨⟨⟨Axo,Axp⟩,⟨Axq,⟨Axr,Axs⟩⟩⟩,⟨⟨Axt,Axu⟩,⟨Axv,⟨Axw,Axx⟩⟩⟩⟩⟩,⟨⟨⟨⟨Axy,Axz⟩,⟨Ax0,⟨Ax1,Ax2⟩⟩⟩,⟨⟨Ax3,Ax4⟩,⟨Ax5,⟨Ax6,Ax7⟩⟩⟩⟩,⟨⟨⟨Ax8,Ax9⟩,⟨Aya,⟨Ayb,Ayc⟩⟩⟩,⟨⟨Ayd,Aye⟩,⟨Ayf,⟨Ayg,Ayh⟩⟩⟩⟩⟩⟩,⟨⟨⟨⟨⟨Ayi,Ayj⟩,⟨Ayk,⟨Ayl,Aym⟩⟩⟩,⟨⟨Ayn,Ayo⟩,⟨Ayp,⟨Ayq,Ayr⟩⟩⟩⟩,⟨⟨⟨Ays,Ayt⟩,⟨Ayu,⟨Ayv,Ayw⟩⟩⟩,⟨⟨Ayx,Ayy⟩,⟨Ayz,⟨Ay0,Ay1⟩⟩⟩⟩⟩,⟨⟨⟨⟨Ay2,Ay3⟩,⟨Ay4,⟨Ay5,Ay6⟩⟩⟩,⟨⟨Ay7,Ay8⟩,⟨Ay9,⟨Aza,Azb⟩⟩⟩⟩,⟨⟨⟨Azc,Azd⟩,⟨Aze,⟨Azf,Azg⟩⟩⟩,⟨⟨Azh,⟨Azi,Azj⟩⟩,⟨Azk,⟨Azl,Azm⟩⟩⟩⟩⟩⟩⟩⟩
end Go.Vc.Z
namespace Go.Vc.Z
open Go Go.Vc Go.Proofs
theorem Ak{k:IntKind}{n:Int}:inK k n↔Go.Vc.lo k≤n∧n≤Go.Vc.hi k:=Iff.rfl
theorem tK{p:Prop}(h:p:=by(simp only[Ak,Go.Vc.lo,Go.Vc.hi];omega)):p:=h
abbrev slE{α:Type}[Inhabited α](sz:Nat)(enc:α→List AV)(l:List α):AV:=.sl false sz l.length (fun e=>enc (l.getD e default))
structure Coupon where
 flight:Int
 day:Int
 value:Int
 status:Int
 holder:Int
 next:Int
deriving Inhabited
abbrev Coupon.enc(c:Coupon):List AV:=[.int .i64 c.flight,.int .i64 c.day,.int .i64 c.value,.int .i64 c.status,.int .i64 c.holder,.int .u64 c.next]
structure Tax where
 code:Int
 amount:Int
deriving Inhabited
abbrev Tax.enc(c:Tax):List AV:=[.int .i64 c.code,.int .i64 c.amount]
structure Event where
 day:Int
 coupon:Int
 src:Int
 dst:Int
deriving Inhabited
abbrev Event.enc(c:Event):List AV:=[.int .i64 c.day,.int .i64 c.coupon,.int .i64 c.src,.int .i64 c.dst]
structure Ticket where
 number:Int
 locator:List UInt8
 issued:Int
 coupons:List Coupon
 taxes:List Tax
 prev:Int
 origin:Int
 first:Int
 voucher:Int
 posts:Int
 history:List Event
deriving Inhabited
abbrev Ticket.enc(t:Ticket):List AV:=[.int .u64 t.number,.str t.locator,.int .i64 t.issued,slE 6 Coupon.enc t.coupons,slE 2 Tax.enc t.taxes,.int .u64 t.prev,.int .u64 t.origin,.int .u64 t.first,.int .i64 t.voucher,.int .i64 t.posts,slE 4 Event.enc t.history]
structure Posting where
 day:Int
 ticket:Int
 seq:Int
 kind:Int
 cash:Int
 liability:Int
 revenue:Int
 tax:Int
 penalty:Int
 voucher:Int
deriving Inhabited
abbrev Posting.enc(p:Posting):List AV:=[.int .i64 p.day,.int .u64 p.ticket,.int .i64 p.seq,.int .i64 p.kind,.int .i64 p.cash,.int .i64 p.liability,.int .i64 p.revenue,.int .i64 p.tax,.int .i64 p.penalty,.int .i64 p.voucher]
structure Loan where
 ticket:Int
 coupon:Int
 held:Bool
 what:Coupon
deriving Inhabited
abbrev Loan.enc(l:Loan):List AV:=[.int .u64 l.ticket,.int .i64 l.coupon,.bool l.held,.int .i64 l.what.flight,.int .i64 l.what.day,.int .i64 l.what.value,.int .i64 l.what.status,.int .i64 l.what.holder,.int .u64 l.what.next]
structure Answer where
 code:Int
 tickets:List Ticket
 postings:List Posting
 loans:List Loan
deriving Inhabited
abbrev Answer.enc(a:Answer):List AV:=[.int .i64 a.code,slE 11 Ticket.enc a.tickets,slE 10 Posting.enc a.postings,slE 9 Loan.enc a.loans]
structure Told where
 answer:Answer
 code:Int
 came:Int
deriving Inhabited
abbrev Told.enc(t:Told):List AV:=t.answer.enc++[.int .i64 t.code,.int .i64 t.came]
end Go.Vc.Z
namespace Go.Vc
open Go
theorem Aib{a b:Nat}:Nat.ble a b=false↔b<a:=by
 rw[←Bool.not_eq_true,Nat.ble_eq];omega
theorem Akn{a b:Nat}:Nat.ble a b=true↔a≤b:=by rw[Nat.ble_eq]
theorem Ako{a b:Nat}:Nat.beq a b=true↔a=b:=by rw[Nat.beq_eq]
theorem Aic{a b:Nat}:Nat.beq a b=false↔ ¬a=b:=by rw[←Bool.not_eq_true,Nat.beq_eq]
theorem bytesOf_length(n:Nat)(g:Nat→List AV):(bytesOf n g).length=n:=by simp[bytesOf]
noncomputable def sI:Int→Int:=Classical.choose (⟨id,rfl⟩:∃ f:Int→Int,f=id)
theorem Cm(n:Int):sI n=n:=congrFun (Classical.choose_spec (⟨id,rfl⟩:∃ f:Int→Int,f=id)) n
noncomputable def sB:Bool→Bool:=Classical.choose (⟨id,rfl⟩:∃ f:Bool→Bool,f=id)
theorem Bh(n:Bool):sB n=n:=congrFun (Classical.choose_spec (⟨id,rfl⟩:∃ f:Bool→Bool,f=id)) n
noncomputable def sS:List UInt8→List UInt8:=Classical.choose (⟨id,rfl⟩:∃ f:List UInt8→List UInt8,f=id)
theorem Bb(n:List UInt8):sS n=n:=congrFun (Classical.choose_spec (⟨id,rfl⟩:∃ f:List UInt8→List UInt8,f=id)) n
noncomputable def sN:Nat→Nat:=Classical.choose (⟨id,rfl⟩:∃ f:Nat→Nat,f=id)
theorem Xg(n:Nat):sN n=n:=congrFun (Classical.choose_spec (⟨id,rfl⟩:∃ f:Nat→Nat,f=id)) n
noncomputable def sL:List (List UInt8)→List (List UInt8):=Classical.choose (⟨id,rfl⟩:∃ f:List (List UInt8)→List (List UInt8),f=id)
theorem Do(n:List (List UInt8)):sL n=n:=congrFun (Classical.choose_spec (⟨id,rfl⟩:∃ f:List (List UInt8)→List (List UInt8),f=id)) n
def PC.fun(f:List AV→Option (Prop × AV)):PC:={
 T cs Q:=match f cs with|some (p,r)=>p∧Q r|none=>False
 det cs N h:=by
  cases hf:f cs with
  |none=>rw[hf] at h;exact h.elim
  |some pr=>obtain⟨p,r⟩:=pr;rw[hf] at h;exact⟨r,h.2,h.1,rfl⟩ }
theorem Ax{F:Nat→Obj→Prop}{P:Program}{TY:TypeId→Option TI}{C:FuncId→Option Ctr}{D:PT}{wr:Tmp→Bool}
  (hm:P.follows .mixedOrders=true) (hTY:TyOk P TY) (hD:Ct F P D) (hC:Ad F P C) {f:FuncId} {fn:Func} (hf:P.funcs[f]? =some fn) {g:List AV→Option (Prop × AV)} (L:List AV→Nat→Option LR)
  (h:∀ cs p r,g cs=some (p,r)→A0 cs→p→fnE TY C D wr (L cs) fn cs [] (fun c H'=>Aub H' c (isA r))):GoodP F P f (PC.fun g):=by
 refine xF (wr:=wr) hm hTY hD hC hf L fun cs Q hfl hT=>?_
 simp only[PC.fun] at hT
 cases hg:g cs with
 |none=>rw[hg] at hT;exact hT.elim
 |some pr=>obtain⟨p,r⟩:=pr;rw[hg] at hT;exact⟨r,hT.2,h cs p r hg hfl hT.1⟩
theorem As{F:Nat→Obj→Prop}{P:Program}{TY:TypeId→Option TI}{D:PT}{wr:Tmp→Bool}{α:Type}{C:α→FuncId→Option Ctr}{args:α→List AV}{pre:α→Prop}{res:α→AV}(hm:P.follows .mixedOrders=true)(hTY:TyOk P TY)(hD:Ct F P D)(hC:∀ x,Ad F P (C x)){f:FuncId}{fn:Func}(hf:P.funcs[f]? =some fn)(L:α→Nat→Option LR)
  (hu:∀ x,Fo 0 (args x)=true)
  (h:∀ x,A0 (args x)→pre x→fnE TY (C x) D wr (L x) fn (args x) [] (fun c H'=>Aub H' c (isA (res x)))):GoodP F P f (PC.of args pre res):=by
 intro S w cs vs Q hs hv hpre
 obtain⟨x,h1,h2,h3⟩:=hpre
 have hl:=Ke h2
 have hv':VL (fun _=>none) S w (args x) vs:=by
  refine⟨by rw[←hl];exact hv.1,fun i c v hc hv'=>?_⟩
  have hi:i<cs.length:=by
   rcases Nat.lt_or_ge i (args x).length with h'|h'
   ·omega
   ·rw[List.getElem?_eq_none h'] at hc;cases hc
  exact(hv.2 i cs[i] v (List.getElem?_eq_getElem hi) hv').le (σ:=fun i=>i) (n:=0) (fun i b hi=>by omega) (Qx h2 i _ _ (List.getElem?_eq_getElem hi) hc) (Dx (hu x) i c hc)
 have hH:HRel (fun _=>none) S w []:=⟨fun i j bi bj b hi=>by simp at hi,fun i b hi=>by simp at hi,fun i b hi=>by cases hi⟩
 refine(Ub hm hTY hD (hC x) hf hs hH hv' (h x hv'.fact h1)).mono ?_
 rintro e w' ⟨v,c,H',ρ',S',rfl,h1,h2,h3',h4,h5⟩
 obtain⟨c',ids,h6,h7,h8⟩:=Y4 h3' h1 h2
 unfold isA at h6
 split at h6
 ·rename_i hu
  refine⟨v,res x,Sk ρ' S' ids,rfl,h3,h7.le (σ:=fun i=>i) (n:=0) (fun i b hi=>by omega) h6 hu,⟨fun _ _ h=>(by cases h),fun b hb=>.inl (h4.st b hb),h4.same,h4.size,h4.shp,fun _ _ h=>(by cases h),fun b hb=>?_,h4.os,h4.tape,h4.output⟩,Xd h3' h5 ids⟩
  rcases hb with hb|⟨i,_,hb⟩
  ·rcases h4.stf b hb with h9|⟨j,h9⟩|h9
   ·exact .inl h9
   ·cases h9
   ·exact .inr (.inr h9)
  ·rcases h4.fresh i b hb with ⟨j,h9⟩|h9
   ·cases h9
   ·exact .inr (.inr h9)
 ·exact h6.elim
def Aab(TY:TypeId→Option TI)(C:FuncId→Option Ctr)(D:PT)(wr:Tmp→Bool)(L:List AV→List Blk→Nat→Option LR)(fn:Func):Ctr:=fun cs H Q=>∃ Q0:AV→List Blk→Prop,fnE TY C D wr (L cs H) fn cs H Q0∧∀ c H',Q0 c H'→Q c H'
noncomputable def Uw:(TypeId→Option TI)→(FuncId→Option Ctr)→PT→(Tmp→Bool)→(List AV→List Blk→Nat→Option LR)→Func→Ctr:=Classical.choose (⟨Aab,rfl⟩:∃ f,f=Aab)
theorem Afy:Uw=Aab:=Classical.choose_spec (⟨Aab,rfl⟩:∃ f,f=Aab)
attribute [irreducible] Uw
theorem dW{TY:TypeId→Option TI}{C:FuncId→Option Ctr}{D:PT}{wr:Tmp→Bool}{L:List AV→List Blk→Nat→Option LR}{fn:Func}{cs:List AV}{H:List Blk}{Q:AV→List Blk→Prop}(Q0:AV→List Blk→Prop)(h1:fnE TY C D wr (L cs H) fn cs H Q0)(h2:∀ c H',Q0 c H'→Q c H'):Uw TY C D wr L fn cs H Q:=by
 rw[Afy];exact⟨Q0,h1,h2⟩
def setCell(H:List Blk)(p k:Nat)(c:AV):List Blk:=match H[p]? with|some (.var cs T)=>H.set p (.var (cs.set k c) T)|_=>H
theorem Akp{TY:TypeId→Option TI}{C:FuncId→Option Ctr}{D:PT}{wr:Tmp→Bool}{L:List AV→List Blk→Nat→Option LR}{fn:Func}{cs:List AV}{H:List Blk}{Q:AV→List Blk→Prop}(r:AV)(p k q j:Nat)(v:AV)(B:Bool)(h1:fnE TY C D wr (L cs H) fn cs H (fun c H'=>c=r∧∃ b,b=B∧H'=setCell (setCell H p k (.bool b)) q j v))(h2:Q r (setCell (setCell H p k (.bool (sB B))) q j v)):Uw TY C D wr L fn cs H Q:=by
 refine dW _ h1 ?_
 rintro c H' ⟨rfl,b,rfl,rfl⟩
 rw[←Bh b];exact h2
theorem Uc{F:Nat→Obj→Prop}{P:Program}{TY:TypeId→Option TI}{C:FuncId→Option Ctr}{D:PT}{wr:Tmp→Bool}(hm:P.follows .mixedOrders=true)(hTY:TyOk P TY)(hD:Ct F P D)(hC:Ad F P C){f:FuncId}{fn:Func}(hf:P.funcs[f]? =some fn)(L:List AV→List Blk→Nat→Option LR):
  Good F P f (Uw TY C D wr L fn):=by
 intro ρ S w H cs vs Q hs hH hv hK
 rw[Afy] at hK
 obtain⟨Q0,h1,h2⟩:=hK
 refine(Ub hm hTY hD hC hf hs hH hv h1).mono ?_
 rintro e w' ⟨v,c,H',ρ',S',he,h3,h4⟩
 exact⟨v,c,H',ρ',S',he,h2 _ _ h3,h4⟩
end Go.Vc
namespace Go.Vc
open Go
theorem iA{q:Prop}{a}{b}{c}(h:leA a b c)(k:q):leA a b c∧q:=⟨h,k⟩
theorem iL{q:Prop}{a}{b}{c}(h:leL a b c)(k:q):leL a b c∧q:=⟨h,k⟩
theorem iB{q:Prop}{a}{b}{c}{d}(h:aC a b c d)(k:q):aC a b c d∧q:=⟨h,k⟩
theorem iQ{q:Prop}{a}{b}{c}{d}{e}{f}(h:opQ a b c d e f)(k:q):opQ a b c d e f∧q:=⟨h,k⟩
theorem wS:(∀ {a b:Nat},Nat.ble a b=true↔a≤b)∧(∀ {a b:Nat},Nat.ble a b=false↔b<a)∧(∀ {a b:Nat},Nat.beq a b=true↔a=b)∧(∀ {a b:Nat},Nat.beq a b=false↔ ¬a=b)∧
  (∀ n:Int,sI n=n)∧(∀ n:Bool,sB n=n)∧(∀ n:List UInt8,sS n=n)∧(∀ n:Nat,sN n=n)∧(∀ a b:Int,ltI a b=decide (a<b))∧(∀ a b:Int,leI a b=decide (a≤b))∧(∀ a b:Int,eqI a b=(a == b))∧
  (∀ {p:Prop} [Decidable p],(decide p=true)=p)∧(∀ {p:Prop} {x:Decidable p},decide p=false↔ ¬p)∧(∀ {α:Type} [BEq α] [LawfulBEq α] {a b:α},(a == b)=true↔a=b)∧(∀ {α:Type} [BEq α] [LawfulBEq α] {a b:α},(a != b)=true↔a≠b)∧
  (∀ {α:Type} (a b:α),(a≠b)= ¬a=b)∧(∀ {α:Type} [BEq α] [LawfulBEq α] {a b:α},(a == b)=false↔a≠b)∧(∀ {α:Type} [BEq α] [LawfulBEq α] {a b:α},(a != b)=false↔a=b)∧
  (∀ b:Bool,(¬b=true)=(b=false))∧(∀ b:Bool,(¬b=false)=(b=true))∧(∀ {a b:Int},¬a<b↔b≤a)∧(∀ {a b:Int},¬a≤b↔b<a)∧(∀ {α:Type} [LT α] {x y:α},x > y↔y<x)∧(∀ {α:Type} [LE α] {x y:α},x≥y↔y≤x)∧
  (∀ {a b:Nat},¬a<b↔b≤a)∧(∀ {a b:Nat},¬a≤b↔b<a)∧(∀ {p:Prop} [Decidable p],¬ ¬p↔p)∧(∀ {a b:Bool},(!a)=b↔a= !b)∧((!true)=false)∧((!false)=true)∧
  (∀ {α:Type} (a b:α),(bif true then a else b)=a)∧(∀ {α:Type} (a b:α),(bif false then a else b)=b)∧(∀ a b:Bool,((a || b)=true)=(a=true∨b=true))∧(∀ a b:Bool,((a&&b)=true)=(a=true∧b=true))∧
  (∀ {x y:Bool},(x || y)=false↔x=false∧y=false)∧(∀ {x y:Bool},(x&&y)=false↔x=false∨y=false):=
 ⟨Akn,Aib,Ako,Aic,Cm,Bh,Bb,Xg,F6,Dc,Bt,decide_eq_true_eq,decide_eq_false_iff_not,beq_iff_eq,bne_iff_ne,ne_eq,beq_eq_false_iff_ne,bne_eq_false_iff_eq,Bool.not_eq_true,Bool.not_eq_false,Int.not_lt,Int.not_le,gt_iff_lt,ge_iff_le,
  Nat.not_lt,Nat.not_le,Decidable.not_not,Bool.not_eq_eq_eq_not,Bool.not_true,Bool.not_false,cond_true,cond_false,Bool.or_eq_true,Bool.and_eq_true,Bool.or_eq_false_iff,Bool.and_eq_false_iff⟩
theorem wQ:(∀ n:Int,sI n=n)∧(∀ n:Bool,sB n=n)∧(∀ n:List UInt8,sS n=n)∧(∀ n:Nat,sN n=n):=⟨Cm,Bh,Bb,Xg⟩
theorem wT:(∀ {a b:Int},0≤a→a.tdiv b=a / b)∧(∀ {a b:Int},0≤a→a.tmod b=a % b):=⟨Int.tdiv_eq_ediv_of_nonneg,Int.tmod_eq_emod_of_nonneg⟩
theorem tL{p:Prop}(h:p:=by((conv=>whnf);(repeat' ((first|with_reducible exact⟨⟩|with_reducible rfl|((with_reducible refine Or.inr ?_);rfl)|((with_reducible refine aI ?_ ?_);focus (exact tA))|with_reducible refine iA ?_ ?_|with_reducible refine iL ?_ ?_|with_reducible refine iB ?_ ?_|fail)<;>(conv=>whnf)));(all_goals (try simp only[wQ]));(all_goals (try first|omega|rfl|exact Or.inl True.intro|exact⟨fun h=>h,fun _ _=>True.intro⟩|exact⟨fun h=>h,fun _ _=>rfl⟩|(refine⟨fun h=>h,fun e he=>?_⟩;rw[Nat.zero_add];done)));(all_goals (try first|exact fun _ _=>⟨True.intro,rfl⟩|exact⟨Nat.le_refl _,fun _ _=>⟨True.intro,rfl⟩⟩|exact⟨by simp,Or.inl trivial⟩|exact⟨by simp,fun e he=>⟨Af9 rfl he,rfl⟩⟩)))):p:=h
mutual
theorem Afz:∀ a:AV,leA (fun i=>i) a a
 | .agg cs=>by simpa[leA] using Ac cs
 | .tup cs=>by simpa[leA] using Ac cs
 | .fn f cs=>by simpa[leA] using Ac cs
 | .iface t v=>by simpa[leA] using Afz v
 | .rptr cs j=>by simp[leA]
 | .sl c z l g=>by simp[leA]
 | .nilsl=>by simp[leA]
 | .osl id z o l cap=>by simp[leA]
 | .ptr id j=>by simp[leA]
 | .eptr id sz e j=>by simp[leA]
 | .map id=>by simp[leA]
 | .iter id=>by simp[leA]
 | .int k n=>by simp[leA]
 | .str l=>by simp[leA]
 | .bool b=>by simp[leA]
 | .any=>by simp[leA]
 | .nilp=>by simp[leA]
 | .nilfn=>by simp[leA]
 | .nilmap=>by simp[leA]
 | .nilif=>by simp[leA]
theorem Ac:∀ l:List AV,leL (fun i=>i) l l
 |[]=>by simp[leL]
 |c::cs=>by simpa[leL] using ⟨Afz c,Ac cs⟩
end
end Go.Vc
