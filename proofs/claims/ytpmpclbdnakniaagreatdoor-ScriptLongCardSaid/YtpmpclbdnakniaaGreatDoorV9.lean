/- Printed by PrintTY: what the program's types are. -/
import Derived.Test.YtpmpclbdnakniaaGreatDoorV8
import Derived.Test.YtpmpclbdnakniaaGreatDoorProg
set_option linter.all false
set_option linter.unusedVariables false
set_option linter.unusedSimpArgs false
namespace Go.Vc.Z
open Go Go.Vc Go.Proofs
def ty0:TI:=⟨1,0,false,.other,(some (.any)),true⟩
theorem ok0:Aw Tryz.prog 0=some ty0:=by kernel_rfl
def ty2:TI:=⟨1,8,false,(.int .i64),(some (.int .i64 0)),true⟩
theorem ok2:Aw Tryz.prog 2=some ty2:=by kernel_rfl
def ty3:TI:=⟨1,8,false,(.int .i64),(some (.int .i64 0)),true⟩
theorem ok3:Aw Tryz.prog 3=some ty3:=by kernel_rfl
def ty4:TI:=⟨1,1,false,.bool,(some (.bool false)),true⟩
theorem ok4:Aw Tryz.prog 4=some ty4:=by kernel_rfl
def ty5:TI:=⟨1,1,false,(.int .u8),(some (.int .u8 0)),true⟩
theorem ok5:Aw Tryz.prog 5=some ty5:=by kernel_rfl
def ty9:TI:=⟨1,16,false,.str,(some (.str [])),true⟩
theorem ok9:Aw Tryz.prog 9=some ty9:=by kernel_rfl
def Aoy:TI:=⟨1,16,false,.iface,(some (.nilif)),true⟩
theorem Auh:Aw Tryz.prog 20=some Aoy:=by kernel_rfl
def Cn:TI:=⟨1,4,false,(.int .i32),(some (.int .i32 0)),true⟩
theorem Aui:Aw Tryz.prog 21=some Cn:=by kernel_rfl
def Aoz:TI:=⟨1,8,false,(.int .i64),(some (.int .i64 0)),true⟩
theorem Auj:Aw Tryz.prog 22=some Aoz:=by kernel_rfl
def Ao0:TI:=⟨1,24,false,(.slice 42),(some (.nilsl)),true⟩
theorem Auk:Aw Tryz.prog 23=some Ao0:=by kernel_rfl
def Ao1:TI:=⟨1,24,false,(.slice 95),(some (.nilsl)),true⟩
theorem Aul:Aw Tryz.prog 24=some Ao1:=by kernel_rfl
def Ao2:TI:=⟨1,24,false,(.slice 47),(some (.nilsl)),true⟩
theorem Aum:Aw Tryz.prog 25=some Ao2:=by kernel_rfl
def Ao3:TI:=⟨4,80,true,(.struct [(0,22),(1,23),(2,24),(3,25)]),(some (.agg [.int .i64 0,.nilsl,.nilsl,.nilsl])),true⟩
theorem Aun:Aw Tryz.prog 26=some Ao3:=by kernel_rfl
def Ao4:TI:=⟨4,80,true,(.struct [(0,22),(1,23),(2,24),(3,25)]),(some (.agg [.int .i64 0,.nilsl,.nilsl,.nilsl])),true⟩
theorem Auo:Aw Tryz.prog 27=some Ao4:=by kernel_rfl
def Ao5:TI:=⟨6,96,true,(.struct [(0,27),(4,22),(5,3)]),(some (.agg [.int .i64 0,.nilsl,.nilsl,.nilsl,.int .i64 0,.int .i64 0])),true⟩
theorem Aup:Aw Tryz.prog 28=some Ao5:=by kernel_rfl
def Ao6:TI:=⟨6,96,true,(.struct [(0,27),(4,22),(5,3)]),(some (.agg [.int .i64 0,.nilsl,.nilsl,.nilsl,.int .i64 0,.int .i64 0])),true⟩
theorem Auq:Aw Tryz.prog 29=some Ao6:=by kernel_rfl
def Ao7:TI:=⟨1,24,false,(.slice 9),(some (.nilsl)),true⟩
theorem Aur:Aw Tryz.prog 32=some Ao7:=by kernel_rfl
def Ch:TI:=⟨1,8,false,(.int .u64),(some (.int .u64 0)),true⟩
theorem Aus:Aw Tryz.prog 37=some Ch:=by kernel_rfl
def Ao8:TI:=⟨1,24,false,(.slice 45),(some (.nilsl)),true⟩
theorem Aut:Aw Tryz.prog 38=some Ao8:=by kernel_rfl
def Ao9:TI:=⟨1,24,false,(.slice 113),(some (.nilsl)),true⟩
theorem Auu:Aw Tryz.prog 39=some Ao9:=by kernel_rfl
def Apa:TI:=⟨1,24,false,(.slice 105),(some (.nilsl)),true⟩
theorem Auv:Aw Tryz.prog 40=some Apa:=by kernel_rfl
def Apb:TI:=⟨11,144,true,(.struct [(0,37),(1,9),(2,3),(3,38),(4,39),(5,37),(6,37),(7,37),(8,2),(9,3),(10,40)]),(some (.agg [.int .u64 0,.str [],.int .i64 0,.nilsl,.nilsl,.int .u64 0,.int .u64 0,.int .u64 0,.int .i64 0,.int .i64 0,.nilsl])),true⟩
theorem Auw:Aw Tryz.prog 41=some Apb:=by kernel_rfl
def Co:TI:=⟨11,144,true,(.struct [(0,37),(1,9),(2,3),(3,38),(4,39),(5,37),(6,37),(7,37),(8,2),(9,3),(10,40)]),(some (.agg [.int .u64 0,.str [],.int .i64 0,.nilsl,.nilsl,.int .u64 0,.int .u64 0,.int .u64 0,.int .i64 0,.int .i64 0,.nilsl])),true⟩
theorem Aux:Aw Tryz.prog 42=some Co:=by kernel_rfl
def Ci:TI:=⟨1,8,false,(.int .i64),(some (.int .i64 0)),true⟩
theorem Auy:Aw Tryz.prog 43=some Ci:=by kernel_rfl
def Apc:TI:=⟨6,48,true,(.struct [(0,3),(1,3),(2,2),(3,43),(4,3),(5,37)]),(some (.agg [.int .i64 0,.int .i64 0,.int .i64 0,.int .i64 0,.int .i64 0,.int .u64 0])),true⟩
theorem Auz:Aw Tryz.prog 44=some Apc:=by kernel_rfl
def Cl:TI:=⟨6,48,true,(.struct [(0,3),(1,3),(2,2),(3,43),(4,3),(5,37)]),(some (.agg [.int .i64 0,.int .i64 0,.int .i64 0,.int .i64 0,.int .i64 0,.int .u64 0])),true⟩
theorem Au0:Aw Tryz.prog 45=some Cl:=by kernel_rfl
def Apd:TI:=⟨9,72,true,(.struct [(0,37),(1,3),(2,4),(3,45)]),(some (.agg [.int .u64 0,.int .i64 0,.bool false,.int .i64 0,.int .i64 0,.int .i64 0,.int .i64 0,.int .i64 0,.int .u64 0])),true⟩
theorem Au1:Aw Tryz.prog 46=some Apd:=by kernel_rfl
def Cp:TI:=⟨9,72,true,(.struct [(0,37),(1,3),(2,4),(3,45)]),(some (.agg [.int .u64 0,.int .i64 0,.bool false,.int .i64 0,.int .i64 0,.int .i64 0,.int .i64 0,.int .i64 0,.int .u64 0])),true⟩
theorem Au2:Aw Tryz.prog 47=some Cp:=by kernel_rfl
def Ape:TI:=⟨1,8,false,.func,(some (.nilfn)),true⟩
theorem Au3:Aw Tryz.prog 52=some Ape:=by kernel_rfl
def Ah2:TI:=⟨1,8,false,(.int .i64),(some (.int .i64 0)),true⟩
theorem Au4:Aw Tryz.prog 54=some Ah2:=by kernel_rfl
def Apf:TI:=⟨12,144,true,(.struct [(0,9),(1,54),(2,3),(3,37),(4,3),(5,43),(6,9),(7,38),(8,39),(9,2),(10,3),(11,3)]),(some (.agg [.str [],.int .i64 0,.int .i64 0,.int .u64 0,.int .i64 0,.int .i64 0,.str [],.nilsl,.nilsl,.int .i64 0,.int .i64 0,.int .i64 0])),true⟩
theorem Au5:Aw Tryz.prog 55=some Apf:=by kernel_rfl
def Apg:TI:=⟨12,144,true,(.struct [(0,9),(1,54),(2,3),(3,37),(4,3),(5,43),(6,9),(7,38),(8,39),(9,2),(10,3),(11,3)]),(some (.agg [.str [],.int .i64 0,.int .i64 0,.int .u64 0,.int .i64 0,.int .i64 0,.str [],.nilsl,.nilsl,.int .i64 0,.int .i64 0,.int .i64 0])),true⟩
theorem Au6:Aw Tryz.prog 56=some Apg:=by kernel_rfl
def Aph:TI:=⟨1,8,false,.func,(some (.nilfn)),true⟩
theorem Au7:Aw Tryz.prog 58=some Aph:=by kernel_rfl
def Api:TI:=⟨1,0,false,.other,(some (.any)),true⟩
theorem Au8:Aw Tryz.prog 59=some Api:=by kernel_rfl
def Apj:TI:=⟨1,0,false,.other,(some (.any)),true⟩
theorem Au9:Aw Tryz.prog 62=some Apj:=by kernel_rfl
def Apk:TI:=⟨1,8,false,(.int .i64),(some (.int .i64 0)),true⟩
theorem Ava:Aw Tryz.prog 64=some Apk:=by kernel_rfl
def Apl:TI:=⟨1,24,false,(.slice 3),(some (.nilsl)),true⟩
theorem Avb:Aw Tryz.prog 65=some Apl:=by kernel_rfl
def Apm:TI:=⟨17,200,true,(.struct [(0,64),(1,3),(2,56),(14,3),(15,65),(16,4)]),(some (.agg [.int .i64 0,.int .i64 0,.str [],.int .i64 0,.int .i64 0,.int .u64 0,.int .i64 0,.int .i64 0,.str [],.nilsl,.nilsl,.int .i64 0,.int .i64 0,.int .i64 0,.int .i64 0,.nilsl,.bool false])),true⟩
theorem Avc:Aw Tryz.prog 66=some Apm:=by kernel_rfl
def Cq:TI:=⟨17,200,true,(.struct [(0,64),(1,3),(2,56),(14,3),(15,65),(16,4)]),(some (.agg [.int .i64 0,.int .i64 0,.str [],.int .i64 0,.int .i64 0,.int .u64 0,.int .i64 0,.int .i64 0,.str [],.nilsl,.nilsl,.int .i64 0,.int .i64 0,.int .i64 0,.int .i64 0,.nilsl,.bool false])),true⟩
theorem Avd:Aw Tryz.prog 67=some Cq:=by kernel_rfl
def Apn:TI:=⟨1,0,false,.other,(some (.any)),true⟩
theorem Ave:Aw Tryz.prog 68=some Apn:=by kernel_rfl
def Apo:TI:=⟨1,0,false,.other,(some (.any)),true⟩
theorem Avf:Aw Tryz.prog 70=some Apo:=by kernel_rfl
def App:TI:=⟨1,8,false,.func,(some (.nilfn)),true⟩
theorem Avg:Aw Tryz.prog 73=some App:=by kernel_rfl
def Anr:TI:=⟨1,24,false,(.slice 161),(some (.nilsl)),true⟩
theorem Ans:Aw Tryz.prog 76=some Anr:=by kernel_rfl
def Apq:TI:=⟨2,32,true,(.struct [(0,76),(1,3)]),(some (.agg [.nilsl,.int .i64 0])),true⟩
theorem Avh:Aw Tryz.prog 77=some Apq:=by kernel_rfl
def Apr:TI:=⟨2,32,true,(.struct [(0,76),(1,3)]),(some (.agg [.nilsl,.int .i64 0])),true⟩
theorem Ant:Aw Tryz.prog 78=some Apr:=by kernel_rfl
def Aps:TI:=⟨1,24,false,(.slice 67),(some (.nilsl)),true⟩
theorem Avi:Aw Tryz.prog 79=some Aps:=by kernel_rfl
def Apt:TI:=⟨1,0,false,.other,(some (.any)),true⟩
theorem Avj:Aw Tryz.prog 81=some Apt:=by kernel_rfl
def Apu:TI:=⟨1,0,false,.other,(some (.any)),true⟩
theorem Avk:Aw Tryz.prog 84=some Apu:=by kernel_rfl
def Apv:TI:=⟨1,0,false,.other,(some (.any)),true⟩
theorem Avl:Aw Tryz.prog 90=some Apv:=by kernel_rfl
def Apw:TI:=⟨1,8,false,(.int .i64),(some (.int .i64 0)),true⟩
theorem Avm:Aw Tryz.prog 93=some Apw:=by kernel_rfl
def Apx:TI:=⟨10,80,true,(.struct [(0,3),(1,37),(2,3),(3,93),(4,2),(5,2),(6,2),(7,2),(8,2),(9,2)]),(some (.agg [.int .i64 0,.int .u64 0,.int .i64 0,.int .i64 0,.int .i64 0,.int .i64 0,.int .i64 0,.int .i64 0,.int .i64 0,.int .i64 0])),true⟩
theorem Avn:Aw Tryz.prog 94=some Apx:=by kernel_rfl
def Cr:TI:=⟨10,80,true,(.struct [(0,3),(1,37),(2,3),(3,93),(4,2),(5,2),(6,2),(7,2),(8,2),(9,2)]),(some (.agg [.int .i64 0,.int .u64 0,.int .i64 0,.int .i64 0,.int .i64 0,.int .i64 0,.int .i64 0,.int .i64 0,.int .i64 0,.int .i64 0])),true⟩
theorem Avo:Aw Tryz.prog 95=some Cr:=by kernel_rfl
def Apy:TI:=⟨1,24,false,(.slice 37),(some (.nilsl)),true⟩
theorem Avp:Aw Tryz.prog 98=some Apy:=by kernel_rfl
def Aj7:TI:=⟨1,8,false,.func,(some (.nilfn)),true⟩
theorem Apz:Aw Tryz.prog 101=some Aj7:=by kernel_rfl
def Aj8:TI:=⟨4,32,true,(.struct [(0,3),(1,3),(2,43),(3,43)]),(some (.agg [.int .i64 0,.int .i64 0,.int .i64 0,.int .i64 0])),true⟩
theorem Ap0:Aw Tryz.prog 104=some Aj8:=by kernel_rfl
def Bf:TI:=⟨4,32,true,(.struct [(0,3),(1,3),(2,43),(3,43)]),(some (.agg [.int .i64 0,.int .i64 0,.int .i64 0,.int .i64 0])),true⟩
theorem Ap1:Aw Tryz.prog 105=some Bf:=by kernel_rfl
def Aj9:TI:=⟨1,8,false,.func,(some (.nilfn)),true⟩
theorem Ap2:Aw Tryz.prog 107=some Aj9:=by kernel_rfl
def Aka:TI:=⟨2,16,true,(.struct [(0,3),(1,2)]),(some (.agg [.int .i64 0,.int .i64 0])),true⟩
theorem Ap3:Aw Tryz.prog 112=some Aka:=by kernel_rfl
def Bc:TI:=⟨2,16,true,(.struct [(0,3),(1,2)]),(some (.agg [.int .i64 0,.int .i64 0])),true⟩
theorem Ap4:Aw Tryz.prog 113=some Bc:=by kernel_rfl
def Akb:TI:=⟨1,8,false,.func,(some (.nilfn)),true⟩
theorem Ap5:Aw Tryz.prog 114=some Akb:=by kernel_rfl
def Akc:TI:=⟨1,24,false,(.slice 43),(some (.nilsl)),true⟩
theorem Ap6:Aw Tryz.prog 115=some Akc:=by kernel_rfl
def Akd:TI:=⟨1,0,false,.other,(some (.any)),true⟩
theorem Ap7:Aw Tryz.prog 116=some Akd:=by kernel_rfl
def Ake:TI:=⟨1,8,false,(.map 21 125),(some (.nilmap)),true⟩
theorem Ap8:Aw Tryz.prog 120=some Ake:=by kernel_rfl
def Akf:TI:=⟨1,8,false,.func,(some (.nilfn)),true⟩
theorem Ap9:Aw Tryz.prog 123=some Akf:=by kernel_rfl
def Akg:TI:=⟨2,16,true,(.struct [(0,58),(1,123)]),(some (.agg [.nilfn,.nilfn])),true⟩
theorem Aqa:Aw Tryz.prog 124=some Akg:=by kernel_rfl
def Akh:TI:=⟨2,16,true,(.struct [(0,58),(1,123)]),(some (.agg [.nilfn,.nilfn])),true⟩
theorem Aqb:Aw Tryz.prog 125=some Akh:=by kernel_rfl
def Aki:TI:=⟨1,8,false,(.ptr 56),(some (.nilp)),true⟩
theorem Aqc:Aw Tryz.prog 130=some Aki:=by kernel_rfl
def Akj:TI:=⟨1,0,false,.other,(some (.any)),true⟩
theorem Aqd:Aw Tryz.prog 135=some Akj:=by kernel_rfl
def Akk:TI:=⟨1,0,false,.other,(some (.any)),true⟩
theorem Aqe:Aw Tryz.prog 141=some Akk:=by kernel_rfl
def Akl:TI:=⟨1,0,false,.other,(some (.any)),true⟩
theorem Aqf:Aw Tryz.prog 143=some Akl:=by kernel_rfl
def Akm:TI:=⟨1,16,true,(.struct [(0,9)]),(some (.agg [.str []])),true⟩
theorem Aqg:Aw Tryz.prog 147=some Akm:=by kernel_rfl
def Akn:TI:=⟨1,8,false,(.map 4 147),(some (.nilmap)),true⟩
theorem Aqh:Aw Tryz.prog 148=some Akn:=by kernel_rfl
def Ako:TI:=⟨1,8,false,(.ptr 152),(some (.nilp)),true⟩
theorem Aqi:Aw Tryz.prog 149=some Ako:=by kernel_rfl
def Bg:TI:=⟨1,24,false,(.slice 5),(some (.nilsl)),true⟩
theorem Aqj:Aw Tryz.prog 150=some Bg:=by kernel_rfl
def Akp:TI:=⟨2,32,true,(.struct [(0,149),(1,150)]),(some (.agg [.nilp,.nilsl])),true⟩
theorem Aqk:Aw Tryz.prog 151=some Akp:=by kernel_rfl
def Akq:TI:=⟨2,32,true,(.struct [(0,149),(1,150)]),(some (.agg [.nilp,.nilsl])),true⟩
theorem Aql:Aw Tryz.prog 152=some Akq:=by kernel_rfl
def Akr:TI:=⟨1,16,false,.iface,(some (.nilif)),false⟩
theorem Aqm:Aw Tryz.prog 153=some Akr:=by kernel_rfl
def Aks:TI:=⟨1,16,false,.iface,(some (.nilif)),false⟩
theorem Aqn:Aw Tryz.prog 154=some Aks:=by kernel_rfl
def Akt:TI:=⟨1,0,false,.other,(some (.any)),true⟩
theorem Aqo:Aw Tryz.prog 155=some Akt:=by kernel_rfl
def Aku:TI:=⟨1,8,false,.func,(some (.nilfn)),true⟩
theorem Aqp:Aw Tryz.prog 157=some Aku:=by kernel_rfl
def Akv:TI:=⟨3,24,true,(.struct [(0,3),(1,3),(2,3)]),(some (.agg [.int .i64 0,.int .i64 0,.int .i64 0])),true⟩
theorem Aqq:Aw Tryz.prog 158=some Akv:=by kernel_rfl
def Aen:TI:=⟨3,24,true,(.struct [(0,3),(1,3),(2,3)]),(some (.agg [.int .i64 0,.int .i64 0,.int .i64 0])),true⟩
theorem Aeo:Aw Tryz.prog 159=some Aen:=by kernel_rfl
def Akw:TI:=⟨6,48,true,(.struct [(0,159),(3,3),(4,3),(5,3)]),(some (.agg [.int .i64 0,.int .i64 0,.int .i64 0,.int .i64 0,.int .i64 0,.int .i64 0])),true⟩
theorem Aqr:Aw Tryz.prog 160=some Akw:=by kernel_rfl
def Bd:TI:=⟨6,48,true,(.struct [(0,159),(3,3),(4,3),(5,3)]),(some (.agg [.int .i64 0,.int .i64 0,.int .i64 0,.int .i64 0,.int .i64 0,.int .i64 0])),true⟩
theorem Aep:Aw Tryz.prog 161=some Bd:=by kernel_rfl
def Akx:TI:=⟨1,0,false,.other,(some (.any)),true⟩
theorem Aqs:Aw Tryz.prog 163=some Akx:=by kernel_rfl
def Aky:TI:=⟨1,0,false,.other,(some (.any)),true⟩
theorem Aqt:Aw Tryz.prog 167=some Aky:=by kernel_rfl
def Akz:TI:=⟨6,48,true,(.arr 6 2),(some (.agg [.int .i64 0,.int .i64 0,.int .i64 0,.int .i64 0,.int .i64 0,.int .i64 0])),true⟩
theorem Aqu:Aw Tryz.prog 169=some Akz:=by kernel_rfl
def Ak0:TI:=⟨6,48,true,(.arr 6 2),(some (.agg [.int .i64 0,.int .i64 0,.int .i64 0,.int .i64 0,.int .i64 0,.int .i64 0])),true⟩
theorem Aqv:Aw Tryz.prog 170=some Ak0:=by kernel_rfl
def Ak1:TI:=⟨1,24,false,(.slice 2),(some (.nilsl)),true⟩
theorem Aqw:Aw Tryz.prog 173=some Ak1:=by kernel_rfl
def Ak2:TI:=⟨1,8,false,.func,(some (.nilfn)),true⟩
theorem Aqx:Aw Tryz.prog 178=some Ak2:=by kernel_rfl
def Ak3:TI:=⟨1,24,false,(.slice 21),(some (.nilsl)),true⟩
theorem Aqy:Aw Tryz.prog 180=some Ak3:=by kernel_rfl
def Ak4:TI:=⟨1,8,false,.func,(some (.nilfn)),true⟩
theorem Aqz:Aw Tryz.prog 182=some Ak4:=by kernel_rfl
def Ak5:TI:=⟨1,8,false,(.ptr 193),(some (.nilp)),true⟩
theorem Aq0:Aw Tryz.prog 187=some Ak5:=by kernel_rfl
def Ak6:TI:=⟨1,8,false,(.ptr 327),(some (.nilp)),true⟩
theorem Aq1:Aw Tryz.prog 188=some Ak6:=by kernel_rfl
def Ak7:TI:=⟨1,8,false,(.ptr 322),(some (.nilp)),true⟩
theorem Aq2:Aw Tryz.prog 189=some Ak7:=by kernel_rfl
def Ak8:TI:=⟨3,24,true,(.struct [(0,188),(1,189),(2,4)]),(some (.agg [.nilp,.nilp,.bool false])),true⟩
theorem Aq3:Aw Tryz.prog 190=some Ak8:=by kernel_rfl
def Ak9:TI:=⟨3,24,true,(.struct [(0,188),(1,189),(2,4)]),(some (.agg [.nilp,.nilp,.bool false])),true⟩
theorem Aq4:Aw Tryz.prog 191=some Ak9:=by kernel_rfl
def Ala:TI:=⟨4,32,true,(.struct [(0,191),(3,130)]),(some (.agg [.nilp,.nilp,.bool false,.nilp])),true⟩
theorem Aq5:Aw Tryz.prog 192=some Ala:=by kernel_rfl
def Alb:TI:=⟨4,32,true,(.struct [(0,191),(3,130)]),(some (.agg [.nilp,.nilp,.bool false,.nilp])),true⟩
theorem Aq6:Aw Tryz.prog 193=some Alb:=by kernel_rfl
def Alc:TI:=⟨1,8,false,(.ptr 9),(some (.nilp)),true⟩
theorem Aq7:Aw Tryz.prog 195=some Alc:=by kernel_rfl
def Ald:TI:=⟨1,8,false,.func,(some (.nilfn)),true⟩
theorem Aq8:Aw Tryz.prog 196=some Ald:=by kernel_rfl
def Bh:TI:=⟨1,8,false,(.ptr 3),(some (.nilp)),true⟩
theorem Aq9:Aw Tryz.prog 198=some Bh:=by kernel_rfl
def Ale:TI:=⟨1,8,false,.func,(some (.nilfn)),true⟩
theorem Ara:Aw Tryz.prog 199=some Ale:=by kernel_rfl
def Alf:TI:=⟨1,0,false,.other,(some (.any)),true⟩
theorem Arb:Aw Tryz.prog 200=some Alf:=by kernel_rfl
def Alg:TI:=⟨1,0,false,.other,(some (.any)),true⟩
theorem Arc:Aw Tryz.prog 202=some Alg:=by kernel_rfl
def Alh:TI:=⟨1,0,false,.other,(some (.any)),true⟩
theorem Ard:Aw Tryz.prog 204=some Alh:=by kernel_rfl
def Ali:TI:=⟨1,24,false,(.slice 242),(some (.nilsl)),true⟩
theorem Are:Aw Tryz.prog 206=some Ali:=by kernel_rfl
def Alj:TI:=⟨1,0,false,.other,(some (.any)),true⟩
theorem Arf:Aw Tryz.prog 207=some Alj:=by kernel_rfl
def Alk:TI:=⟨1,0,false,.other,(some (.any)),true⟩
theorem Arh:Aw Tryz.prog 214=some Alk:=by kernel_rfl
def Alm:TI:=⟨1,8,false,(.map 3 220),(some (.nilmap)),true⟩
theorem Ari:Aw Tryz.prog 218=some Alm:=by kernel_rfl
def Aln:TI:=⟨1,1,true,(.struct [(0,4)]),(some (.agg [.bool false])),true⟩
theorem Arj:Aw Tryz.prog 220=some Aln:=by kernel_rfl
def Alo:TI:=⟨1,8,false,(.ptr 5),(some (.nilp)),true⟩
theorem Ark:Aw Tryz.prog 221=some Alo:=by kernel_rfl
def Alp:TI:=⟨1,24,false,(.slice 198),(some (.nilsl)),true⟩
theorem Arl:Aw Tryz.prog 222=some Alp:=by kernel_rfl
def Alq:TI:=⟨1,8,false,(.ptr 191),(some (.nilp)),true⟩
theorem Arm:Aw Tryz.prog 225=some Alq:=by kernel_rfl
def Alr:TI:=⟨1,8,false,(.ptr 47),(some (.nilp)),true⟩
theorem Arn:Aw Tryz.prog 227=some Alr:=by kernel_rfl
def Als:TI:=⟨1,8,false,.func,(some (.nilfn)),true⟩
theorem Aro:Aw Tryz.prog 232=some Als:=by kernel_rfl
def Alt:TI:=⟨24,24,true,(.arr 24 5),(some (.agg [.int .u8 0,.int .u8 0,.int .u8 0,.int .u8 0,.int .u8 0,.int .u8 0,.int .u8 0,.int .u8 0,.int .u8 0,.int .u8 0,.int .u8 0,.int .u8 0,.int .u8 0,.int .u8 0,.int .u8 0,.int .u8 0,.int .u8 0,.int .u8 0,.int .u8 0,.int .u8 0,.int .u8 0,.int .u8 0,.int .u8 0,.int .u8 0])),true⟩
theorem Arp:Aw Tryz.prog 233=some Alt:=by kernel_rfl
def Alu:TI:=⟨1,0,false,.other,(some (.any)),true⟩
theorem Arq:Aw Tryz.prog 235=some Alu:=by kernel_rfl
def Alv:TI:=⟨1,0,false,.other,(some (.any)),true⟩
theorem Arr:Aw Tryz.prog 238=some Alv:=by kernel_rfl
def Bi:TI:=⟨1,8,false,.func,(some (.nilfn)),true⟩
theorem Ars:Aw Tryz.prog 242=some Bi:=by kernel_rfl
def Alw:TI:=⟨10,96,true,(.struct [(0,54),(1,9),(2,9),(3,3),(4,3),(5,37),(6,43),(7,2),(8,3),(9,3)]),(some (.agg [.int .i64 0,.str [],.str [],.int .i64 0,.int .i64 0,.int .u64 0,.int .i64 0,.int .i64 0,.int .i64 0,.int .i64 0])),true⟩
theorem Art:Aw Tryz.prog 243=some Alw:=by kernel_rfl
def zR:TI:=⟨10,96,true,(.struct [(0,54),(1,9),(2,9),(3,3),(4,3),(5,37),(6,43),(7,2),(8,3),(9,3)]),(some (.agg [.int .i64 0,.str [],.str [],.int .i64 0,.int .i64 0,.int .u64 0,.int .i64 0,.int .i64 0,.int .i64 0,.int .i64 0])),true⟩
theorem Aru:Aw Tryz.prog 244=some zR:=by kernel_rfl
def Alx:TI:=⟨1,8,false,.func,(some (.nilfn)),true⟩
theorem Arv:Aw Tryz.prog 245=some Alx:=by kernel_rfl
def Aly:TI:=⟨1,0,false,.other,(some (.any)),true⟩
theorem Arw:Aw Tryz.prog 249=some Aly:=by kernel_rfl
def Alz:TI:=⟨1,0,false,.other,(some (.any)),true⟩
theorem Arx:Aw Tryz.prog 251=some Alz:=by kernel_rfl
def Al0:TI:=⟨1,0,false,.other,(some (.any)),true⟩
theorem Ary:Aw Tryz.prog 253=some Al0:=by kernel_rfl
def Al1:TI:=⟨1,0,false,.other,(some (.any)),true⟩
theorem Arz:Aw Tryz.prog 255=some Al1:=by kernel_rfl
def Al2:TI:=⟨1,8,false,.other,(some (.nilp)),true⟩
theorem Ar0:Aw Tryz.prog 264=some Al2:=by kernel_rfl
def Al3:TI:=⟨1,8,false,(.ptr 37),(some (.nilp)),true⟩
theorem Ar1:Aw Tryz.prog 268=some Al3:=by kernel_rfl
def Al4:TI:=⟨1,8,false,(.ptr 45),(some (.nilp)),true⟩
theorem Ar2:Aw Tryz.prog 272=some Al4:=by kernel_rfl
def Al5:TI:=⟨1,8,false,(.ptr 43),(some (.nilp)),true⟩
theorem Ar3:Aw Tryz.prog 274=some Al5:=by kernel_rfl
def Bj:TI:=⟨1,24,false,(.slice 4),(some (.nilsl)),true⟩
theorem Ar4:Aw Tryz.prog 275=some Bj:=by kernel_rfl
def Al6:TI:=⟨20,160,true,(.arr 20 37),(some (.agg [.int .u64 0,.int .u64 0,.int .u64 0,.int .u64 0,.int .u64 0,.int .u64 0,.int .u64 0,.int .u64 0,.int .u64 0,.int .u64 0,.int .u64 0,.int .u64 0,.int .u64 0,.int .u64 0,.int .u64 0,.int .u64 0,.int .u64 0,.int .u64 0,.int .u64 0,.int .u64 0])),true⟩
theorem Ar5:Aw Tryz.prog 281=some Al6:=by kernel_rfl
def Al7:TI:=⟨1,4,false,(.int .u32),(some (.int .u32 0)),true⟩
theorem Ar6:Aw Tryz.prog 282=some Al7:=by kernel_rfl
def Al8:TI:=⟨65,65,true,(.arr 65 5),(some (.agg [.int .u8 0,.int .u8 0,.int .u8 0,.int .u8 0,.int .u8 0,.int .u8 0,.int .u8 0,.int .u8 0,.int .u8 0,.int .u8 0,.int .u8 0,.int .u8 0,.int .u8 0,.int .u8 0,.int .u8 0,.int .u8 0,.int .u8 0,.int .u8 0,.int .u8 0,.int .u8 0,.int .u8 0,.int .u8 0,.int .u8 0,.int .u8 0,.int .u8 0,.int .u8 0,.int .u8 0,.int .u8 0,.int .u8 0,.int .u8 0,.int .u8 0,.int .u8 0,.int .u8 0,.int .u8 0,.int .u8 0,.int .u8 0,.int .u8 0,.int .u8 0,.int .u8 0,.int .u8 0,.int .u8 0,.int .u8 0,.int .u8 0,.int .u8 0,.int .u8 0,.int .u8 0,.int .u8 0,.int .u8 0,.int .u8 0,.int .u8 0,.int .u8 0,.int .u8 0,.int .u8 0,.int .u8 0,.int .u8 0,.int .u8 0,.int .u8 0,.int .u8 0,.int .u8 0,.int .u8 0,.int .u8 0,.int .u8 0,.int .u8 0,.int .u8 0,.int .u8 0])),true⟩
theorem Ar7:Aw Tryz.prog 283=some Al8:=by kernel_rfl
def Al9:TI:=⟨1,8,false,(.int .u64),(some (.int .u64 0)),true⟩
theorem Ar8:Aw Tryz.prog 284=some Al9:=by kernel_rfl
def Ama:TI:=⟨1,8,false,(.ptr 113),(some (.nilp)),true⟩
theorem Ar9:Aw Tryz.prog 290=some Ama:=by kernel_rfl
def Amb:TI:=⟨1,8,false,(.ptr 2),(some (.nilp)),true⟩
theorem Asa:Aw Tryz.prog 292=some Amb:=by kernel_rfl
def Amc:TI:=⟨1,0,false,.other,(some (.any)),true⟩
theorem Asb:Aw Tryz.prog 293=some Amc:=by kernel_rfl
def Amd:TI:=⟨1,8,false,(.int .i64),(some (.int .i64 0)),true⟩
theorem Asd:Aw Tryz.prog 296=some Amd:=by kernel_rfl
def Ame:TI:=⟨1,0,false,.other,(some (.any)),true⟩
theorem Ase:Aw Tryz.prog 297=some Ame:=by kernel_rfl
def Amf:TI:=⟨1,8,false,(.ptr 316),(some (.nilp)),true⟩
theorem Asf:Aw Tryz.prog 299=some Amf:=by kernel_rfl
def Amg:TI:=⟨1,24,false,(.slice 275),(some (.nilsl)),true⟩
theorem Asg:Aw Tryz.prog 306=some Amg:=by kernel_rfl
def Amh:TI:=⟨1,0,false,.other,(some (.any)),true⟩
theorem Ash:Aw Tryz.prog 310=some Amh:=by kernel_rfl
def Ami:TI:=⟨1,0,false,.other,(some (.any)),true⟩
theorem Asi:Aw Tryz.prog 312=some Ami:=by kernel_rfl
def Amj:TI:=⟨3,48,true,(.struct [(0,9),(1,9),(2,154)]),(some (.agg [.str [],.str [],.nilif])),false⟩
theorem Asj:Aw Tryz.prog 315=some Amj:=by kernel_rfl
def Amk:TI:=⟨3,48,true,(.struct [(0,9),(1,9),(2,154)]),(some (.agg [.str [],.str [],.nilif])),false⟩
theorem Asl:Aw Tryz.prog 316=some Amk:=by kernel_rfl
def Aml:TI:=⟨8,8,true,(.arr 8 5),(some (.agg [.int .u8 0,.int .u8 0,.int .u8 0,.int .u8 0,.int .u8 0,.int .u8 0,.int .u8 0,.int .u8 0])),true⟩
theorem Asm:Aw Tryz.prog 318=some Aml:=by kernel_rfl
def Amm:TI:=⟨3,40,true,(.struct [(0,150),(1,3),(2,4)]),(some (.agg [.nilsl,.int .i64 0,.bool false])),true⟩
theorem Asn:Aw Tryz.prog 321=some Amm:=by kernel_rfl
def Amn:TI:=⟨3,40,true,(.struct [(0,150),(1,3),(2,4)]),(some (.agg [.nilsl,.int .i64 0,.bool false])),true⟩
theorem Aso:Aw Tryz.prog 322=some Amn:=by kernel_rfl
def Amo:TI:=⟨32,32,true,(.arr 32 5),(some (.agg [.int .u8 0,.int .u8 0,.int .u8 0,.int .u8 0,.int .u8 0,.int .u8 0,.int .u8 0,.int .u8 0,.int .u8 0,.int .u8 0,.int .u8 0,.int .u8 0,.int .u8 0,.int .u8 0,.int .u8 0,.int .u8 0,.int .u8 0,.int .u8 0,.int .u8 0,.int .u8 0,.int .u8 0,.int .u8 0,.int .u8 0,.int .u8 0,.int .u8 0,.int .u8 0,.int .u8 0,.int .u8 0,.int .u8 0,.int .u8 0,.int .u8 0,.int .u8 0])),true⟩
theorem Asp:Aw Tryz.prog 323=some Amo:=by kernel_rfl
def Amp:TI:=⟨64,64,true,(.arr 64 5),(some (.agg [.int .u8 0,.int .u8 0,.int .u8 0,.int .u8 0,.int .u8 0,.int .u8 0,.int .u8 0,.int .u8 0,.int .u8 0,.int .u8 0,.int .u8 0,.int .u8 0,.int .u8 0,.int .u8 0,.int .u8 0,.int .u8 0,.int .u8 0,.int .u8 0,.int .u8 0,.int .u8 0,.int .u8 0,.int .u8 0,.int .u8 0,.int .u8 0,.int .u8 0,.int .u8 0,.int .u8 0,.int .u8 0,.int .u8 0,.int .u8 0,.int .u8 0,.int .u8 0,.int .u8 0,.int .u8 0,.int .u8 0,.int .u8 0,.int .u8 0,.int .u8 0,.int .u8 0,.int .u8 0,.int .u8 0,.int .u8 0,.int .u8 0,.int .u8 0,.int .u8 0,.int .u8 0,.int .u8 0,.int .u8 0,.int .u8 0,.int .u8 0,.int .u8 0,.int .u8 0,.int .u8 0,.int .u8 0,.int .u8 0,.int .u8 0,.int .u8 0,.int .u8 0,.int .u8 0,.int .u8 0,.int .u8 0,.int .u8 0,.int .u8 0,.int .u8 0])),true⟩
theorem Asq:Aw Tryz.prog 324=some Amp:=by kernel_rfl
def Amq:TI:=⟨1,24,false,(.slice 150),(some (.nilsl)),true⟩
theorem Asr:Aw Tryz.prog 325=some Amq:=by kernel_rfl
def Amr:TI:=⟨3,40,true,(.struct [(0,325),(1,3),(2,4)]),(some (.agg [.nilsl,.int .i64 0,.bool false])),true⟩
theorem Ass:Aw Tryz.prog 326=some Amr:=by kernel_rfl
def Ams:TI:=⟨3,40,true,(.struct [(0,325),(1,3),(2,4)]),(some (.agg [.nilsl,.int .i64 0,.bool false])),true⟩
theorem Ast:Aw Tryz.prog 327=some Ams:=by kernel_rfl
def Amt:TI:=⟨256,256,true,(.arr 256 5),(some (.agg [.int .u8 0,.int .u8 0,.int .u8 0,.int .u8 0,.int .u8 0,.int .u8 0,.int .u8 0,.int .u8 0,.int .u8 0,.int .u8 0,.int .u8 0,.int .u8 0,.int .u8 0,.int .u8 0,.int .u8 0,.int .u8 0,.int .u8 0,.int .u8 0,.int .u8 0,.int .u8 0,.int .u8 0,.int .u8 0,.int .u8 0,.int .u8 0,.int .u8 0,.int .u8 0,.int .u8 0,.int .u8 0,.int .u8 0,.int .u8 0,.int .u8 0,.int .u8 0,.int .u8 0,.int .u8 0,.int .u8 0,.int .u8 0,.int .u8 0,.int .u8 0,.int .u8 0,.int .u8 0,.int .u8 0,.int .u8 0,.int .u8 0,.int .u8 0,.int .u8 0,.int .u8 0,.int .u8 0,.int .u8 0,.int .u8 0,.int .u8 0,.int .u8 0,.int .u8 0,.int .u8 0,.int .u8 0,.int .u8 0,.int .u8 0,.int .u8 0,.int .u8 0,.int .u8 0,.int .u8 0,.int .u8 0,.int .u8 0,.int .u8 0,.int .u8 0,.int .u8 0,.int .u8 0,.int .u8 0,.int .u8 0,.int .u8 0,.int .u8 0,.int .u8 0,.int .u8 0,.int .u8 0,.int .u8 0,.int .u8 0,.int .u8 0,.int .u8 0,.int .u8 0,.int .u8 0,.int .u8 0,.int .u8 0,.int .u8 0,.int .u8 0,.int .u8 0,.int .u8 0,.int .u8 0,.int .u8 0,.int .u8 0,.int .u8 0,.int .u8 0,.int .u8 0,.int .u8 0,.int .u8 0,.int .u8 0,.int .u8 0,.int .u8 0,.int .u8 0,.int .u8 0,.int .u8 0,.int .u8 0,.int .u8 0,.int .u8 0,.int .u8 0,.int .u8 0,.int .u8 0,.int .u8 0,.int .u8 0,.int .u8 0,.int .u8 0,.int .u8 0,.int .u8 0,.int .u8 0,.int .u8 0,.int .u8 0,.int .u8 0,.int .u8 0,.int .u8 0,.int .u8 0,.int .u8 0,.int .u8 0,.int .u8 0,.int .u8 0,.int .u8 0,.int .u8 0,.int .u8 0,.int .u8 0,.int .u8 0,.int .u8 0,.int .u8 0,.int .u8 0,.int .u8 0,.int .u8 0,.int .u8 0,.int .u8 0,.int .u8 0,.int .u8 0,.int .u8 0,.int .u8 0,.int .u8 0,.int .u8 0,.int .u8 0,.int .u8 0,.int .u8 0,.int .u8 0,.int .u8 0,.int .u8 0,.int .u8 0,.int .u8 0,.int .u8 0,.int .u8 0,.int .u8 0,.int .u8 0,.int .u8 0,.int .u8 0,.int .u8 0,.int .u8 0,.int .u8 0,.int .u8 0,.int .u8 0,.int .u8 0,.int .u8 0,.int .u8 0,.int .u8 0,.int .u8 0,.int .u8 0,.int .u8 0,.int .u8 0,.int .u8 0,.int .u8 0,.int .u8 0,.int .u8 0,.int .u8 0,.int .u8 0,.int .u8 0,.int .u8 0,.int .u8 0,.int .u8 0,.int .u8 0,.int .u8 0,.int .u8 0,.int .u8 0,.int .u8 0,.int .u8 0,.int .u8 0,.int .u8 0,.int .u8 0,.int .u8 0,.int .u8 0,.int .u8 0,.int .u8 0,.int .u8 0,.int .u8 0,.int .u8 0,.int .u8 0,.int .u8 0,.int .u8 0,.int .u8 0,.int .u8 0,.int .u8 0,.int .u8 0,.int .u8 0,.int .u8 0,.int .u8 0,.int .u8 0,.int .u8 0,.int .u8 0,.int .u8 0,.int .u8 0,.int .u8 0,.int .u8 0,.int .u8 0,.int .u8 0,.int .u8 0,.int .u8 0,.int .u8 0,.int .u8 0,.int .u8 0,.int .u8 0,.int .u8 0,.int .u8 0,.int .u8 0,.int .u8 0,.int .u8 0,.int .u8 0,.int .u8 0,.int .u8 0,.int .u8 0,.int .u8 0,.int .u8 0,.int .u8 0,.int .u8 0,.int .u8 0,.int .u8 0,.int .u8 0,.int .u8 0,.int .u8 0,.int .u8 0,.int .u8 0,.int .u8 0,.int .u8 0,.int .u8 0,.int .u8 0,.int .u8 0,.int .u8 0,.int .u8 0,.int .u8 0,.int .u8 0,.int .u8 0,.int .u8 0,.int .u8 0,.int .u8 0,.int .u8 0,.int .u8 0,.int .u8 0,.int .u8 0,.int .u8 0])),true⟩
theorem Asu:Aw Tryz.prog 330=some Amt:=by kernel_rfl
def Amu:TI:=⟨2,2,true,(.struct [(0,5),(1,5)]),(some (.agg [.int .u8 0,.int .u8 0])),true⟩
theorem Asv:Aw Tryz.prog 331=some Amu:=by kernel_rfl
def Amv:TI:=⟨2,2,true,(.struct [(0,5),(1,5)]),(some (.agg [.int .u8 0,.int .u8 0])),true⟩
theorem Asw:Aw Tryz.prog 332=some Amv:=by kernel_rfl
def Amw:TI:=⟨32,32,true,(.arr 16 332),(some (.agg [.int .u8 0,.int .u8 0,.int .u8 0,.int .u8 0,.int .u8 0,.int .u8 0,.int .u8 0,.int .u8 0,.int .u8 0,.int .u8 0,.int .u8 0,.int .u8 0,.int .u8 0,.int .u8 0,.int .u8 0,.int .u8 0,.int .u8 0,.int .u8 0,.int .u8 0,.int .u8 0,.int .u8 0,.int .u8 0,.int .u8 0,.int .u8 0,.int .u8 0,.int .u8 0,.int .u8 0,.int .u8 0,.int .u8 0,.int .u8 0,.int .u8 0,.int .u8 0])),true⟩
theorem Asx:Aw Tryz.prog 333=some Amw:=by kernel_rfl
def Amx:TI:=⟨1,8,false,(.ptr 337),(some (.nilp)),true⟩
theorem Asy:Aw Tryz.prog 335=some Amx:=by kernel_rfl
def Amy:TI:=⟨1,16,true,(.struct [(0,9)]),(some (.agg [.str []])),true⟩
theorem Asz:Aw Tryz.prog 336=some Amy:=by kernel_rfl
def Amz:TI:=⟨1,16,true,(.struct [(0,9)]),(some (.agg [.str []])),true⟩
theorem As0:Aw Tryz.prog 337=some Amz:=by kernel_rfl
def As1:TT:=(.node 159 (.node 70 (.node 40 (.node 24 (.node 9 (.node 3 (.node 2 (.leaf 0 (some ty0)) (.leaf 2 (some ty2))) (.node 4 (.leaf 3 (some ty3)) (.node 5 (.leaf 4 (some ty4)) (.leaf 5 (some ty5))))) (.node 21 (.node 20 (.leaf 9 (some ty9)) (.leaf 20 (some Aoy))) (.node 22 (.leaf 21 (some Cn)) (.node 23 (.leaf 22 (some Aoz)) (.leaf 23 (some Ao0)))))) (.node 29 (.node 26 (.node 25 (.leaf 24 (some Ao1)) (.leaf 25 (some Ao2))) (.node 27 (.leaf 26 (some Ao3)) (.node 28 (.leaf 27 (some Ao4)) (.leaf 28 (some Ao5))))) (.node 37 (.node 32 (.leaf 29 (some Ao6)) (.leaf 32 (some Ao7))) (.node 38 (.leaf 37 (some Ch)) (.node 39 (.leaf 38 (some Ao8)) (.leaf 39 (some Ao9))))))) (.node 55 (.node 45 (.node 42 (.node 41 (.leaf 40 (some Apa)) (.leaf 41 (some Apb))) (.node 43 (.leaf 42 (some Co)) (.node 44 (.leaf 43 (some Ci)) (.leaf 44 (some Apc))))) (.node 47 (.node 46 (.leaf 45 (some Cl)) (.leaf 46 (some Apd))) (.node 52 (.leaf 47 (some Cp)) (.node 54 (.leaf 52 (some Ape)) (.leaf 54 (some Ah2)))))) (.node 64 (.node 58 (.node 56 (.leaf 55 (some Apf)) (.leaf 56 (some Apg))) (.node 59 (.leaf 58 (some Aph)) (.node 62 (.leaf 59 (some Api)) (.leaf 62 (some Apj))))) (.node 66 (.node 65 (.leaf 64 (some Apk)) (.leaf 65 (some Apl))) (.node 67 (.leaf 66 (some Apm)) (.node 68 (.leaf 67 (some Cq)) (.leaf 68 (some Apn)))))))) (.node 115 (.node 94 (.node 79 (.node 76 (.node 73 (.leaf 70 (some Apo)) (.leaf 73 (some App))) (.node 77 (.leaf 76 (some Anr)) (.node 78 (.leaf 77 (some Apq)) (.leaf 78 (some Apr))))) (.node 84 (.node 81 (.leaf 79 (some Aps)) (.leaf 81 (some Apt))) (.node 90 (.leaf 84 (some Apu)) (.node 93 (.leaf 90 (some Apv)) (.leaf 93 (some Apw)))))) (.node 105 (.node 98 (.node 95 (.leaf 94 (some Apx)) (.leaf 95 (some Cr))) (.node 101 (.leaf 98 (some Apy)) (.node 104 (.leaf 101 (some Aj7)) (.leaf 104 (some Aj8))))) (.node 112 (.node 107 (.leaf 105 (some Bf)) (.leaf 107 (some Aj9))) (.node 113 (.leaf 112 (some Aka)) (.node 114 (.leaf 113 (some Bc)) (.leaf 114 (some Akb))))))) (.node 147 (.node 125 (.node 120 (.node 116 (.leaf 115 (some Akc)) (.leaf 116 (some Akd))) (.node 123 (.leaf 120 (some Ake)) (.node 124 (.leaf 123 (some Akf)) (.leaf 124 (some Akg))))) (.node 135 (.node 130 (.leaf 125 (some Akh)) (.leaf 130 (some Aki))) (.node 141 (.leaf 135 (some Akj)) (.node 143 (.leaf 141 (some Akk)) (.leaf 143 (some Akl)))))) (.node 152 (.node 149 (.node 148 (.leaf 147 (some Akm)) (.leaf 148 (some Akn))) (.node 150 (.leaf 149 (some Ako)) (.node 151 (.leaf 150 (some Bg)) (.leaf 151 (some Akp))))) (.node 155 (.node 153 (.leaf 152 (some Akq)) (.node 154 (.leaf 153 (some Akr)) (.leaf 154 (some Aks)))) (.node 157 (.leaf 155 (some Akt)) (.node 158 (.leaf 157 (some Aku)) (.leaf 158 (some Akv))))))))) (.node 244 (.node 198 (.node 182 (.node 169 (.node 161 (.node 160 (.leaf 159 (some Aen)) (.leaf 160 (some Akw))) (.node 163 (.leaf 161 (some Bd)) (.node 167 (.leaf 163 (some Akx)) (.leaf 167 (some Aky))))) (.node 173 (.node 170 (.leaf 169 (some Akz)) (.leaf 170 (some Ak0))) (.node 178 (.leaf 173 (some Ak1)) (.node 180 (.leaf 178 (some Ak2)) (.leaf 180 (some Ak3)))))) (.node 191 (.node 188 (.node 187 (.leaf 182 (some Ak4)) (.leaf 187 (some Ak5))) (.node 189 (.leaf 188 (some Ak6)) (.node 190 (.leaf 189 (some Ak7)) (.leaf 190 (some Ak8))))) (.node 193 (.node 192 (.leaf 191 (some Ak9)) (.leaf 192 (some Ala))) (.node 195 (.leaf 193 (some Alb)) (.node 196 (.leaf 195 (some Alc)) (.leaf 196 (some Ald))))))) (.node 221 (.node 206 (.node 200 (.node 199 (.leaf 198 (some Bh)) (.leaf 199 (some Ale))) (.node 202 (.leaf 200 (some Alf)) (.node 204 (.leaf 202 (some Alg)) (.leaf 204 (some Alh))))) (.node 214 (.node 207 (.leaf 206 (some Ali)) (.leaf 207 (some Alj))) (.node 218 (.leaf 214 (some Alk)) (.node 220 (.leaf 218 (some Alm)) (.leaf 220 (some Aln)))))) (.node 233 (.node 225 (.node 222 (.leaf 221 (some Alo)) (.leaf 222 (some Alp))) (.node 227 (.leaf 225 (some Alq)) (.node 232 (.leaf 227 (some Alr)) (.leaf 232 (some Als))))) (.node 238 (.node 235 (.leaf 233 (some Alt)) (.leaf 235 (some Alu))) (.node 242 (.leaf 238 (some Alv)) (.node 243 (.leaf 242 (some Bi)) (.leaf 243 (some Alw)))))))) (.node 299 (.node 275 (.node 255 (.node 249 (.node 245 (.leaf 244 (some zR)) (.leaf 245 (some Alx))) (.node 251 (.leaf 249 (some Aly)) (.node 253 (.leaf 251 (some Alz)) (.leaf 253 (some Al0))))) (.node 268 (.node 264 (.leaf 255 (some Al1)) (.leaf 264 (some Al2))) (.node 272 (.leaf 268 (some Al3)) (.node 274 (.leaf 272 (some Al4)) (.leaf 274 (some Al5)))))) (.node 290 (.node 282 (.node 281 (.leaf 275 (some Bj)) (.leaf 281 (some Al6))) (.node 283 (.leaf 282 (some Al7)) (.node 284 (.leaf 283 (some Al8)) (.leaf 284 (some Al9))))) (.node 293 (.node 292 (.leaf 290 (some Ama)) (.leaf 292 (some Amb))) (.node 296 (.leaf 293 (some Amc)) (.node 297 (.leaf 296 (some Amd)) (.leaf 297 (some Ame))))))) (.node 324 (.node 316 (.node 310 (.node 306 (.leaf 299 (some Amf)) (.leaf 306 (some Amg))) (.node 312 (.leaf 310 (some Amh)) (.node 315 (.leaf 312 (some Ami)) (.leaf 315 (some Amj))))) (.node 321 (.node 318 (.leaf 316 (some Amk)) (.leaf 318 (some Aml))) (.node 322 (.leaf 321 (some Amm)) (.node 323 (.leaf 322 (some Amn)) (.leaf 323 (some Amo)))))) (.node 331 (.node 326 (.node 325 (.leaf 324 (some Amp)) (.leaf 325 (some Amq))) (.node 327 (.leaf 326 (some Amr)) (.node 330 (.leaf 327 (some Ams)) (.leaf 330 (some Amt))))) (.node 335 (.node 332 (.leaf 331 (some Amu)) (.node 333 (.leaf 332 (some Amv)) (.leaf 333 (some Amw)))) (.node 336 (.leaf 335 (some Amx)) (.node 337 (.leaf 336 (some Amy)) (.leaf 337 (some Amz))))))))))
def TY:TypeId→Option TI:=As1.look
theorem Aq:TyOk Tryz.prog TY:=TT.ok (t:=As1) ⟨⟨⟨⟨⟨⟨⟨ok0,ok2⟩,⟨ok3,⟨ok4,ok5⟩⟩⟩,⟨⟨ok9,Auh⟩,⟨Aui,⟨Auj,Auk⟩⟩⟩⟩,⟨⟨⟨Aul,Aum⟩,⟨Aun,⟨Auo,Aup⟩⟩⟩,⟨⟨Auq,Aur⟩,⟨Aus,⟨Aut,Auu⟩⟩⟩⟩⟩,⟨⟨⟨⟨Auv,Auw⟩,⟨Aux,⟨Auy,Auz⟩⟩⟩,⟨⟨Au0,Au1⟩,⟨Au2,⟨Au3,Au4⟩⟩⟩⟩,⟨⟨⟨Au5,Au6⟩,⟨Au7,⟨Au8,Au9⟩⟩⟩,⟨⟨Ava,Avb⟩,⟨Avc,⟨Avd,Ave⟩⟩⟩⟩⟩⟩,⟨⟨⟨⟨⟨Avf,Avg⟩,⟨Ans,⟨Avh,Ant⟩⟩⟩,⟨⟨Avi,Avj⟩,⟨Avk,⟨Avl,Avm⟩⟩⟩⟩,⟨⟨⟨Avn,Avo⟩,⟨Avp,⟨Apz,Ap0⟩⟩⟩,⟨⟨Ap1,Ap2⟩,⟨Ap3,⟨Ap4,Ap5⟩⟩⟩⟩⟩,⟨⟨⟨⟨Ap6,Ap7⟩,⟨Ap8,⟨Ap9,Aqa⟩⟩⟩,⟨⟨Aqb,Aqc⟩,⟨Aqd,⟨Aqe,Aqf⟩⟩⟩⟩,⟨⟨⟨Aqg,Aqh⟩,⟨Aqi,⟨Aqj,Aqk⟩⟩⟩,⟨⟨Aql,⟨Aqm,Aqn⟩⟩,⟨Aqo,⟨Aqp,Aqq⟩⟩⟩⟩⟩⟩⟩,⟨⟨⟨⟨⟨⟨Aeo,Aqr⟩,⟨Aep,⟨Aqs,Aqt⟩⟩⟩,⟨⟨Aqu,Aqv⟩,⟨Aqw,⟨Aqx,Aqy⟩⟩⟩⟩,⟨⟨⟨Aqz,Aq0⟩,⟨Aq1,⟨Aq2,Aq3⟩⟩⟩,⟨⟨Aq4,Aq5⟩,⟨Aq6,⟨Aq7,Aq8⟩⟩⟩⟩⟩,⟨⟨⟨⟨Aq9,Ara⟩,⟨Arb,⟨Arc,Ard⟩⟩⟩,⟨⟨Are,Arf⟩,⟨Arh,⟨Ari,Arj⟩⟩⟩⟩,⟨⟨⟨Ark,Arl⟩,⟨Arm,⟨Arn,Aro⟩⟩⟩,⟨⟨Arp,Arq⟩,⟨Arr,⟨Ars,Art⟩⟩⟩⟩⟩⟩,⟨⟨⟨⟨⟨Aru,Arv⟩,⟨Arw,⟨Arx,Ary⟩⟩⟩,⟨⟨Arz,Ar0⟩,⟨Ar1,⟨Ar2,Ar3⟩⟩⟩⟩,⟨⟨⟨Ar4,Ar5⟩,⟨Ar6,⟨Ar7,Ar8⟩⟩⟩,⟨⟨Ar9,Asa⟩,⟨Asb,⟨Asd,Ase⟩⟩⟩⟩⟩,⟨⟨⟨⟨Asf,Asg⟩,⟨Ash,⟨Asi,Asj⟩⟩⟩,⟨⟨Asl,Asm⟩,⟨Asn,⟨Aso,Asp⟩⟩⟩⟩,⟨⟨⟨Asq,Asr⟩,⟨Ass,⟨Ast,Asu⟩⟩⟩,⟨⟨Asv,⟨Asw,Asx⟩⟩,⟨Asy,⟨Asz,As0⟩⟩⟩⟩⟩⟩⟩⟩
end Go.Vc.Z
namespace Go.Vc.Z
open Go Go.Vc Go.Proofs
theorem Ar{k:IntKind}{n:Int}:inK k n↔Go.Vc.lo k≤n∧n≤Go.Vc.hi k:=Iff.rfl
theorem tK{p:Prop}(h:p:=by(simp only[Ar,Go.Vc.lo,Go.Vc.hi];omega)):p:=h
abbrev slE{α:Type}[Inhabited α](sz:Nat)(enc:α→List AV)(l:List α):AV:=.sl false sz l.length (fun e=>enc (l.getD e default))
structure Coupon where
 flight:Int
 day:Int
 value:Int
 status:Int
 holder:Int
 next:Int
deriving Inhabited
abbrev Coupon.enc(c:Coupon):List AV:=[.int .i64 c.flight,.int .i64 c.day,.int .i64 c.value,.int .i64 c.status,.int .i64 c.holder,.int .u64 c.next]
structure Tax where
 code:Int
 amount:Int
deriving Inhabited
abbrev Tax.enc(c:Tax):List AV:=[.int .i64 c.code,.int .i64 c.amount]
structure Event where
 day:Int
 coupon:Int
 src:Int
 dst:Int
deriving Inhabited
abbrev Event.enc(c:Event):List AV:=[.int .i64 c.day,.int .i64 c.coupon,.int .i64 c.src,.int .i64 c.dst]
structure Ticket where
 number:Int
 locator:List UInt8
 issued:Int
 coupons:List Coupon
 taxes:List Tax
 prev:Int
 origin:Int
 first:Int
 voucher:Int
 posts:Int
 history:List Event
deriving Inhabited
abbrev Ticket.enc(t:Ticket):List AV:=[.int .u64 t.number,.str t.locator,.int .i64 t.issued,slE 6 Coupon.enc t.coupons,slE 2 Tax.enc t.taxes,.int .u64 t.prev,.int .u64 t.origin,.int .u64 t.first,.int .i64 t.voucher,.int .i64 t.posts,slE 4 Event.enc t.history]
structure Posting where
 day:Int
 ticket:Int
 seq:Int
 kind:Int
 cash:Int
 liability:Int
 revenue:Int
 tax:Int
 penalty:Int
 voucher:Int
deriving Inhabited
abbrev Posting.enc(p:Posting):List AV:=[.int .i64 p.day,.int .u64 p.ticket,.int .i64 p.seq,.int .i64 p.kind,.int .i64 p.cash,.int .i64 p.liability,.int .i64 p.revenue,.int .i64 p.tax,.int .i64 p.penalty,.int .i64 p.voucher]
structure Loan where
 ticket:Int
 coupon:Int
 held:Bool
 what:Coupon
deriving Inhabited
abbrev Loan.enc(l:Loan):List AV:=[.int .u64 l.ticket,.int .i64 l.coupon,.bool l.held,.int .i64 l.what.flight,.int .i64 l.what.day,.int .i64 l.what.value,.int .i64 l.what.status,.int .i64 l.what.holder,.int .u64 l.what.next]
structure Answer where
 code:Int
 tickets:List Ticket
 postings:List Posting
 loans:List Loan
deriving Inhabited
abbrev Answer.enc(a:Answer):List AV:=[.int .i64 a.code,slE 11 Ticket.enc a.tickets,slE 10 Posting.enc a.postings,slE 9 Loan.enc a.loans]
structure Told where
 answer:Answer
 code:Int
 came:Int
deriving Inhabited
abbrev Told.enc(t:Told):List AV:=t.answer.enc++[.int .i64 t.code,.int .i64 t.came]
end Go.Vc.Z
namespace Go.Vc
open Go
theorem Aca{a b:Nat}:Nat.ble a b=false↔b<a:=by
 rw[←Bool.not_eq_true,Nat.ble_eq];omega
theorem Aeq{a b:Nat}:Nat.ble a b=true↔a≤b:=by rw[Nat.ble_eq]
theorem Aer{a b:Nat}:Nat.beq a b=true↔a=b:=by rw[Nat.beq_eq]
theorem Acb{a b:Nat}:Nat.beq a b=false↔ ¬a=b:=by rw[←Bool.not_eq_true,Nat.beq_eq]
theorem bytesOf_length(n:Nat)(g:Nat→List AV):(bytesOf n g).length=n:=by simp[bytesOf]
noncomputable def sI:Int→Int:=Classical.choose (⟨id,rfl⟩:∃ f:Int→Int,f=id)
theorem Cs(n:Int):sI n=n:=congrFun (Classical.choose_spec (⟨id,rfl⟩:∃ f:Int→Int,f=id)) n
noncomputable def sB:Bool→Bool:=Classical.choose (⟨id,rfl⟩:∃ f:Bool→Bool,f=id)
theorem A9(n:Bool):sB n=n:=congrFun (Classical.choose_spec (⟨id,rfl⟩:∃ f:Bool→Bool,f=id)) n
noncomputable def sS:List UInt8→List UInt8:=Classical.choose (⟨id,rfl⟩:∃ f:List UInt8→List UInt8,f=id)
theorem Ap(n:List UInt8):sS n=n:=congrFun (Classical.choose_spec (⟨id,rfl⟩:∃ f:List UInt8→List UInt8,f=id)) n
noncomputable def sN:Nat→Nat:=Classical.choose (⟨id,rfl⟩:∃ f:Nat→Nat,f=id)
theorem rK(n:Nat):sN n=n:=congrFun (Classical.choose_spec (⟨id,rfl⟩:∃ f:Nat→Nat,f=id)) n
noncomputable def sL:List (List UInt8)→List (List UInt8):=Classical.choose (⟨id,rfl⟩:∃ f:List (List UInt8)→List (List UInt8),f=id)
theorem Ds(n:List (List UInt8)):sL n=n:=congrFun (Classical.choose_spec (⟨id,rfl⟩:∃ f:List (List UInt8)→List (List UInt8),f=id)) n
def PC.fun(f:List AV→Option (Prop × AV)):PC:={
 T cs Q:=match f cs with|some (p,r)=>p∧Q r|none=>False
 det cs N h:=by
  cases hf:f cs with
  |none=>rw[hf] at h;exact h.elim
  |some pr=>obtain⟨p,r⟩:=pr;rw[hf] at h;exact⟨r,h.2,h.1,rfl⟩ }
theorem Be{F:Nat→Obj→Prop}{P:Program}{TY:TypeId→Option TI}{C:FuncId→Option Ctr}{D:PT}{wr:Tmp→Bool}
  (hm:P.follows .mixedOrders=true) (hTY:TyOk P TY) (hD:Dj F P D) (hC:Ad F P C) {f:FuncId} {fn:Func} (hf:P.funcs[f]? =some fn) {g:List AV→Option (Prop × AV)} (L:List AV→Nat→Option LR)
  (h:∀ cs p r,g cs=some (p,r)→Bl cs→p→fnE TY C D wr (L cs) fn cs [] (fun c H'=>Anq H' c (isA r))):GoodP F P f (PC.fun g):=by
 refine oV (wr:=wr) hm hTY hD hC hf L fun cs Q hfl hT=>?_
 simp only[PC.fun] at hT
 cases hg:g cs with
 |none=>rw[hg] at hT;exact hT.elim
 |some pr=>obtain⟨p,r⟩:=pr;rw[hg] at hT;exact⟨r,hT.2,h cs p r hg hfl hT.1⟩
theorem Ax{F:Nat→Obj→Prop}{P:Program}{TY:TypeId→Option TI}{D:PT}{wr:Tmp→Bool}{α:Type}{C:α→FuncId→Option Ctr}{args:α→List AV}{pre:α→Prop}{res:α→AV}(hm:P.follows .mixedOrders=true)(hTY:TyOk P TY)(hD:Dj F P D)(hC:∀ x,Ad F P (C x)){f:FuncId}{fn:Func}(hf:P.funcs[f]? =some fn)(L:α→Nat→Option LR)
  (hu:∀ x,Er 0 (args x)=true)
  (h:∀ x,Bl (args x)→pre x→fnE TY (C x) D wr (L x) fn (args x) [] (fun c H'=>Anq H' c (isA (res x)))):GoodP F P f (PC.of args pre res):=by
 intro S w cs vs Q hs hv hpre
 obtain⟨x,h1,h2,h3⟩:=hpre
 have hl:=H8 h2
 have hv':VL (fun _=>none) S w (args x) vs:=by
  refine⟨by rw[←hl];exact hv.1,fun i c v hc hv'=>?_⟩
  have hi:i<cs.length:=by
   rcases Nat.lt_or_ge i (args x).length with h'|h'
   ·omega
   ·rw[List.getElem?_eq_none h'] at hc;cases hc
  exact(hv.2 i cs[i] v (List.getElem?_eq_getElem hi) hv').le (σ:=fun i=>i) (n:=0) (fun i b hi=>by omega) (M6 h2 i _ _ (List.getElem?_eq_getElem hi) hc) (Dl (hu x) i c hc)
 have hH:HRel (fun _=>none) S w []:=⟨fun i j bi bj b hi=>by simp at hi,fun i b hi=>by simp at hi,fun i b hi=>by cases hi⟩
 refine(Pu hm hTY hD (hC x) hf hs hH hv' (h x hv'.fact h1)).mono ?_
 rintro e w' ⟨v,c,H',ρ',S',rfl,h1,h2,h3',h4,h5⟩
 obtain⟨c',ids,h6,h7,h8⟩:=Tv h3' h1 h2
 unfold isA at h6
 split at h6
 ·rename_i hu
  refine⟨v,res x,Oo ρ' S' ids,rfl,h3,h7.le (σ:=fun i=>i) (n:=0) (fun i b hi=>by omega) h6 hu,⟨fun _ _ h=>(by cases h),fun b hb=>.inl (h4.st b hb),h4.same,h4.size,h4.shp,fun _ _ h=>(by cases h),fun b hb=>?_,h4.os,h4.tape,h4.output⟩,R2 h3' h5 ids⟩
  rcases hb with hb|⟨i,_,hb⟩
  ·rcases h4.stf b hb with h9|⟨j,h9⟩|h9
   ·exact .inl h9
   ·cases h9
   ·exact .inr (.inr h9)
  ·rcases h4.fresh i b hb with ⟨j,h9⟩|h9
   ·cases h9
   ·exact .inr (.inr h9)
 ·exact h6.elim
def rL(TY:TypeId→Option TI)(C:FuncId→Option Ctr)(D:PT)(wr:Tmp→Bool)(L:List AV→List Blk→Nat→Option LR)(fn:Func):Ctr:=fun cs H Q=>∃ Q0:AV→List Blk→Prop,fnE TY C D wr (L cs H) fn cs H Q0∧∀ c H',Q0 c H'→Q c H'
noncomputable def P9:(TypeId→Option TI)→(FuncId→Option Ctr)→PT→(Tmp→Bool)→(List AV→List Blk→Nat→Option LR)→Func→Ctr:=Classical.choose (⟨rL,rfl⟩:∃ f,f=rL)
theorem zS:P9=rL:=Classical.choose_spec (⟨rL,rfl⟩:∃ f,f=rL)
attribute [irreducible] P9
theorem Xx{TY:TypeId→Option TI}{C:FuncId→Option Ctr}{D:PT}{wr:Tmp→Bool}{L:List AV→List Blk→Nat→Option LR}{fn:Func}{cs:List AV}{H:List Blk}{Q:AV→List Blk→Prop}(Q0:AV→List Blk→Prop)(h1:fnE TY C D wr (L cs H) fn cs H Q0)(h2:∀ c H',Q0 c H'→Q c H'):P9 TY C D wr L fn cs H Q:=by
 rw[zS];exact⟨Q0,h1,h2⟩
def setCell(H:List Blk)(p k:Nat)(c:AV):List Blk:=match H[p]? with|some (.var cs T)=>H.set p (.var (cs.set k c) T)|_=>H
theorem Aes{TY:TypeId→Option TI}{C:FuncId→Option Ctr}{D:PT}{wr:Tmp→Bool}{L:List AV→List Blk→Nat→Option LR}{fn:Func}{cs:List AV}{H:List Blk}{Q:AV→List Blk→Prop}(r:AV)(p k q j:Nat)(v:AV)(B:Bool)(h1:fnE TY C D wr (L cs H) fn cs H (fun c H'=>c=r∧∃ b,b=B∧H'=setCell (setCell H p k (.bool b)) q j v))(h2:Q r (setCell (setCell H p k (.bool (sB B))) q j v)):P9 TY C D wr L fn cs H Q:=by
 refine Xx _ h1 ?_
 rintro c H' ⟨rfl,b,rfl,rfl⟩
 rw[←A9 b];exact h2
theorem Pv{F:Nat→Obj→Prop}{P:Program}{TY:TypeId→Option TI}{C:FuncId→Option Ctr}{D:PT}{wr:Tmp→Bool}(hm:P.follows .mixedOrders=true)(hTY:TyOk P TY)(hD:Dj F P D)(hC:Ad F P C){f:FuncId}{fn:Func}(hf:P.funcs[f]? =some fn)(L:List AV→List Blk→Nat→Option LR):
  Good F P f (P9 TY C D wr L fn):=by
 intro ρ S w H cs vs Q hs hH hv hK
 rw[zS] at hK
 obtain⟨Q0,h1,h2⟩:=hK
 refine(Pu hm hTY hD hC hf hs hH hv h1).mono ?_
 rintro e w' ⟨v,c,H',ρ',S',he,h3,h4⟩
 exact⟨v,c,H',ρ',S',he,h2 _ _ h3,h4⟩
end Go.Vc
namespace Go.Vc
open Go
theorem iA{q:Prop}{a}{b}{c}(h:leA a b c)(k:q):leA a b c∧q:=⟨h,k⟩
theorem iL{q:Prop}{a}{b}{c}(h:leL a b c)(k:q):leL a b c∧q:=⟨h,k⟩
theorem iB{q:Prop}{a}{b}{c}{d}(h:U2 a b c d)(k:q):U2 a b c d∧q:=⟨h,k⟩
theorem iQ{q:Prop}{a}{b}{c}{d}{e}{f}(h:opQ a b c d e f)(k:q):opQ a b c d e f∧q:=⟨h,k⟩
theorem wS:(∀ {a b:Nat},Nat.ble a b=true↔a≤b)∧(∀ {a b:Nat},Nat.ble a b=false↔b<a)∧(∀ {a b:Nat},Nat.beq a b=true↔a=b)∧(∀ {a b:Nat},Nat.beq a b=false↔ ¬a=b)∧
  (∀ n:Int,sI n=n)∧(∀ n:Bool,sB n=n)∧(∀ n:List UInt8,sS n=n)∧(∀ n:Nat,sN n=n)∧(∀ a b:Int,ltI a b=decide (a<b))∧(∀ a b:Int,leI a b=decide (a≤b))∧(∀ a b:Int,eqI a b=(a == b))∧
  (∀ {p:Prop} [Decidable p],(decide p=true)=p)∧(∀ {p:Prop} {x:Decidable p},decide p=false↔ ¬p)∧(∀ {α:Type} [BEq α] [LawfulBEq α] {a b:α},(a == b)=true↔a=b)∧(∀ {α:Type} [BEq α] [LawfulBEq α] {a b:α},(a != b)=true↔a≠b)∧
  (∀ {α:Type} (a b:α),(a≠b)= ¬a=b)∧(∀ {α:Type} [BEq α] [LawfulBEq α] {a b:α},(a == b)=false↔a≠b)∧(∀ {α:Type} [BEq α] [LawfulBEq α] {a b:α},(a != b)=false↔a=b)∧
  (∀ b:Bool,(¬b=true)=(b=false))∧(∀ b:Bool,(¬b=false)=(b=true))∧(∀ {a b:Int},¬a<b↔b≤a)∧(∀ {a b:Int},¬a≤b↔b<a)∧(∀ {α:Type} [LT α] {x y:α},x > y↔y<x)∧(∀ {α:Type} [LE α] {x y:α},x≥y↔y≤x)∧
  (∀ {a b:Nat},¬a<b↔b≤a)∧(∀ {a b:Nat},¬a≤b↔b<a)∧(∀ {p:Prop} [Decidable p],¬ ¬p↔p)∧(∀ {a b:Bool},(!a)=b↔a= !b)∧((!true)=false)∧((!false)=true)∧
  (∀ {α:Type} (a b:α),(bif true then a else b)=a)∧(∀ {α:Type} (a b:α),(bif false then a else b)=b)∧(∀ a b:Bool,((a || b)=true)=(a=true∨b=true))∧(∀ a b:Bool,((a&&b)=true)=(a=true∧b=true))∧
  (∀ {x y:Bool},(x || y)=false↔x=false∧y=false)∧(∀ {x y:Bool},(x&&y)=false↔x=false∨y=false):=
 ⟨Aeq,Aca,Aer,Acb,Cs,A9,Ap,rK,Fj,C3,Bw,decide_eq_true_eq,decide_eq_false_iff_not,beq_iff_eq,bne_iff_ne,ne_eq,beq_eq_false_iff_ne,bne_eq_false_iff_eq,Bool.not_eq_true,Bool.not_eq_false,Int.not_lt,Int.not_le,gt_iff_lt,ge_iff_le,
  Nat.not_lt,Nat.not_le,Decidable.not_not,Bool.not_eq_eq_eq_not,Bool.not_true,Bool.not_false,cond_true,cond_false,Bool.or_eq_true,Bool.and_eq_true,Bool.or_eq_false_iff,Bool.and_eq_false_iff⟩
theorem wQ:(∀ n:Int,sI n=n)∧(∀ n:Bool,sB n=n)∧(∀ n:List UInt8,sS n=n)∧(∀ n:Nat,sN n=n):=⟨Cs,A9,Ap,rK⟩
theorem tL{p:Prop}(h:p:=by((conv=>whnf);(repeat' ((first|with_reducible exact⟨⟩|with_reducible rfl|((with_reducible refine Or.inr ?_);rfl)|((with_reducible refine aI ?_ ?_);focus (exact tA))|with_reducible refine iA ?_ ?_|with_reducible refine iL ?_ ?_|with_reducible refine iB ?_ ?_|fail)<;>(conv=>whnf)));(all_goals (try simp only[wQ]));(all_goals (try first|omega|rfl|exact Or.inl True.intro|exact⟨fun h=>h,fun _ _=>True.intro⟩|exact⟨fun h=>h,fun _ _=>rfl⟩|(refine⟨fun h=>h,fun e he=>?_⟩;rw[Nat.zero_add];done)));(all_goals (try first|exact fun _ _=>⟨True.intro,rfl⟩|exact⟨Nat.le_refl _,fun _ _=>⟨True.intro,rfl⟩⟩|exact⟨by simp,Or.inl trivial⟩|exact⟨by simp,fun e he=>⟨zX rfl he,rfl⟩⟩)))):p:=h
mutual
theorem zT:∀ a:AV,leA (fun i=>i) a a
 | .agg cs=>by simpa[leA] using Aj cs
 | .tup cs=>by simpa[leA] using Aj cs
 | .fn f cs=>by simpa[leA] using Aj cs
 | .iface t v=>by simpa[leA] using zT v
 | .rptr cs j=>by simp[leA]
 | .sl c z l g=>by simp[leA]
 | .nilsl=>by simp[leA]
 | .osl id z o l cap=>by simp[leA]
 | .ptr id j=>by simp[leA]
 | .eptr id sz e j=>by simp[leA]
 | .map id=>by simp[leA]
 | .iter id=>by simp[leA]
 | .int k n=>by simp[leA]
 | .str l=>by simp[leA]
 | .bool b=>by simp[leA]
 | .any=>by simp[leA]
 | .nilp=>by simp[leA]
 | .nilfn=>by simp[leA]
 | .nilmap=>by simp[leA]
 | .nilif=>by simp[leA]
theorem Aj:∀ l:List AV,leL (fun i=>i) l l
 |[]=>by simp[leL]
 |c::cs=>by simpa[leL] using ⟨zT c,Aj cs⟩
end
end Go.Vc
