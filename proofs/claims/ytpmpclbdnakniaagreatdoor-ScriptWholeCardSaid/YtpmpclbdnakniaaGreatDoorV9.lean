/- Printed by PrintTY: what the program's types are. -/
import Derived.Test.YtpmpclbdnakniaaGreatDoorV8
import Derived.Test.YtpmpclbdnakniaaGreatDoorProg
set_option linter.all false
set_option linter.unusedVariables false
set_option linter.unusedSimpArgs false
namespace Go.Vc.Z
open Go Go.Vc Go.Proofs
def ty0:TI:=⟨1,0,false,.other,(some (.any)),true⟩
theorem ok0:A6 Tryz.prog 0=some ty0:=by kernel_rfl
def ty2:TI:=⟨1,8,false,(.int .i64),(some (.int .i64 0)),true⟩
theorem ok2:A6 Tryz.prog 2=some ty2:=by kernel_rfl
def ty3:TI:=⟨1,8,false,(.int .i64),(some (.int .i64 0)),true⟩
theorem ok3:A6 Tryz.prog 3=some ty3:=by kernel_rfl
def ty4:TI:=⟨1,1,false,.bool,(some (.bool false)),true⟩
theorem ok4:A6 Tryz.prog 4=some ty4:=by kernel_rfl
def ty5:TI:=⟨1,1,false,(.int .u8),(some (.int .u8 0)),true⟩
theorem ok5:A6 Tryz.prog 5=some ty5:=by kernel_rfl
def ty9:TI:=⟨1,16,false,.str,(some (.str [])),true⟩
theorem ok9:A6 Tryz.prog 9=some ty9:=by kernel_rfl
def Ax2:TI:=⟨1,16,false,.iface,(some (.nilif)),true⟩
theorem A3k:A6 Tryz.prog 20=some Ax2:=by kernel_rfl
def Cw:TI:=⟨1,4,false,(.int .i32),(some (.int .i32 0)),true⟩
theorem A3l:A6 Tryz.prog 21=some Cw:=by kernel_rfl
def Ax3:TI:=⟨1,8,false,(.int .i64),(some (.int .i64 0)),true⟩
theorem A3m:A6 Tryz.prog 22=some Ax3:=by kernel_rfl
def Ax4:TI:=⟨1,24,false,(.slice 42),(some (.nilsl)),true⟩
theorem A3n:A6 Tryz.prog 23=some Ax4:=by kernel_rfl
def Ax5:TI:=⟨1,24,false,(.slice 95),(some (.nilsl)),true⟩
theorem A3o:A6 Tryz.prog 24=some Ax5:=by kernel_rfl
def Ax6:TI:=⟨1,24,false,(.slice 47),(some (.nilsl)),true⟩
theorem A3p:A6 Tryz.prog 25=some Ax6:=by kernel_rfl
def Ax7:TI:=⟨4,80,true,(.struct [(0,22),(1,23),(2,24),(3,25)]),(some (.agg [.int .i64 0,.nilsl,.nilsl,.nilsl])),true⟩
theorem A3q:A6 Tryz.prog 26=some Ax7:=by kernel_rfl
def Ax8:TI:=⟨4,80,true,(.struct [(0,22),(1,23),(2,24),(3,25)]),(some (.agg [.int .i64 0,.nilsl,.nilsl,.nilsl])),true⟩
theorem A3r:A6 Tryz.prog 27=some Ax8:=by kernel_rfl
def Ax9:TI:=⟨6,96,true,(.struct [(0,27),(4,22),(5,3)]),(some (.agg [.int .i64 0,.nilsl,.nilsl,.nilsl,.int .i64 0,.int .i64 0])),true⟩
theorem A3s:A6 Tryz.prog 28=some Ax9:=by kernel_rfl
def Aya:TI:=⟨6,96,true,(.struct [(0,27),(4,22),(5,3)]),(some (.agg [.int .i64 0,.nilsl,.nilsl,.nilsl,.int .i64 0,.int .i64 0])),true⟩
theorem A3t:A6 Tryz.prog 29=some Aya:=by kernel_rfl
def Ayb:TI:=⟨1,24,false,(.slice 9),(some (.nilsl)),true⟩
theorem A3u:A6 Tryz.prog 32=some Ayb:=by kernel_rfl
def Co:TI:=⟨1,8,false,(.int .u64),(some (.int .u64 0)),true⟩
theorem Al9:A6 Tryz.prog 37=some Co:=by kernel_rfl
def Awi:TI:=⟨1,24,false,(.slice 45),(some (.nilsl)),true⟩
theorem Awj:A6 Tryz.prog 38=some Awi:=by kernel_rfl
def Awk:TI:=⟨1,24,false,(.slice 113),(some (.nilsl)),true⟩
theorem Awl:A6 Tryz.prog 39=some Awk:=by kernel_rfl
def Ayc:TI:=⟨1,24,false,(.slice 105),(some (.nilsl)),true⟩
theorem A3v:A6 Tryz.prog 40=some Ayc:=by kernel_rfl
def Ayd:TI:=⟨11,144,true,(.struct [(0,37),(1,9),(2,3),(3,38),(4,39),(5,37),(6,37),(7,37),(8,2),(9,3),(10,40)]),(some (.agg [.int .u64 0,.str [],.int .i64 0,.nilsl,.nilsl,.int .u64 0,.int .u64 0,.int .u64 0,.int .i64 0,.int .i64 0,.nilsl])),true⟩
theorem A3w:A6 Tryz.prog 41=some Ayd:=by kernel_rfl
def Cx:TI:=⟨11,144,true,(.struct [(0,37),(1,9),(2,3),(3,38),(4,39),(5,37),(6,37),(7,37),(8,2),(9,3),(10,40)]),(some (.agg [.int .u64 0,.str [],.int .i64 0,.nilsl,.nilsl,.int .u64 0,.int .u64 0,.int .u64 0,.int .i64 0,.int .i64 0,.nilsl])),true⟩
theorem A3x:A6 Tryz.prog 42=some Cx:=by kernel_rfl
def Cp:TI:=⟨1,8,false,(.int .i64),(some (.int .i64 0)),true⟩
theorem Ama:A6 Tryz.prog 43=some Cp:=by kernel_rfl
def Aye:TI:=⟨6,48,true,(.struct [(0,3),(1,3),(2,2),(3,43),(4,3),(5,37)]),(some (.agg [.int .i64 0,.int .i64 0,.int .i64 0,.int .i64 0,.int .i64 0,.int .u64 0])),true⟩
theorem A3y:A6 Tryz.prog 44=some Aye:=by kernel_rfl
def Cu:TI:=⟨6,48,true,(.struct [(0,3),(1,3),(2,2),(3,43),(4,3),(5,37)]),(some (.agg [.int .i64 0,.int .i64 0,.int .i64 0,.int .i64 0,.int .i64 0,.int .u64 0])),true⟩
theorem Awm:A6 Tryz.prog 45=some Cu:=by kernel_rfl
def Ayf:TI:=⟨9,72,true,(.struct [(0,37),(1,3),(2,4),(3,45)]),(some (.agg [.int .u64 0,.int .i64 0,.bool false,.int .i64 0,.int .i64 0,.int .i64 0,.int .i64 0,.int .i64 0,.int .u64 0])),true⟩
theorem A3z:A6 Tryz.prog 46=some Ayf:=by kernel_rfl
def Cy:TI:=⟨9,72,true,(.struct [(0,37),(1,3),(2,4),(3,45)]),(some (.agg [.int .u64 0,.int .i64 0,.bool false,.int .i64 0,.int .i64 0,.int .i64 0,.int .i64 0,.int .i64 0,.int .u64 0])),true⟩
theorem A30:A6 Tryz.prog 47=some Cy:=by kernel_rfl
def Ayg:TI:=⟨1,8,false,.func,(some (.nilfn)),true⟩
theorem A31:A6 Tryz.prog 52=some Ayg:=by kernel_rfl
def Amb:TI:=⟨1,8,false,(.int .i64),(some (.int .i64 0)),true⟩
theorem Awn:A6 Tryz.prog 54=some Amb:=by kernel_rfl
def Ayh:TI:=⟨12,144,true,(.struct [(0,9),(1,54),(2,3),(3,37),(4,3),(5,43),(6,9),(7,38),(8,39),(9,2),(10,3),(11,3)]),(some (.agg [.str [],.int .i64 0,.int .i64 0,.int .u64 0,.int .i64 0,.int .i64 0,.str [],.nilsl,.nilsl,.int .i64 0,.int .i64 0,.int .i64 0])),true⟩
theorem A32:A6 Tryz.prog 55=some Ayh:=by kernel_rfl
def Awo:TI:=⟨12,144,true,(.struct [(0,9),(1,54),(2,3),(3,37),(4,3),(5,43),(6,9),(7,38),(8,39),(9,2),(10,3),(11,3)]),(some (.agg [.str [],.int .i64 0,.int .i64 0,.int .u64 0,.int .i64 0,.int .i64 0,.str [],.nilsl,.nilsl,.int .i64 0,.int .i64 0,.int .i64 0])),true⟩
theorem Awp:A6 Tryz.prog 56=some Awo:=by kernel_rfl
def Ayi:TI:=⟨1,8,false,.func,(some (.nilfn)),true⟩
theorem A33:A6 Tryz.prog 58=some Ayi:=by kernel_rfl
def Ayj:TI:=⟨1,0,false,.other,(some (.any)),true⟩
theorem A34:A6 Tryz.prog 59=some Ayj:=by kernel_rfl
def Ayk:TI:=⟨1,0,false,.other,(some (.any)),true⟩
theorem A35:A6 Tryz.prog 62=some Ayk:=by kernel_rfl
def Awq:TI:=⟨1,8,false,(.int .i64),(some (.int .i64 0)),true⟩
theorem Awr:A6 Tryz.prog 64=some Awq:=by kernel_rfl
def Aws:TI:=⟨1,24,false,(.slice 3),(some (.nilsl)),true⟩
theorem Awt:A6 Tryz.prog 65=some Aws:=by kernel_rfl
def Ayl:TI:=⟨17,200,true,(.struct [(0,64),(1,3),(2,56),(14,3),(15,65),(16,4)]),(some (.agg [.int .i64 0,.int .i64 0,.str [],.int .i64 0,.int .i64 0,.int .u64 0,.int .i64 0,.int .i64 0,.str [],.nilsl,.nilsl,.int .i64 0,.int .i64 0,.int .i64 0,.int .i64 0,.nilsl,.bool false])),true⟩
theorem A36:A6 Tryz.prog 66=some Ayl:=by kernel_rfl
def Cv:TI:=⟨17,200,true,(.struct [(0,64),(1,3),(2,56),(14,3),(15,65),(16,4)]),(some (.agg [.int .i64 0,.int .i64 0,.str [],.int .i64 0,.int .i64 0,.int .u64 0,.int .i64 0,.int .i64 0,.str [],.nilsl,.nilsl,.int .i64 0,.int .i64 0,.int .i64 0,.int .i64 0,.nilsl,.bool false])),true⟩
theorem Awu:A6 Tryz.prog 67=some Cv:=by kernel_rfl
def Aym:TI:=⟨1,0,false,.other,(some (.any)),true⟩
theorem A37:A6 Tryz.prog 68=some Aym:=by kernel_rfl
def Ayn:TI:=⟨1,0,false,.other,(some (.any)),true⟩
theorem A38:A6 Tryz.prog 70=some Ayn:=by kernel_rfl
def Ayo:TI:=⟨1,8,false,.func,(some (.nilfn)),true⟩
theorem A39:A6 Tryz.prog 73=some Ayo:=by kernel_rfl
def Awv:TI:=⟨1,24,false,(.slice 161),(some (.nilsl)),true⟩
theorem Aww:A6 Tryz.prog 76=some Awv:=by kernel_rfl
def Ayp:TI:=⟨2,32,true,(.struct [(0,76),(1,3)]),(some (.agg [.nilsl,.int .i64 0])),true⟩
theorem A4a:A6 Tryz.prog 77=some Ayp:=by kernel_rfl
def Ayq:TI:=⟨2,32,true,(.struct [(0,76),(1,3)]),(some (.agg [.nilsl,.int .i64 0])),true⟩
theorem Awx:A6 Tryz.prog 78=some Ayq:=by kernel_rfl
def Ayr:TI:=⟨1,24,false,(.slice 67),(some (.nilsl)),true⟩
theorem Awy:A6 Tryz.prog 79=some Ayr:=by kernel_rfl
def Ays:TI:=⟨1,0,false,.other,(some (.any)),true⟩
theorem A4b:A6 Tryz.prog 81=some Ays:=by kernel_rfl
def Ayt:TI:=⟨1,0,false,.other,(some (.any)),true⟩
theorem A4c:A6 Tryz.prog 84=some Ayt:=by kernel_rfl
def Ayu:TI:=⟨1,0,false,.other,(some (.any)),true⟩
theorem A4d:A6 Tryz.prog 90=some Ayu:=by kernel_rfl
def Ayv:TI:=⟨1,8,false,(.int .i64),(some (.int .i64 0)),true⟩
theorem A4e:A6 Tryz.prog 93=some Ayv:=by kernel_rfl
def Ayw:TI:=⟨10,80,true,(.struct [(0,3),(1,37),(2,3),(3,93),(4,2),(5,2),(6,2),(7,2),(8,2),(9,2)]),(some (.agg [.int .i64 0,.int .u64 0,.int .i64 0,.int .i64 0,.int .i64 0,.int .i64 0,.int .i64 0,.int .i64 0,.int .i64 0,.int .i64 0])),true⟩
theorem A4f:A6 Tryz.prog 94=some Ayw:=by kernel_rfl
def Cz:TI:=⟨10,80,true,(.struct [(0,3),(1,37),(2,3),(3,93),(4,2),(5,2),(6,2),(7,2),(8,2),(9,2)]),(some (.agg [.int .i64 0,.int .u64 0,.int .i64 0,.int .i64 0,.int .i64 0,.int .i64 0,.int .i64 0,.int .i64 0,.int .i64 0,.int .i64 0])),true⟩
theorem A4g:A6 Tryz.prog 95=some Cz:=by kernel_rfl
def Ayx:TI:=⟨1,24,false,(.slice 37),(some (.nilsl)),true⟩
theorem A4h:A6 Tryz.prog 98=some Ayx:=by kernel_rfl
def As1:TI:=⟨1,8,false,.func,(some (.nilfn)),true⟩
theorem Ayy:A6 Tryz.prog 101=some As1:=by kernel_rfl
def As2:TI:=⟨4,32,true,(.struct [(0,3),(1,3),(2,43),(3,43)]),(some (.agg [.int .i64 0,.int .i64 0,.int .i64 0,.int .i64 0])),true⟩
theorem Ayz:A6 Tryz.prog 104=some As2:=by kernel_rfl
def Bm:TI:=⟨4,32,true,(.struct [(0,3),(1,3),(2,43),(3,43)]),(some (.agg [.int .i64 0,.int .i64 0,.int .i64 0,.int .i64 0])),true⟩
theorem Ay0:A6 Tryz.prog 105=some Bm:=by kernel_rfl
def As3:TI:=⟨1,8,false,.func,(some (.nilfn)),true⟩
theorem Ay1:A6 Tryz.prog 107=some As3:=by kernel_rfl
def As4:TI:=⟨2,16,true,(.struct [(0,3),(1,2)]),(some (.agg [.int .i64 0,.int .i64 0])),true⟩
theorem Ay2:A6 Tryz.prog 112=some As4:=by kernel_rfl
def Bj:TI:=⟨2,16,true,(.struct [(0,3),(1,2)]),(some (.agg [.int .i64 0,.int .i64 0])),true⟩
theorem Amc:A6 Tryz.prog 113=some Bj:=by kernel_rfl
def As5:TI:=⟨1,8,false,.func,(some (.nilfn)),true⟩
theorem Ay3:A6 Tryz.prog 114=some As5:=by kernel_rfl
def As6:TI:=⟨1,24,false,(.slice 43),(some (.nilsl)),true⟩
theorem Ay4:A6 Tryz.prog 115=some As6:=by kernel_rfl
def As7:TI:=⟨1,0,false,.other,(some (.any)),true⟩
theorem Ay5:A6 Tryz.prog 116=some As7:=by kernel_rfl
def As8:TI:=⟨1,8,false,(.map 21 125),(some (.nilmap)),true⟩
theorem Ay6:A6 Tryz.prog 120=some As8:=by kernel_rfl
def As9:TI:=⟨1,8,false,.func,(some (.nilfn)),true⟩
theorem Ay7:A6 Tryz.prog 123=some As9:=by kernel_rfl
def Ata:TI:=⟨2,16,true,(.struct [(0,58),(1,123)]),(some (.agg [.nilfn,.nilfn])),true⟩
theorem Ay8:A6 Tryz.prog 124=some Ata:=by kernel_rfl
def Atb:TI:=⟨2,16,true,(.struct [(0,58),(1,123)]),(some (.agg [.nilfn,.nilfn])),true⟩
theorem Ay9:A6 Tryz.prog 125=some Atb:=by kernel_rfl
def Atc:TI:=⟨1,8,false,(.ptr 56),(some (.nilp)),true⟩
theorem Aza:A6 Tryz.prog 130=some Atc:=by kernel_rfl
def Atd:TI:=⟨1,0,false,.other,(some (.any)),true⟩
theorem Azb:A6 Tryz.prog 135=some Atd:=by kernel_rfl
def Ate:TI:=⟨1,0,false,.other,(some (.any)),true⟩
theorem Azc:A6 Tryz.prog 141=some Ate:=by kernel_rfl
def Atf:TI:=⟨1,0,false,.other,(some (.any)),true⟩
theorem Azd:A6 Tryz.prog 143=some Atf:=by kernel_rfl
def Atg:TI:=⟨1,16,true,(.struct [(0,9)]),(some (.agg [.str []])),true⟩
theorem Aze:A6 Tryz.prog 147=some Atg:=by kernel_rfl
def Ath:TI:=⟨1,8,false,(.map 4 147),(some (.nilmap)),true⟩
theorem Azf:A6 Tryz.prog 148=some Ath:=by kernel_rfl
def Ati:TI:=⟨1,8,false,(.ptr 152),(some (.nilp)),true⟩
theorem Azg:A6 Tryz.prog 149=some Ati:=by kernel_rfl
def Bn:TI:=⟨1,24,false,(.slice 5),(some (.nilsl)),true⟩
theorem Azh:A6 Tryz.prog 150=some Bn:=by kernel_rfl
def Atj:TI:=⟨2,32,true,(.struct [(0,149),(1,150)]),(some (.agg [.nilp,.nilsl])),true⟩
theorem Azi:A6 Tryz.prog 151=some Atj:=by kernel_rfl
def Atk:TI:=⟨2,32,true,(.struct [(0,149),(1,150)]),(some (.agg [.nilp,.nilsl])),true⟩
theorem Azj:A6 Tryz.prog 152=some Atk:=by kernel_rfl
def Atl:TI:=⟨1,16,false,.iface,(some (.nilif)),false⟩
theorem Azk:A6 Tryz.prog 153=some Atl:=by kernel_rfl
def Atm:TI:=⟨1,16,false,.iface,(some (.nilif)),false⟩
theorem Azl:A6 Tryz.prog 154=some Atm:=by kernel_rfl
def Atn:TI:=⟨1,0,false,.other,(some (.any)),true⟩
theorem Azm:A6 Tryz.prog 155=some Atn:=by kernel_rfl
def Ato:TI:=⟨1,8,false,.func,(some (.nilfn)),true⟩
theorem Azn:A6 Tryz.prog 157=some Ato:=by kernel_rfl
def Atp:TI:=⟨3,24,true,(.struct [(0,3),(1,3),(2,3)]),(some (.agg [.int .i64 0,.int .i64 0,.int .i64 0])),true⟩
theorem Azo:A6 Tryz.prog 158=some Atp:=by kernel_rfl
def Abe:TI:=⟨3,24,true,(.struct [(0,3),(1,3),(2,3)]),(some (.agg [.int .i64 0,.int .i64 0,.int .i64 0])),true⟩
theorem Amd:A6 Tryz.prog 159=some Abe:=by kernel_rfl
def Atq:TI:=⟨6,48,true,(.struct [(0,159),(3,3),(4,3),(5,3)]),(some (.agg [.int .i64 0,.int .i64 0,.int .i64 0,.int .i64 0,.int .i64 0,.int .i64 0])),true⟩
theorem Azp:A6 Tryz.prog 160=some Atq:=by kernel_rfl
def Bi:TI:=⟨6,48,true,(.struct [(0,159),(3,3),(4,3),(5,3)]),(some (.agg [.int .i64 0,.int .i64 0,.int .i64 0,.int .i64 0,.int .i64 0,.int .i64 0])),true⟩
theorem Ame:A6 Tryz.prog 161=some Bi:=by kernel_rfl
def Atr:TI:=⟨1,0,false,.other,(some (.any)),true⟩
theorem Azq:A6 Tryz.prog 163=some Atr:=by kernel_rfl
def Ats:TI:=⟨1,0,false,.other,(some (.any)),true⟩
theorem Azr:A6 Tryz.prog 167=some Ats:=by kernel_rfl
def Att:TI:=⟨6,48,true,(.arr 6 2),(some (.agg [.int .i64 0,.int .i64 0,.int .i64 0,.int .i64 0,.int .i64 0,.int .i64 0])),true⟩
theorem Azs:A6 Tryz.prog 169=some Att:=by kernel_rfl
def Atu:TI:=⟨6,48,true,(.arr 6 2),(some (.agg [.int .i64 0,.int .i64 0,.int .i64 0,.int .i64 0,.int .i64 0,.int .i64 0])),true⟩
theorem Azt:A6 Tryz.prog 170=some Atu:=by kernel_rfl
def Atv:TI:=⟨1,24,false,(.slice 2),(some (.nilsl)),true⟩
theorem Azu:A6 Tryz.prog 173=some Atv:=by kernel_rfl
def Atw:TI:=⟨1,8,false,.func,(some (.nilfn)),true⟩
theorem Azv:A6 Tryz.prog 178=some Atw:=by kernel_rfl
def Atx:TI:=⟨1,24,false,(.slice 21),(some (.nilsl)),true⟩
theorem Azw:A6 Tryz.prog 180=some Atx:=by kernel_rfl
def Aty:TI:=⟨1,8,false,.func,(some (.nilfn)),true⟩
theorem Azx:A6 Tryz.prog 182=some Aty:=by kernel_rfl
def Atz:TI:=⟨1,8,false,(.ptr 193),(some (.nilp)),true⟩
theorem Azy:A6 Tryz.prog 187=some Atz:=by kernel_rfl
def At0:TI:=⟨1,8,false,(.ptr 327),(some (.nilp)),true⟩
theorem Azz:A6 Tryz.prog 188=some At0:=by kernel_rfl
def At1:TI:=⟨1,8,false,(.ptr 322),(some (.nilp)),true⟩
theorem Az0:A6 Tryz.prog 189=some At1:=by kernel_rfl
def At2:TI:=⟨3,24,true,(.struct [(0,188),(1,189),(2,4)]),(some (.agg [.nilp,.nilp,.bool false])),true⟩
theorem Az1:A6 Tryz.prog 190=some At2:=by kernel_rfl
def At3:TI:=⟨3,24,true,(.struct [(0,188),(1,189),(2,4)]),(some (.agg [.nilp,.nilp,.bool false])),true⟩
theorem Az2:A6 Tryz.prog 191=some At3:=by kernel_rfl
def At4:TI:=⟨4,32,true,(.struct [(0,191),(3,130)]),(some (.agg [.nilp,.nilp,.bool false,.nilp])),true⟩
theorem Az3:A6 Tryz.prog 192=some At4:=by kernel_rfl
def At5:TI:=⟨4,32,true,(.struct [(0,191),(3,130)]),(some (.agg [.nilp,.nilp,.bool false,.nilp])),true⟩
theorem Az4:A6 Tryz.prog 193=some At5:=by kernel_rfl
def At6:TI:=⟨1,8,false,(.ptr 9),(some (.nilp)),true⟩
theorem Az5:A6 Tryz.prog 195=some At6:=by kernel_rfl
def At7:TI:=⟨1,8,false,.func,(some (.nilfn)),true⟩
theorem Az6:A6 Tryz.prog 196=some At7:=by kernel_rfl
def Bo:TI:=⟨1,8,false,(.ptr 3),(some (.nilp)),true⟩
theorem Az7:A6 Tryz.prog 198=some Bo:=by kernel_rfl
def At8:TI:=⟨1,8,false,.func,(some (.nilfn)),true⟩
theorem Az8:A6 Tryz.prog 199=some At8:=by kernel_rfl
def At9:TI:=⟨1,0,false,.other,(some (.any)),true⟩
theorem Az9:A6 Tryz.prog 200=some At9:=by kernel_rfl
def Aua:TI:=⟨1,0,false,.other,(some (.any)),true⟩
theorem A0a:A6 Tryz.prog 202=some Aua:=by kernel_rfl
def Aub:TI:=⟨1,0,false,.other,(some (.any)),true⟩
theorem A0b:A6 Tryz.prog 204=some Aub:=by kernel_rfl
def Auc:TI:=⟨1,24,false,(.slice 242),(some (.nilsl)),true⟩
theorem A0c:A6 Tryz.prog 206=some Auc:=by kernel_rfl
def Aud:TI:=⟨1,0,false,.other,(some (.any)),true⟩
theorem A0d:A6 Tryz.prog 207=some Aud:=by kernel_rfl
def Aue:TI:=⟨1,0,false,.other,(some (.any)),true⟩
theorem A0e:A6 Tryz.prog 214=some Aue:=by kernel_rfl
def Auf:TI:=⟨1,8,false,(.map 3 220),(some (.nilmap)),true⟩
theorem A0f:A6 Tryz.prog 218=some Auf:=by kernel_rfl
def Aug:TI:=⟨1,1,true,(.struct [(0,4)]),(some (.agg [.bool false])),true⟩
theorem A0g:A6 Tryz.prog 220=some Aug:=by kernel_rfl
def Auh:TI:=⟨1,8,false,(.ptr 5),(some (.nilp)),true⟩
theorem A0h:A6 Tryz.prog 221=some Auh:=by kernel_rfl
def Aui:TI:=⟨1,24,false,(.slice 198),(some (.nilsl)),true⟩
theorem A0i:A6 Tryz.prog 222=some Aui:=by kernel_rfl
def Auj:TI:=⟨1,8,false,(.ptr 191),(some (.nilp)),true⟩
theorem A0j:A6 Tryz.prog 225=some Auj:=by kernel_rfl
def Auk:TI:=⟨1,8,false,(.ptr 47),(some (.nilp)),true⟩
theorem A0k:A6 Tryz.prog 227=some Auk:=by kernel_rfl
def Aul:TI:=⟨1,8,false,.func,(some (.nilfn)),true⟩
theorem A0l:A6 Tryz.prog 232=some Aul:=by kernel_rfl
def Aum:TI:=⟨24,24,true,(.arr 24 5),(some (.agg [.int .u8 0,.int .u8 0,.int .u8 0,.int .u8 0,.int .u8 0,.int .u8 0,.int .u8 0,.int .u8 0,.int .u8 0,.int .u8 0,.int .u8 0,.int .u8 0,.int .u8 0,.int .u8 0,.int .u8 0,.int .u8 0,.int .u8 0,.int .u8 0,.int .u8 0,.int .u8 0,.int .u8 0,.int .u8 0,.int .u8 0,.int .u8 0])),true⟩
theorem A0m:A6 Tryz.prog 233=some Aum:=by kernel_rfl
def Aun:TI:=⟨1,0,false,.other,(some (.any)),true⟩
theorem A0n:A6 Tryz.prog 235=some Aun:=by kernel_rfl
def Auo:TI:=⟨1,0,false,.other,(some (.any)),true⟩
theorem A0o:A6 Tryz.prog 238=some Auo:=by kernel_rfl
def Bp:TI:=⟨1,8,false,.func,(some (.nilfn)),true⟩
theorem A0p:A6 Tryz.prog 242=some Bp:=by kernel_rfl
def Aup:TI:=⟨10,96,true,(.struct [(0,54),(1,9),(2,9),(3,3),(4,3),(5,37),(6,43),(7,2),(8,3),(9,3)]),(some (.agg [.int .i64 0,.str [],.str [],.int .i64 0,.int .i64 0,.int .u64 0,.int .i64 0,.int .i64 0,.int .i64 0,.int .i64 0])),true⟩
theorem A0q:A6 Tryz.prog 243=some Aup:=by kernel_rfl
def Ahb:TI:=⟨10,96,true,(.struct [(0,54),(1,9),(2,9),(3,3),(4,3),(5,37),(6,43),(7,2),(8,3),(9,3)]),(some (.agg [.int .i64 0,.str [],.str [],.int .i64 0,.int .i64 0,.int .u64 0,.int .i64 0,.int .i64 0,.int .i64 0,.int .i64 0])),true⟩
theorem A0r:A6 Tryz.prog 244=some Ahb:=by kernel_rfl
def Auq:TI:=⟨1,8,false,.func,(some (.nilfn)),true⟩
theorem A0s:A6 Tryz.prog 245=some Auq:=by kernel_rfl
def Aur:TI:=⟨1,0,false,.other,(some (.any)),true⟩
theorem A0t:A6 Tryz.prog 249=some Aur:=by kernel_rfl
def Aus:TI:=⟨1,0,false,.other,(some (.any)),true⟩
theorem A0u:A6 Tryz.prog 251=some Aus:=by kernel_rfl
def Aut:TI:=⟨1,0,false,.other,(some (.any)),true⟩
theorem A0v:A6 Tryz.prog 253=some Aut:=by kernel_rfl
def Auu:TI:=⟨1,0,false,.other,(some (.any)),true⟩
theorem A0w:A6 Tryz.prog 255=some Auu:=by kernel_rfl
def Auv:TI:=⟨1,8,false,.other,(some (.nilp)),true⟩
theorem A0x:A6 Tryz.prog 264=some Auv:=by kernel_rfl
def Auw:TI:=⟨1,8,false,(.ptr 37),(some (.nilp)),true⟩
theorem A0y:A6 Tryz.prog 268=some Auw:=by kernel_rfl
def Aux:TI:=⟨1,8,false,(.ptr 45),(some (.nilp)),true⟩
theorem A0z:A6 Tryz.prog 272=some Aux:=by kernel_rfl
def Auy:TI:=⟨1,8,false,(.ptr 43),(some (.nilp)),true⟩
theorem A00:A6 Tryz.prog 274=some Auy:=by kernel_rfl
def Bq:TI:=⟨1,24,false,(.slice 4),(some (.nilsl)),true⟩
theorem A01:A6 Tryz.prog 275=some Bq:=by kernel_rfl
def Auz:TI:=⟨20,160,true,(.arr 20 37),(some (.agg [.int .u64 0,.int .u64 0,.int .u64 0,.int .u64 0,.int .u64 0,.int .u64 0,.int .u64 0,.int .u64 0,.int .u64 0,.int .u64 0,.int .u64 0,.int .u64 0,.int .u64 0,.int .u64 0,.int .u64 0,.int .u64 0,.int .u64 0,.int .u64 0,.int .u64 0,.int .u64 0])),true⟩
theorem A02:A6 Tryz.prog 281=some Auz:=by kernel_rfl
def Au0:TI:=⟨1,4,false,(.int .u32),(some (.int .u32 0)),true⟩
theorem A03:A6 Tryz.prog 282=some Au0:=by kernel_rfl
def Au1:TI:=⟨65,65,true,(.arr 65 5),(some (.agg [.int .u8 0,.int .u8 0,.int .u8 0,.int .u8 0,.int .u8 0,.int .u8 0,.int .u8 0,.int .u8 0,.int .u8 0,.int .u8 0,.int .u8 0,.int .u8 0,.int .u8 0,.int .u8 0,.int .u8 0,.int .u8 0,.int .u8 0,.int .u8 0,.int .u8 0,.int .u8 0,.int .u8 0,.int .u8 0,.int .u8 0,.int .u8 0,.int .u8 0,.int .u8 0,.int .u8 0,.int .u8 0,.int .u8 0,.int .u8 0,.int .u8 0,.int .u8 0,.int .u8 0,.int .u8 0,.int .u8 0,.int .u8 0,.int .u8 0,.int .u8 0,.int .u8 0,.int .u8 0,.int .u8 0,.int .u8 0,.int .u8 0,.int .u8 0,.int .u8 0,.int .u8 0,.int .u8 0,.int .u8 0,.int .u8 0,.int .u8 0,.int .u8 0,.int .u8 0,.int .u8 0,.int .u8 0,.int .u8 0,.int .u8 0,.int .u8 0,.int .u8 0,.int .u8 0,.int .u8 0,.int .u8 0,.int .u8 0,.int .u8 0,.int .u8 0,.int .u8 0])),true⟩
theorem A04:A6 Tryz.prog 283=some Au1:=by kernel_rfl
def Au2:TI:=⟨1,8,false,(.int .u64),(some (.int .u64 0)),true⟩
theorem A05:A6 Tryz.prog 284=some Au2:=by kernel_rfl
def Au3:TI:=⟨1,8,false,(.ptr 113),(some (.nilp)),true⟩
theorem A06:A6 Tryz.prog 290=some Au3:=by kernel_rfl
def Au4:TI:=⟨1,8,false,(.ptr 2),(some (.nilp)),true⟩
theorem A07:A6 Tryz.prog 292=some Au4:=by kernel_rfl
def Au5:TI:=⟨1,0,false,.other,(some (.any)),true⟩
theorem A08:A6 Tryz.prog 293=some Au5:=by kernel_rfl
def Au6:TI:=⟨1,8,false,(.int .i64),(some (.int .i64 0)),true⟩
theorem A09:A6 Tryz.prog 296=some Au6:=by kernel_rfl
def Au7:TI:=⟨1,0,false,.other,(some (.any)),true⟩
theorem A1a:A6 Tryz.prog 297=some Au7:=by kernel_rfl
def Au8:TI:=⟨1,8,false,(.ptr 316),(some (.nilp)),true⟩
theorem A1b:A6 Tryz.prog 299=some Au8:=by kernel_rfl
def Au9:TI:=⟨1,24,false,(.slice 275),(some (.nilsl)),true⟩
theorem A1c:A6 Tryz.prog 306=some Au9:=by kernel_rfl
def Ava:TI:=⟨1,0,false,.other,(some (.any)),true⟩
theorem A1d:A6 Tryz.prog 310=some Ava:=by kernel_rfl
def Avb:TI:=⟨1,0,false,.other,(some (.any)),true⟩
theorem A1e:A6 Tryz.prog 312=some Avb:=by kernel_rfl
def Avc:TI:=⟨3,48,true,(.struct [(0,9),(1,9),(2,154)]),(some (.agg [.str [],.str [],.nilif])),false⟩
theorem A1f:A6 Tryz.prog 315=some Avc:=by kernel_rfl
def Avd:TI:=⟨3,48,true,(.struct [(0,9),(1,9),(2,154)]),(some (.agg [.str [],.str [],.nilif])),false⟩
theorem A1g:A6 Tryz.prog 316=some Avd:=by kernel_rfl
def Ave:TI:=⟨8,8,true,(.arr 8 5),(some (.agg [.int .u8 0,.int .u8 0,.int .u8 0,.int .u8 0,.int .u8 0,.int .u8 0,.int .u8 0,.int .u8 0])),true⟩
theorem A1h:A6 Tryz.prog 318=some Ave:=by kernel_rfl
def Avf:TI:=⟨3,40,true,(.struct [(0,150),(1,3),(2,4)]),(some (.agg [.nilsl,.int .i64 0,.bool false])),true⟩
theorem A1i:A6 Tryz.prog 321=some Avf:=by kernel_rfl
def Avg:TI:=⟨3,40,true,(.struct [(0,150),(1,3),(2,4)]),(some (.agg [.nilsl,.int .i64 0,.bool false])),true⟩
theorem A1j:A6 Tryz.prog 322=some Avg:=by kernel_rfl
def Avh:TI:=⟨32,32,true,(.arr 32 5),(some (.agg [.int .u8 0,.int .u8 0,.int .u8 0,.int .u8 0,.int .u8 0,.int .u8 0,.int .u8 0,.int .u8 0,.int .u8 0,.int .u8 0,.int .u8 0,.int .u8 0,.int .u8 0,.int .u8 0,.int .u8 0,.int .u8 0,.int .u8 0,.int .u8 0,.int .u8 0,.int .u8 0,.int .u8 0,.int .u8 0,.int .u8 0,.int .u8 0,.int .u8 0,.int .u8 0,.int .u8 0,.int .u8 0,.int .u8 0,.int .u8 0,.int .u8 0,.int .u8 0])),true⟩
theorem A1k:A6 Tryz.prog 323=some Avh:=by kernel_rfl
def Avi:TI:=⟨64,64,true,(.arr 64 5),(some (.agg [.int .u8 0,.int .u8 0,.int .u8 0,.int .u8 0,.int .u8 0,.int .u8 0,.int .u8 0,.int .u8 0,.int .u8 0,.int .u8 0,.int .u8 0,.int .u8 0,.int .u8 0,.int .u8 0,.int .u8 0,.int .u8 0,.int .u8 0,.int .u8 0,.int .u8 0,.int .u8 0,.int .u8 0,.int .u8 0,.int .u8 0,.int .u8 0,.int .u8 0,.int .u8 0,.int .u8 0,.int .u8 0,.int .u8 0,.int .u8 0,.int .u8 0,.int .u8 0,.int .u8 0,.int .u8 0,.int .u8 0,.int .u8 0,.int .u8 0,.int .u8 0,.int .u8 0,.int .u8 0,.int .u8 0,.int .u8 0,.int .u8 0,.int .u8 0,.int .u8 0,.int .u8 0,.int .u8 0,.int .u8 0,.int .u8 0,.int .u8 0,.int .u8 0,.int .u8 0,.int .u8 0,.int .u8 0,.int .u8 0,.int .u8 0,.int .u8 0,.int .u8 0,.int .u8 0,.int .u8 0,.int .u8 0,.int .u8 0,.int .u8 0,.int .u8 0])),true⟩
theorem A1l:A6 Tryz.prog 324=some Avi:=by kernel_rfl
def Avj:TI:=⟨1,24,false,(.slice 150),(some (.nilsl)),true⟩
theorem A1m:A6 Tryz.prog 325=some Avj:=by kernel_rfl
def Avk:TI:=⟨3,40,true,(.struct [(0,325),(1,3),(2,4)]),(some (.agg [.nilsl,.int .i64 0,.bool false])),true⟩
theorem A1n:A6 Tryz.prog 326=some Avk:=by kernel_rfl
def Avl:TI:=⟨3,40,true,(.struct [(0,325),(1,3),(2,4)]),(some (.agg [.nilsl,.int .i64 0,.bool false])),true⟩
theorem A1o:A6 Tryz.prog 327=some Avl:=by kernel_rfl
def Avm:TI:=⟨256,256,true,(.arr 256 5),(some (.agg [.int .u8 0,.int .u8 0,.int .u8 0,.int .u8 0,.int .u8 0,.int .u8 0,.int .u8 0,.int .u8 0,.int .u8 0,.int .u8 0,.int .u8 0,.int .u8 0,.int .u8 0,.int .u8 0,.int .u8 0,.int .u8 0,.int .u8 0,.int .u8 0,.int .u8 0,.int .u8 0,.int .u8 0,.int .u8 0,.int .u8 0,.int .u8 0,.int .u8 0,.int .u8 0,.int .u8 0,.int .u8 0,.int .u8 0,.int .u8 0,.int .u8 0,.int .u8 0,.int .u8 0,.int .u8 0,.int .u8 0,.int .u8 0,.int .u8 0,.int .u8 0,.int .u8 0,.int .u8 0,.int .u8 0,.int .u8 0,.int .u8 0,.int .u8 0,.int .u8 0,.int .u8 0,.int .u8 0,.int .u8 0,.int .u8 0,.int .u8 0,.int .u8 0,.int .u8 0,.int .u8 0,.int .u8 0,.int .u8 0,.int .u8 0,.int .u8 0,.int .u8 0,.int .u8 0,.int .u8 0,.int .u8 0,.int .u8 0,.int .u8 0,.int .u8 0,.int .u8 0,.int .u8 0,.int .u8 0,.int .u8 0,.int .u8 0,.int .u8 0,.int .u8 0,.int .u8 0,.int .u8 0,.int .u8 0,.int .u8 0,.int .u8 0,.int .u8 0,.int .u8 0,.int .u8 0,.int .u8 0,.int .u8 0,.int .u8 0,.int .u8 0,.int .u8 0,.int .u8 0,.int .u8 0,.int .u8 0,.int .u8 0,.int .u8 0,.int .u8 0,.int .u8 0,.int .u8 0,.int .u8 0,.int .u8 0,.int .u8 0,.int .u8 0,.int .u8 0,.int .u8 0,.int .u8 0,.int .u8 0,.int .u8 0,.int .u8 0,.int .u8 0,.int .u8 0,.int .u8 0,.int .u8 0,.int .u8 0,.int .u8 0,.int .u8 0,.int .u8 0,.int .u8 0,.int .u8 0,.int .u8 0,.int .u8 0,.int .u8 0,.int .u8 0,.int .u8 0,.int .u8 0,.int .u8 0,.int .u8 0,.int .u8 0,.int .u8 0,.int .u8 0,.int .u8 0,.int .u8 0,.int .u8 0,.int .u8 0,.int .u8 0,.int .u8 0,.int .u8 0,.int .u8 0,.int .u8 0,.int .u8 0,.int .u8 0,.int .u8 0,.int .u8 0,.int .u8 0,.int .u8 0,.int .u8 0,.int .u8 0,.int .u8 0,.int .u8 0,.int .u8 0,.int .u8 0,.int .u8 0,.int .u8 0,.int .u8 0,.int .u8 0,.int .u8 0,.int .u8 0,.int .u8 0,.int .u8 0,.int .u8 0,.int .u8 0,.int .u8 0,.int .u8 0,.int .u8 0,.int .u8 0,.int .u8 0,.int .u8 0,.int .u8 0,.int .u8 0,.int .u8 0,.int .u8 0,.int .u8 0,.int .u8 0,.int .u8 0,.int .u8 0,.int .u8 0,.int .u8 0,.int .u8 0,.int .u8 0,.int .u8 0,.int .u8 0,.int .u8 0,.int .u8 0,.int .u8 0,.int .u8 0,.int .u8 0,.int .u8 0,.int .u8 0,.int .u8 0,.int .u8 0,.int .u8 0,.int .u8 0,.int .u8 0,.int .u8 0,.int .u8 0,.int .u8 0,.int .u8 0,.int .u8 0,.int .u8 0,.int .u8 0,.int .u8 0,.int .u8 0,.int .u8 0,.int .u8 0,.int .u8 0,.int .u8 0,.int .u8 0,.int .u8 0,.int .u8 0,.int .u8 0,.int .u8 0,.int .u8 0,.int .u8 0,.int .u8 0,.int .u8 0,.int .u8 0,.int .u8 0,.int .u8 0,.int .u8 0,.int .u8 0,.int .u8 0,.int .u8 0,.int .u8 0,.int .u8 0,.int .u8 0,.int .u8 0,.int .u8 0,.int .u8 0,.int .u8 0,.int .u8 0,.int .u8 0,.int .u8 0,.int .u8 0,.int .u8 0,.int .u8 0,.int .u8 0,.int .u8 0,.int .u8 0,.int .u8 0,.int .u8 0,.int .u8 0,.int .u8 0,.int .u8 0,.int .u8 0,.int .u8 0,.int .u8 0,.int .u8 0,.int .u8 0,.int .u8 0,.int .u8 0,.int .u8 0,.int .u8 0,.int .u8 0,.int .u8 0,.int .u8 0,.int .u8 0,.int .u8 0,.int .u8 0,.int .u8 0,.int .u8 0,.int .u8 0,.int .u8 0,.int .u8 0])),true⟩
theorem A1p:A6 Tryz.prog 330=some Avm:=by kernel_rfl
def Avn:TI:=⟨2,2,true,(.struct [(0,5),(1,5)]),(some (.agg [.int .u8 0,.int .u8 0])),true⟩
theorem A1q:A6 Tryz.prog 331=some Avn:=by kernel_rfl
def Avo:TI:=⟨2,2,true,(.struct [(0,5),(1,5)]),(some (.agg [.int .u8 0,.int .u8 0])),true⟩
theorem A1r:A6 Tryz.prog 332=some Avo:=by kernel_rfl
def Avp:TI:=⟨32,32,true,(.arr 16 332),(some (.agg [.int .u8 0,.int .u8 0,.int .u8 0,.int .u8 0,.int .u8 0,.int .u8 0,.int .u8 0,.int .u8 0,.int .u8 0,.int .u8 0,.int .u8 0,.int .u8 0,.int .u8 0,.int .u8 0,.int .u8 0,.int .u8 0,.int .u8 0,.int .u8 0,.int .u8 0,.int .u8 0,.int .u8 0,.int .u8 0,.int .u8 0,.int .u8 0,.int .u8 0,.int .u8 0,.int .u8 0,.int .u8 0,.int .u8 0,.int .u8 0,.int .u8 0,.int .u8 0])),true⟩
theorem A1s:A6 Tryz.prog 333=some Avp:=by kernel_rfl
def Avq:TI:=⟨1,8,false,(.ptr 337),(some (.nilp)),true⟩
theorem A1t:A6 Tryz.prog 335=some Avq:=by kernel_rfl
def Avr:TI:=⟨1,16,true,(.struct [(0,9)]),(some (.agg [.str []])),true⟩
theorem A1u:A6 Tryz.prog 336=some Avr:=by kernel_rfl
def Avs:TI:=⟨1,16,true,(.struct [(0,9)]),(some (.agg [.str []])),true⟩
theorem A1v:A6 Tryz.prog 337=some Avs:=by kernel_rfl
def A1w:TT:=(.node 159 (.node 70 (.node 40 (.node 24 (.node 9 (.node 3 (.node 2 (.leaf 0 (some ty0)) (.leaf 2 (some ty2))) (.node 4 (.leaf 3 (some ty3)) (.node 5 (.leaf 4 (some ty4)) (.leaf 5 (some ty5))))) (.node 21 (.node 20 (.leaf 9 (some ty9)) (.leaf 20 (some Ax2))) (.node 22 (.leaf 21 (some Cw)) (.node 23 (.leaf 22 (some Ax3)) (.leaf 23 (some Ax4)))))) (.node 29 (.node 26 (.node 25 (.leaf 24 (some Ax5)) (.leaf 25 (some Ax6))) (.node 27 (.leaf 26 (some Ax7)) (.node 28 (.leaf 27 (some Ax8)) (.leaf 28 (some Ax9))))) (.node 37 (.node 32 (.leaf 29 (some Aya)) (.leaf 32 (some Ayb))) (.node 38 (.leaf 37 (some Co)) (.node 39 (.leaf 38 (some Awi)) (.leaf 39 (some Awk))))))) (.node 55 (.node 45 (.node 42 (.node 41 (.leaf 40 (some Ayc)) (.leaf 41 (some Ayd))) (.node 43 (.leaf 42 (some Cx)) (.node 44 (.leaf 43 (some Cp)) (.leaf 44 (some Aye))))) (.node 47 (.node 46 (.leaf 45 (some Cu)) (.leaf 46 (some Ayf))) (.node 52 (.leaf 47 (some Cy)) (.node 54 (.leaf 52 (some Ayg)) (.leaf 54 (some Amb)))))) (.node 64 (.node 58 (.node 56 (.leaf 55 (some Ayh)) (.leaf 56 (some Awo))) (.node 59 (.leaf 58 (some Ayi)) (.node 62 (.leaf 59 (some Ayj)) (.leaf 62 (some Ayk))))) (.node 66 (.node 65 (.leaf 64 (some Awq)) (.leaf 65 (some Aws))) (.node 67 (.leaf 66 (some Ayl)) (.node 68 (.leaf 67 (some Cv)) (.leaf 68 (some Aym)))))))) (.node 115 (.node 94 (.node 79 (.node 76 (.node 73 (.leaf 70 (some Ayn)) (.leaf 73 (some Ayo))) (.node 77 (.leaf 76 (some Awv)) (.node 78 (.leaf 77 (some Ayp)) (.leaf 78 (some Ayq))))) (.node 84 (.node 81 (.leaf 79 (some Ayr)) (.leaf 81 (some Ays))) (.node 90 (.leaf 84 (some Ayt)) (.node 93 (.leaf 90 (some Ayu)) (.leaf 93 (some Ayv)))))) (.node 105 (.node 98 (.node 95 (.leaf 94 (some Ayw)) (.leaf 95 (some Cz))) (.node 101 (.leaf 98 (some Ayx)) (.node 104 (.leaf 101 (some As1)) (.leaf 104 (some As2))))) (.node 112 (.node 107 (.leaf 105 (some Bm)) (.leaf 107 (some As3))) (.node 113 (.leaf 112 (some As4)) (.node 114 (.leaf 113 (some Bj)) (.leaf 114 (some As5))))))) (.node 147 (.node 125 (.node 120 (.node 116 (.leaf 115 (some As6)) (.leaf 116 (some As7))) (.node 123 (.leaf 120 (some As8)) (.node 124 (.leaf 123 (some As9)) (.leaf 124 (some Ata))))) (.node 135 (.node 130 (.leaf 125 (some Atb)) (.leaf 130 (some Atc))) (.node 141 (.leaf 135 (some Atd)) (.node 143 (.leaf 141 (some Ate)) (.leaf 143 (some Atf)))))) (.node 152 (.node 149 (.node 148 (.leaf 147 (some Atg)) (.leaf 148 (some Ath))) (.node 150 (.leaf 149 (some Ati)) (.node 151 (.leaf 150 (some Bn)) (.leaf 151 (some Atj))))) (.node 155 (.node 153 (.leaf 152 (some Atk)) (.node 154 (.leaf 153 (some Atl)) (.leaf 154 (some Atm)))) (.node 157 (.leaf 155 (some Atn)) (.node 158 (.leaf 157 (some Ato)) (.leaf 158 (some Atp))))))))) (.node 244 (.node 198 (.node 182 (.node 169 (.node 161 (.node 160 (.leaf 159 (some Abe)) (.leaf 160 (some Atq))) (.node 163 (.leaf 161 (some Bi)) (.node 167 (.leaf 163 (some Atr)) (.leaf 167 (some Ats))))) (.node 173 (.node 170 (.leaf 169 (some Att)) (.leaf 170 (some Atu))) (.node 178 (.leaf 173 (some Atv)) (.node 180 (.leaf 178 (some Atw)) (.leaf 180 (some Atx)))))) (.node 191 (.node 188 (.node 187 (.leaf 182 (some Aty)) (.leaf 187 (some Atz))) (.node 189 (.leaf 188 (some At0)) (.node 190 (.leaf 189 (some At1)) (.leaf 190 (some At2))))) (.node 193 (.node 192 (.leaf 191 (some At3)) (.leaf 192 (some At4))) (.node 195 (.leaf 193 (some At5)) (.node 196 (.leaf 195 (some At6)) (.leaf 196 (some At7))))))) (.node 221 (.node 206 (.node 200 (.node 199 (.leaf 198 (some Bo)) (.leaf 199 (some At8))) (.node 202 (.leaf 200 (some At9)) (.node 204 (.leaf 202 (some Aua)) (.leaf 204 (some Aub))))) (.node 214 (.node 207 (.leaf 206 (some Auc)) (.leaf 207 (some Aud))) (.node 218 (.leaf 214 (some Aue)) (.node 220 (.leaf 218 (some Auf)) (.leaf 220 (some Aug)))))) (.node 233 (.node 225 (.node 222 (.leaf 221 (some Auh)) (.leaf 222 (some Aui))) (.node 227 (.leaf 225 (some Auj)) (.node 232 (.leaf 227 (some Auk)) (.leaf 232 (some Aul))))) (.node 238 (.node 235 (.leaf 233 (some Aum)) (.leaf 235 (some Aun))) (.node 242 (.leaf 238 (some Auo)) (.node 243 (.leaf 242 (some Bp)) (.leaf 243 (some Aup)))))))) (.node 299 (.node 275 (.node 255 (.node 249 (.node 245 (.leaf 244 (some Ahb)) (.leaf 245 (some Auq))) (.node 251 (.leaf 249 (some Aur)) (.node 253 (.leaf 251 (some Aus)) (.leaf 253 (some Aut))))) (.node 268 (.node 264 (.leaf 255 (some Auu)) (.leaf 264 (some Auv))) (.node 272 (.leaf 268 (some Auw)) (.node 274 (.leaf 272 (some Aux)) (.leaf 274 (some Auy)))))) (.node 290 (.node 282 (.node 281 (.leaf 275 (some Bq)) (.leaf 281 (some Auz))) (.node 283 (.leaf 282 (some Au0)) (.node 284 (.leaf 283 (some Au1)) (.leaf 284 (some Au2))))) (.node 293 (.node 292 (.leaf 290 (some Au3)) (.leaf 292 (some Au4))) (.node 296 (.leaf 293 (some Au5)) (.node 297 (.leaf 296 (some Au6)) (.leaf 297 (some Au7))))))) (.node 324 (.node 316 (.node 310 (.node 306 (.leaf 299 (some Au8)) (.leaf 306 (some Au9))) (.node 312 (.leaf 310 (some Ava)) (.node 315 (.leaf 312 (some Avb)) (.leaf 315 (some Avc))))) (.node 321 (.node 318 (.leaf 316 (some Avd)) (.leaf 318 (some Ave))) (.node 322 (.leaf 321 (some Avf)) (.node 323 (.leaf 322 (some Avg)) (.leaf 323 (some Avh)))))) (.node 331 (.node 326 (.node 325 (.leaf 324 (some Avi)) (.leaf 325 (some Avj))) (.node 327 (.leaf 326 (some Avk)) (.node 330 (.leaf 327 (some Avl)) (.leaf 330 (some Avm))))) (.node 335 (.node 332 (.leaf 331 (some Avn)) (.node 333 (.leaf 332 (some Avo)) (.leaf 333 (some Avp)))) (.node 336 (.leaf 335 (some Avq)) (.node 337 (.leaf 336 (some Avr)) (.leaf 337 (some Avs))))))))))
def TY:TypeId→Option TI:=A1w.look
theorem Ap:TyOk Tryz.prog TY:=TT.ok (t:=A1w) ⟨⟨⟨⟨⟨⟨⟨ok0,ok2⟩,⟨ok3,⟨ok4,ok5⟩⟩⟩,⟨⟨ok9,A3k⟩,⟨A3l,⟨A3m,A3n⟩⟩⟩⟩,⟨⟨⟨A3o,A3p⟩,⟨A3q,⟨A3r,A3s⟩⟩⟩,⟨⟨A3t,A3u⟩,⟨Al9,⟨Awj,Awl⟩⟩⟩⟩⟩,⟨⟨⟨⟨A3v,A3w⟩,⟨A3x,⟨Ama,A3y⟩⟩⟩,⟨⟨Awm,A3z⟩,⟨A30,⟨A31,Awn⟩⟩⟩⟩,⟨⟨⟨A32,Awp⟩,⟨A33,⟨A34,A35⟩⟩⟩,⟨⟨Awr,Awt⟩,⟨A36,⟨Awu,A37⟩⟩⟩⟩⟩⟩,⟨⟨⟨⟨⟨A38,A39⟩,⟨Aww,⟨A4a,Awx⟩⟩⟩,⟨⟨Awy,A4b⟩,⟨A4c,⟨A4d,A4e⟩⟩⟩⟩,⟨⟨⟨A4f,A4g⟩,⟨A4h,⟨Ayy,Ayz⟩⟩⟩,⟨⟨Ay0,Ay1⟩,⟨Ay2,⟨Amc,Ay3⟩⟩⟩⟩⟩,⟨⟨⟨⟨Ay4,Ay5⟩,⟨Ay6,⟨Ay7,Ay8⟩⟩⟩,⟨⟨Ay9,Aza⟩,⟨Azb,⟨Azc,Azd⟩⟩⟩⟩,⟨⟨⟨Aze,Azf⟩,⟨Azg,⟨Azh,Azi⟩⟩⟩,⟨⟨Azj,⟨Azk,Azl⟩⟩,⟨Azm,⟨Azn,Azo⟩⟩⟩⟩⟩⟩⟩,⟨⟨⟨⟨⟨⟨Amd,Azp⟩,⟨Ame,⟨Azq,Azr⟩⟩⟩,⟨⟨Azs,Azt⟩,⟨Azu,⟨Azv,Azw⟩⟩⟩⟩,⟨⟨⟨Azx,Azy⟩,⟨Azz,⟨Az0,Az1⟩⟩⟩,⟨⟨Az2,Az3⟩,⟨Az4,⟨Az5,Az6⟩⟩⟩⟩⟩,⟨⟨⟨⟨Az7,Az8⟩,⟨Az9,⟨A0a,A0b⟩⟩⟩,⟨⟨A0c,A0d⟩,⟨A0e,⟨A0f,A0g⟩⟩⟩⟩,⟨⟨⟨A0h,A0i⟩,⟨A0j,⟨A0k,A0l⟩⟩⟩,⟨⟨A0m,A0n⟩,⟨A0o,⟨A0p,A0q⟩⟩⟩⟩⟩⟩,⟨⟨⟨⟨⟨A0r,A0s⟩,⟨A0t,⟨A0u,A0v⟩⟩⟩,⟨⟨A0w,A0x⟩,⟨A0y,⟨A0z,A00⟩⟩⟩⟩,⟨⟨⟨A01,A02⟩,⟨A03,⟨A04,A05⟩⟩⟩,⟨⟨A06,A07⟩,⟨A08,⟨A09,A1a⟩⟩⟩⟩⟩,⟨⟨⟨⟨A1b,A1c⟩,⟨A1d,⟨A1e,A1f⟩⟩⟩,⟨⟨A1g,A1h⟩,⟨A1i,⟨A1j,A1k⟩⟩⟩⟩,⟨⟨⟨A1l,A1m⟩,⟨A1n,⟨A1o,A1p⟩⟩⟩,⟨⟨A1q,⟨A1r,A1s⟩⟩,⟨A1t,⟨A1u,A1v⟩⟩⟩⟩⟩⟩⟩⟩
end Go.Vc.Z
namespace Go.Vc.Z
open Go Go.Vc Go.Proofs
theorem Am{k:IntKind}{n:Int}:inK k n↔Go.Vc.lo k≤n∧n≤Go.Vc.hi k:=Iff.rfl
theorem tK{p:Prop}(h:p:=by(simp only[Am,Go.Vc.lo,Go.Vc.hi];omega)):p:=h
abbrev slE{α:Type}[Inhabited α](sz:Nat)(enc:α→List AV)(l:List α):AV:=.sl false sz l.length (fun e=>enc (l.getD e default))
structure Coupon where
 flight:Int
 day:Int
 value:Int
 status:Int
 holder:Int
 next:Int
deriving Inhabited
abbrev Coupon.enc(c:Coupon):List AV:=[.int .i64 c.flight,.int .i64 c.day,.int .i64 c.value,.int .i64 c.status,.int .i64 c.holder,.int .u64 c.next]
structure Tax where
 code:Int
 amount:Int
deriving Inhabited
abbrev Tax.enc(c:Tax):List AV:=[.int .i64 c.code,.int .i64 c.amount]
structure Event where
 day:Int
 coupon:Int
 src:Int
 dst:Int
deriving Inhabited
abbrev Event.enc(c:Event):List AV:=[.int .i64 c.day,.int .i64 c.coupon,.int .i64 c.src,.int .i64 c.dst]
structure Ticket where
 number:Int
 locator:List UInt8
 issued:Int
 coupons:List Coupon
 taxes:List Tax
 prev:Int
 origin:Int
 first:Int
 voucher:Int
 posts:Int
 history:List Event
deriving Inhabited
abbrev Ticket.enc(t:Ticket):List AV:=[.int .u64 t.number,.str t.locator,.int .i64 t.issued,slE 6 Coupon.enc t.coupons,slE 2 Tax.enc t.taxes,.int .u64 t.prev,.int .u64 t.origin,.int .u64 t.first,.int .i64 t.voucher,.int .i64 t.posts,slE 4 Event.enc t.history]
structure Posting where
 day:Int
 ticket:Int
 seq:Int
 kind:Int
 cash:Int
 liability:Int
 revenue:Int
 tax:Int
 penalty:Int
 voucher:Int
deriving Inhabited
abbrev Posting.enc(p:Posting):List AV:=[.int .i64 p.day,.int .u64 p.ticket,.int .i64 p.seq,.int .i64 p.kind,.int .i64 p.cash,.int .i64 p.liability,.int .i64 p.revenue,.int .i64 p.tax,.int .i64 p.penalty,.int .i64 p.voucher]
structure Loan where
 ticket:Int
 coupon:Int
 held:Bool
 what:Coupon
deriving Inhabited
abbrev Loan.enc(l:Loan):List AV:=[.int .u64 l.ticket,.int .i64 l.coupon,.bool l.held,.int .i64 l.what.flight,.int .i64 l.what.day,.int .i64 l.what.value,.int .i64 l.what.status,.int .i64 l.what.holder,.int .u64 l.what.next]
structure Answer where
 code:Int
 tickets:List Ticket
 postings:List Posting
 loans:List Loan
deriving Inhabited
abbrev Answer.enc(a:Answer):List AV:=[.int .i64 a.code,slE 11 Ticket.enc a.tickets,slE 10 Posting.enc a.postings,slE 9 Loan.enc a.loans]
structure Told where
 answer:Answer
 code:Int
 came:Int
deriving Inhabited
abbrev Told.enc(t:Told):List AV:=t.answer.enc++[.int .i64 t.code,.int .i64 t.came]
end Go.Vc.Z
namespace Go.Vc
open Go
theorem Ajx{a b:Nat}:Nat.ble a b=false↔b<a:=by
 rw[←Bool.not_eq_true,Nat.ble_eq];omega
theorem Amf{a b:Nat}:Nat.ble a b=true↔a≤b:=by rw[Nat.ble_eq]
theorem Amg{a b:Nat}:Nat.beq a b=true↔a=b:=by rw[Nat.beq_eq]
theorem Ajy{a b:Nat}:Nat.beq a b=false↔ ¬a=b:=by rw[←Bool.not_eq_true,Nat.beq_eq]
theorem bytesOf_length(n:Nat)(g:Nat→List AV):(bytesOf n g).length=n:=by simp[bytesOf]
noncomputable def sI:Int→Int:=Classical.choose (⟨id,rfl⟩:∃ f:Int→Int,f=id)
theorem Cg(n:Int):sI n=n:=congrFun (Classical.choose_spec (⟨id,rfl⟩:∃ f:Int→Int,f=id)) n
noncomputable def sB:Bool→Bool:=Classical.choose (⟨id,rfl⟩:∃ f:Bool→Bool,f=id)
theorem Bd(n:Bool):sB n=n:=congrFun (Classical.choose_spec (⟨id,rfl⟩:∃ f:Bool→Bool,f=id)) n
noncomputable def sS:List UInt8→List UInt8:=Classical.choose (⟨id,rfl⟩:∃ f:List UInt8→List UInt8,f=id)
theorem A0(n:List UInt8):sS n=n:=congrFun (Classical.choose_spec (⟨id,rfl⟩:∃ f:List UInt8→List UInt8,f=id)) n
noncomputable def sN:Nat→Nat:=Classical.choose (⟨id,rfl⟩:∃ f:Nat→Nat,f=id)
theorem eY(n:Nat):sN n=n:=congrFun (Classical.choose_spec (⟨id,rfl⟩:∃ f:Nat→Nat,f=id)) n
noncomputable def sL:List (List UInt8)→List (List UInt8):=Classical.choose (⟨id,rfl⟩:∃ f:List (List UInt8)→List (List UInt8),f=id)
theorem Dd(n:List (List UInt8)):sL n=n:=congrFun (Classical.choose_spec (⟨id,rfl⟩:∃ f:List (List UInt8)→List (List UInt8),f=id)) n
def PC.fun(f:List AV→Option (Prop × AV)):PC:={
 T cs Q:=match f cs with|some (p,r)=>p∧Q r|none=>False
 det cs N h:=by
  cases hf:f cs with
  |none=>rw[hf] at h;exact h.elim
  |some pr=>obtain⟨p,r⟩:=pr;rw[hf] at h;exact⟨r,h.2,h.1,rfl⟩ }
theorem Az{F:Nat→Obj→Prop}{P:Program}{TY:TypeId→Option TI}{C:FuncId→Option Ctr}{D:PT}{wr:Tmp→Bool}
  (hm:P.follows .mixedOrders=true) (hTY:TyOk P TY) (hD:Cl F P D) (hC:Ad F P C) {f:FuncId} {fn:Func} (hf:P.funcs[f]? =some fn) {g:List AV→Option (Prop × AV)} (L:List AV→Nat→Option LR)
  (h:∀ cs p r,g cs=some (p,r)→Ax cs→p→fnE TY C D wr (L cs) fn cs [] (fun c H'=>Awh H' c (isA r))):GoodP F P f (PC.fun g):=by
 refine yU (wr:=wr) hm hTY hD hC hf L fun cs Q hfl hT=>?_
 simp only[PC.fun] at hT
 cases hg:g cs with
 |none=>rw[hg] at hT;exact hT.elim
 |some pr=>obtain⟨p,r⟩:=pr;rw[hg] at hT;exact⟨r,hT.2,h cs p r hg hfl hT.1⟩
theorem Ar{F:Nat→Obj→Prop}{P:Program}{TY:TypeId→Option TI}{D:PT}{wr:Tmp→Bool}{α:Type}{C:α→FuncId→Option Ctr}{args:α→List AV}{pre:α→Prop}{res:α→AV}(hm:P.follows .mixedOrders=true)(hTY:TyOk P TY)(hD:Cl F P D)(hC:∀ x,Ad F P (C x)){f:FuncId}{fn:Func}(hf:P.funcs[f]? =some fn)(L:α→Nat→Option LR)
  (hu:∀ x,E3 0 (args x)=true)
  (h:∀ x,Ax (args x)→pre x→fnE TY (C x) D wr (L x) fn (args x) [] (fun c H'=>Awh H' c (isA (res x)))):GoodP F P f (PC.of args pre res):=by
 intro S w cs vs Q hs hv hpre
 obtain⟨x,h1,h2,h3⟩:=hpre
 have hl:=J3 h2
 have hv':VL (fun _=>none) S w (args x) vs:=by
  refine⟨by rw[←hl];exact hv.1,fun i c v hc hv'=>?_⟩
  have hi:i<cs.length:=by
   rcases Nat.lt_or_ge i (args x).length with h'|h'
   ·omega
   ·rw[List.getElem?_eq_none h'] at hc;cases hc
  exact(hv.2 i cs[i] v (List.getElem?_eq_getElem hi) hv').le (σ:=fun i=>i) (n:=0) (fun i b hi=>by omega) (Qn h2 i _ _ (List.getElem?_eq_getElem hi) hc) (Ds (hu x) i c hc)
 have hH:HRel (fun _=>none) S w []:=⟨fun i j bi bj b hi=>by simp at hi,fun i b hi=>by simp at hi,fun i b hi=>by cases hi⟩
 refine(T6 hm hTY hD (hC x) hf hs hH hv' (h x hv'.fact h1)).mono ?_
 rintro e w' ⟨v,c,H',ρ',S',rfl,h1,h2,h3',h4,h5⟩
 obtain⟨c',ids,h6,h7,h8⟩:=Zk h3' h1 h2
 unfold isA at h6
 split at h6
 ·rename_i hu
  refine⟨v,res x,Sf ρ' S' ids,rfl,h3,h7.le (σ:=fun i=>i) (n:=0) (fun i b hi=>by omega) h6 hu,⟨fun _ _ h=>(by cases h),fun b hb=>.inl (h4.st b hb),h4.same,h4.size,h4.shp,fun _ _ h=>(by cases h),fun b hb=>?_,h4.os,h4.tape,h4.output⟩,Xh h3' h5 ids⟩
  rcases hb with hb|⟨i,_,hb⟩
  ·rcases h4.stf b hb with h9|⟨j,h9⟩|h9
   ·exact .inl h9
   ·cases h9
   ·exact .inr (.inr h9)
  ·rcases h4.fresh i b hb with ⟨j,h9⟩|h9
   ·cases h9
   ·exact .inr (.inr h9)
 ·exact h6.elim
def Abf(TY:TypeId→Option TI)(C:FuncId→Option Ctr)(D:PT)(wr:Tmp→Bool)(L:List AV→List Blk→Nat→Option LR)(fn:Func):Ctr:=fun cs H Q=>∃ Q0:AV→List Blk→Prop,fnE TY C D wr (L cs H) fn cs H Q0∧∀ c H',Q0 c H'→Q c H'
noncomputable def Uu:(TypeId→Option TI)→(FuncId→Option Ctr)→PT→(Tmp→Bool)→(List AV→List Blk→Nat→Option LR)→Func→Ctr:=Classical.choose (⟨Abf,rfl⟩:∃ f,f=Abf)
theorem Ahc:Uu=Abf:=Classical.choose_spec (⟨Abf,rfl⟩:∃ f,f=Abf)
attribute [irreducible] Uu
theorem eZ{TY:TypeId→Option TI}{C:FuncId→Option Ctr}{D:PT}{wr:Tmp→Bool}{L:List AV→List Blk→Nat→Option LR}{fn:Func}{cs:List AV}{H:List Blk}{Q:AV→List Blk→Prop}(Q0:AV→List Blk→Prop)(h1:fnE TY C D wr (L cs H) fn cs H Q0)(h2:∀ c H',Q0 c H'→Q c H'):Uu TY C D wr L fn cs H Q:=by
 rw[Ahc];exact⟨Q0,h1,h2⟩
def setCell(H:List Blk)(p k:Nat)(c:AV):List Blk:=match H[p]? with|some (.var cs T)=>H.set p (.var (cs.set k c) T)|_=>H
theorem Amh{TY:TypeId→Option TI}{C:FuncId→Option Ctr}{D:PT}{wr:Tmp→Bool}{L:List AV→List Blk→Nat→Option LR}{fn:Func}{cs:List AV}{H:List Blk}{Q:AV→List Blk→Prop}(r:AV)(p k q j:Nat)(v:AV)(B:Bool)(h1:fnE TY C D wr (L cs H) fn cs H (fun c H'=>c=r∧∃ b,b=B∧H'=setCell (setCell H p k (.bool b)) q j v))(h2:Q r (setCell (setCell H p k (.bool (sB B))) q j v)):Uu TY C D wr L fn cs H Q:=by
 refine eZ _ h1 ?_
 rintro c H' ⟨rfl,b,rfl,rfl⟩
 rw[←Bd b];exact h2
theorem T7{F:Nat→Obj→Prop}{P:Program}{TY:TypeId→Option TI}{C:FuncId→Option Ctr}{D:PT}{wr:Tmp→Bool}(hm:P.follows .mixedOrders=true)(hTY:TyOk P TY)(hD:Cl F P D)(hC:Ad F P C){f:FuncId}{fn:Func}(hf:P.funcs[f]? =some fn)(L:List AV→List Blk→Nat→Option LR):
  Good F P f (Uu TY C D wr L fn):=by
 intro ρ S w H cs vs Q hs hH hv hK
 rw[Ahc] at hK
 obtain⟨Q0,h1,h2⟩:=hK
 refine(T6 hm hTY hD hC hf hs hH hv h1).mono ?_
 rintro e w' ⟨v,c,H',ρ',S',he,h3,h4⟩
 exact⟨v,c,H',ρ',S',he,h2 _ _ h3,h4⟩
end Go.Vc
namespace Go.Vc
open Go
theorem iA{q:Prop}{a}{b}{c}(h:leA a b c)(k:q):leA a b c∧q:=⟨h,k⟩
theorem iL{q:Prop}{a}{b}{c}(h:leL a b c)(k:q):leL a b c∧q:=⟨h,k⟩
theorem iB{q:Prop}{a}{b}{c}{d}(h:aX a b c d)(k:q):aX a b c d∧q:=⟨h,k⟩
theorem iQ{q:Prop}{a}{b}{c}{d}{e}{f}(h:opQ a b c d e f)(k:q):opQ a b c d e f∧q:=⟨h,k⟩
theorem wS:(∀ {a b:Nat},Nat.ble a b=true↔a≤b)∧(∀ {a b:Nat},Nat.ble a b=false↔b<a)∧(∀ {a b:Nat},Nat.beq a b=true↔a=b)∧(∀ {a b:Nat},Nat.beq a b=false↔ ¬a=b)∧
  (∀ n:Int,sI n=n)∧(∀ n:Bool,sB n=n)∧(∀ n:List UInt8,sS n=n)∧(∀ n:Nat,sN n=n)∧(∀ a b:Int,ltI a b=decide (a<b))∧(∀ a b:Int,leI a b=decide (a≤b))∧(∀ a b:Int,eqI a b=(a == b))∧
  (∀ {p:Prop} [Decidable p],(decide p=true)=p)∧(∀ {p:Prop} {x:Decidable p},decide p=false↔ ¬p)∧(∀ {α:Type} [BEq α] [LawfulBEq α] {a b:α},(a == b)=true↔a=b)∧(∀ {α:Type} [BEq α] [LawfulBEq α] {a b:α},(a != b)=true↔a≠b)∧
  (∀ {α:Type} (a b:α),(a≠b)= ¬a=b)∧(∀ {α:Type} [BEq α] [LawfulBEq α] {a b:α},(a == b)=false↔a≠b)∧(∀ {α:Type} [BEq α] [LawfulBEq α] {a b:α},(a != b)=false↔a=b)∧
  (∀ b:Bool,(¬b=true)=(b=false))∧(∀ b:Bool,(¬b=false)=(b=true))∧(∀ {a b:Int},¬a<b↔b≤a)∧(∀ {a b:Int},¬a≤b↔b<a)∧(∀ {α:Type} [LT α] {x y:α},x > y↔y<x)∧(∀ {α:Type} [LE α] {x y:α},x≥y↔y≤x)∧
  (∀ {a b:Nat},¬a<b↔b≤a)∧(∀ {a b:Nat},¬a≤b↔b<a)∧(∀ {p:Prop} [Decidable p],¬ ¬p↔p)∧(∀ {a b:Bool},(!a)=b↔a= !b)∧((!true)=false)∧((!false)=true)∧
  (∀ {α:Type} (a b:α),(bif true then a else b)=a)∧(∀ {α:Type} (a b:α),(bif false then a else b)=b)∧(∀ a b:Bool,((a || b)=true)=(a=true∨b=true))∧(∀ a b:Bool,((a&&b)=true)=(a=true∧b=true))∧
  (∀ {x y:Bool},(x || y)=false↔x=false∧y=false)∧(∀ {x y:Bool},(x&&y)=false↔x=false∨y=false):=
 ⟨Amf,Ajx,Amg,Ajy,Cg,Bd,A0,eY,Dr,Ca,Be,decide_eq_true_eq,decide_eq_false_iff_not,beq_iff_eq,bne_iff_ne,ne_eq,beq_eq_false_iff_ne,bne_eq_false_iff_eq,Bool.not_eq_true,Bool.not_eq_false,Int.not_lt,Int.not_le,gt_iff_lt,ge_iff_le,
  Nat.not_lt,Nat.not_le,Decidable.not_not,Bool.not_eq_eq_eq_not,Bool.not_true,Bool.not_false,cond_true,cond_false,Bool.or_eq_true,Bool.and_eq_true,Bool.or_eq_false_iff,Bool.and_eq_false_iff⟩
theorem wQ:(∀ n:Int,sI n=n)∧(∀ n:Bool,sB n=n)∧(∀ n:List UInt8,sS n=n)∧(∀ n:Nat,sN n=n):=⟨Cg,Bd,A0,eY⟩
theorem wT:(∀ {a b:Int},0≤a→a.tdiv b=a / b)∧(∀ {a b:Int},0≤a→a.tmod b=a % b):=⟨Int.tdiv_eq_ediv_of_nonneg,Int.tmod_eq_emod_of_nonneg⟩
theorem tL{p:Prop}(h:p:=by((conv=>whnf);(repeat' ((first|with_reducible exact⟨⟩|with_reducible rfl|((with_reducible refine Or.inr ?_);rfl)|((with_reducible refine aI ?_ ?_);focus (exact tA))|with_reducible refine iA ?_ ?_|with_reducible refine iL ?_ ?_|with_reducible refine iB ?_ ?_|fail)<;>(conv=>whnf)));(all_goals (try simp only[wQ]));(all_goals (try first|omega|rfl|exact Or.inl True.intro|exact⟨fun h=>h,fun _ _=>True.intro⟩|exact⟨fun h=>h,fun _ _=>rfl⟩|(refine⟨fun h=>h,fun e he=>?_⟩;rw[Nat.zero_add];done)));(all_goals (try first|exact fun _ _=>⟨True.intro,rfl⟩|exact⟨Nat.le_refl _,fun _ _=>⟨True.intro,rfl⟩⟩|exact⟨by simp,Or.inl trivial⟩|exact⟨by simp,fun e he=>⟨Ahn rfl he,rfl⟩⟩)))):p:=h
mutual
theorem Ahd:∀ a:AV,leA (fun i=>i) a a
 | .agg cs=>by simpa[leA] using Ac cs
 | .tup cs=>by simpa[leA] using Ac cs
 | .fn f cs=>by simpa[leA] using Ac cs
 | .iface t v=>by simpa[leA] using Ahd v
 | .rptr cs j=>by simp[leA]
 | .sl c z l g=>by simp[leA]
 | .nilsl=>by simp[leA]
 | .osl id z o l cap=>by simp[leA]
 | .ptr id j=>by simp[leA]
 | .eptr id sz e j=>by simp[leA]
 | .map id=>by simp[leA]
 | .iter id=>by simp[leA]
 | .int k n=>by simp[leA]
 | .str l=>by simp[leA]
 | .bool b=>by simp[leA]
 | .any=>by simp[leA]
 | .nilp=>by simp[leA]
 | .nilfn=>by simp[leA]
 | .nilmap=>by simp[leA]
 | .nilif=>by simp[leA]
theorem Ac:∀ l:List AV,leL (fun i=>i) l l
 |[]=>by simp[leL]
 |c::cs=>by simpa[leL] using ⟨Ahd c,Ac cs⟩
end
end Go.Vc
