/- Printed by PrintTY: what the program's types are. -/
import Derived.Test.YtpmpclbdnakniaaGreatDoorV8
import Derived.Test.YtpmpclbdnakniaaGreatDoorProg
import Derived.ChangeArms
import Derived.ChangeStays
import Derived.ChangeSame
import Derived.ChangeAgain
import Derived.RowKit3
import Derived.Lib.LaidTab
import Derived.Lib.ItoaNum
set_option linter.all false
namespace Go.Vc.Z
open Go Go.Vc Go.Proofs
def ty0:TI:=⟨1,0,false,.other,(some (.any)),true⟩
theorem ok0:A7 Tryz.prog 0=some ty0:=by kernel_rfl
def ty2:TI:=⟨1,8,false,(.int .i64),(some (.int .i64 0)),true⟩
theorem ok2:A7 Tryz.prog 2=some ty2:=by kernel_rfl
def ty3:TI:=⟨1,8,false,(.int .i64),(some (.int .i64 0)),true⟩
theorem ok3:A7 Tryz.prog 3=some ty3:=by kernel_rfl
def ty4:TI:=⟨1,1,false,.bool,(some (.bool false)),true⟩
theorem ok4:A7 Tryz.prog 4=some ty4:=by kernel_rfl
def ty5:TI:=⟨1,1,false,(.int .u8),(some (.int .u8 0)),true⟩
theorem ok5:A7 Tryz.prog 5=some ty5:=by kernel_rfl
def ty9:TI:=⟨1,16,false,.str,(some (.str [])),true⟩
theorem ok9:A7 Tryz.prog 9=some ty9:=by kernel_rfl
def A1h:TI:=⟨1,16,false,.iface,(some (.nilif)),true⟩
theorem A68:A7 Tryz.prog 20=some A1h:=by kernel_rfl
def Am6:TI:=⟨1,4,false,(.int .i32),(some (.int .i32 0)),true⟩
theorem A69:A7 Tryz.prog 21=some Am6:=by kernel_rfl
def A1i:TI:=⟨1,8,false,(.int .i64),(some (.int .i64 0)),true⟩
theorem A7a:A7 Tryz.prog 22=some A1i:=by kernel_rfl
def A1j:TI:=⟨1,24,false,(.slice 42),(some (.nilsl)),true⟩
theorem A7b:A7 Tryz.prog 23=some A1j:=by kernel_rfl
def A1k:TI:=⟨1,24,false,(.slice 95),(some (.nilsl)),true⟩
theorem A7c:A7 Tryz.prog 24=some A1k:=by kernel_rfl
def A1l:TI:=⟨1,24,false,(.slice 47),(some (.nilsl)),true⟩
theorem A7d:A7 Tryz.prog 25=some A1l:=by kernel_rfl
def A1m:TI:=⟨4,80,true,(.struct [(0,22),(1,23),(2,24),(3,25)]),(some (.agg [.int .i64 0,.nilsl,.nilsl,.nilsl])),true⟩
theorem A7e:A7 Tryz.prog 26=some A1m:=by kernel_rfl
def A1n:TI:=⟨4,80,true,(.struct [(0,22),(1,23),(2,24),(3,25)]),(some (.agg [.int .i64 0,.nilsl,.nilsl,.nilsl])),true⟩
theorem A7f:A7 Tryz.prog 27=some A1n:=by kernel_rfl
def A1o:TI:=⟨6,96,true,(.struct [(0,27),(4,22),(5,3)]),(some (.agg [.int .i64 0,.nilsl,.nilsl,.nilsl,.int .i64 0,.int .i64 0])),true⟩
theorem A7g:A7 Tryz.prog 28=some A1o:=by kernel_rfl
def A1p:TI:=⟨6,96,true,(.struct [(0,27),(4,22),(5,3)]),(some (.agg [.int .i64 0,.nilsl,.nilsl,.nilsl,.int .i64 0,.int .i64 0])),true⟩
theorem A7h:A7 Tryz.prog 29=some A1p:=by kernel_rfl
def A1q:TI:=⟨1,24,false,(.slice 9),(some (.nilsl)),true⟩
theorem A7i:A7 Tryz.prog 32=some A1q:=by kernel_rfl
def rL:TI:=⟨1,8,false,(.int .u64),(some (.int .u64 0)),true⟩
theorem A7j:A7 Tryz.prog 37=some rL:=by kernel_rfl
def A1r:TI:=⟨1,24,false,(.slice 45),(some (.nilsl)),true⟩
theorem A7k:A7 Tryz.prog 38=some A1r:=by kernel_rfl
def A1s:TI:=⟨1,24,false,(.slice 113),(some (.nilsl)),true⟩
theorem A7l:A7 Tryz.prog 39=some A1s:=by kernel_rfl
def A1t:TI:=⟨1,24,false,(.slice 105),(some (.nilsl)),true⟩
theorem A7m:A7 Tryz.prog 40=some A1t:=by kernel_rfl
def A1u:TI:=⟨11,144,true,(.struct [(0,37),(1,9),(2,3),(3,38),(4,39),(5,37),(6,37),(7,37),(8,2),(9,3),(10,40)]),(some (.agg [.int .u64 0,.str [],.int .i64 0,.nilsl,.nilsl,.int .u64 0,.int .u64 0,.int .u64 0,.int .i64 0,.int .i64 0,.nilsl])),true⟩
theorem A7n:A7 Tryz.prog 41=some A1u:=by kernel_rfl
def Am7:TI:=⟨11,144,true,(.struct [(0,37),(1,9),(2,3),(3,38),(4,39),(5,37),(6,37),(7,37),(8,2),(9,3),(10,40)]),(some (.agg [.int .u64 0,.str [],.int .i64 0,.nilsl,.nilsl,.int .u64 0,.int .u64 0,.int .u64 0,.int .i64 0,.int .i64 0,.nilsl])),true⟩
theorem A7o:A7 Tryz.prog 42=some Am7:=by kernel_rfl
def rM:TI:=⟨1,8,false,(.int .i64),(some (.int .i64 0)),true⟩
theorem A7p:A7 Tryz.prog 43=some rM:=by kernel_rfl
def A1v:TI:=⟨6,48,true,(.struct [(0,3),(1,3),(2,2),(3,43),(4,3),(5,37)]),(some (.agg [.int .i64 0,.int .i64 0,.int .i64 0,.int .i64 0,.int .i64 0,.int .u64 0])),true⟩
theorem A7q:A7 Tryz.prog 44=some A1v:=by kernel_rfl
def Aeb:TI:=⟨6,48,true,(.struct [(0,3),(1,3),(2,2),(3,43),(4,3),(5,37)]),(some (.agg [.int .i64 0,.int .i64 0,.int .i64 0,.int .i64 0,.int .i64 0,.int .u64 0])),true⟩
theorem A7r:A7 Tryz.prog 45=some Aeb:=by kernel_rfl
def A1w:TI:=⟨9,72,true,(.struct [(0,37),(1,3),(2,4),(3,45)]),(some (.agg [.int .u64 0,.int .i64 0,.bool false,.int .i64 0,.int .i64 0,.int .i64 0,.int .i64 0,.int .i64 0,.int .u64 0])),true⟩
theorem A7s:A7 Tryz.prog 46=some A1w:=by kernel_rfl
def Am8:TI:=⟨9,72,true,(.struct [(0,37),(1,3),(2,4),(3,45)]),(some (.agg [.int .u64 0,.int .i64 0,.bool false,.int .i64 0,.int .i64 0,.int .i64 0,.int .i64 0,.int .i64 0,.int .u64 0])),true⟩
theorem A7t:A7 Tryz.prog 47=some Am8:=by kernel_rfl
def A1x:TI:=⟨1,8,false,.func,(some (.nilfn)),true⟩
theorem A7u:A7 Tryz.prog 52=some A1x:=by kernel_rfl
def Aty:TI:=⟨1,8,false,(.int .i64),(some (.int .i64 0)),true⟩
theorem A7v:A7 Tryz.prog 54=some Aty:=by kernel_rfl
def A1y:TI:=⟨12,144,true,(.struct [(0,9),(1,54),(2,3),(3,37),(4,3),(5,43),(6,9),(7,38),(8,39),(9,2),(10,3),(11,3)]),(some (.agg [.str [],.int .i64 0,.int .i64 0,.int .u64 0,.int .i64 0,.int .i64 0,.str [],.nilsl,.nilsl,.int .i64 0,.int .i64 0,.int .i64 0])),true⟩
theorem A7w:A7 Tryz.prog 55=some A1y:=by kernel_rfl
def A1z:TI:=⟨12,144,true,(.struct [(0,9),(1,54),(2,3),(3,37),(4,3),(5,43),(6,9),(7,38),(8,39),(9,2),(10,3),(11,3)]),(some (.agg [.str [],.int .i64 0,.int .i64 0,.int .u64 0,.int .i64 0,.int .i64 0,.str [],.nilsl,.nilsl,.int .i64 0,.int .i64 0,.int .i64 0])),true⟩
theorem A7x:A7 Tryz.prog 56=some A1z:=by kernel_rfl
def A10:TI:=⟨1,8,false,.func,(some (.nilfn)),true⟩
theorem A7y:A7 Tryz.prog 58=some A10:=by kernel_rfl
def A11:TI:=⟨1,0,false,.other,(some (.any)),true⟩
theorem A7z:A7 Tryz.prog 59=some A11:=by kernel_rfl
def A12:TI:=⟨1,0,false,.other,(some (.any)),true⟩
theorem A70:A7 Tryz.prog 62=some A12:=by kernel_rfl
def A13:TI:=⟨1,8,false,(.int .i64),(some (.int .i64 0)),true⟩
theorem A71:A7 Tryz.prog 64=some A13:=by kernel_rfl
def A14:TI:=⟨1,24,false,(.slice 3),(some (.nilsl)),true⟩
theorem A72:A7 Tryz.prog 65=some A14:=by kernel_rfl
def A15:TI:=⟨17,200,true,(.struct [(0,64),(1,3),(2,56),(14,3),(15,65),(16,4)]),(some (.agg [.int .i64 0,.int .i64 0,.str [],.int .i64 0,.int .i64 0,.int .u64 0,.int .i64 0,.int .i64 0,.str [],.nilsl,.nilsl,.int .i64 0,.int .i64 0,.int .i64 0,.int .i64 0,.nilsl,.bool false])),true⟩
theorem A73:A7 Tryz.prog 66=some A15:=by kernel_rfl
def Aec:TI:=⟨17,200,true,(.struct [(0,64),(1,3),(2,56),(14,3),(15,65),(16,4)]),(some (.agg [.int .i64 0,.int .i64 0,.str [],.int .i64 0,.int .i64 0,.int .u64 0,.int .i64 0,.int .i64 0,.str [],.nilsl,.nilsl,.int .i64 0,.int .i64 0,.int .i64 0,.int .i64 0,.nilsl,.bool false])),true⟩
theorem A74:A7 Tryz.prog 67=some Aec:=by kernel_rfl
def A16:TI:=⟨1,0,false,.other,(some (.any)),true⟩
theorem A75:A7 Tryz.prog 68=some A16:=by kernel_rfl
def A17:TI:=⟨1,0,false,.other,(some (.any)),true⟩
theorem A76:A7 Tryz.prog 70=some A17:=by kernel_rfl
def A18:TI:=⟨1,8,false,.func,(some (.nilfn)),true⟩
theorem A77:A7 Tryz.prog 73=some A18:=by kernel_rfl
def A19:TI:=⟨1,24,false,(.slice 161),(some (.nilsl)),true⟩
theorem A78:A7 Tryz.prog 76=some A19:=by kernel_rfl
def A2a:TI:=⟨2,32,true,(.struct [(0,76),(1,3)]),(some (.agg [.nilsl,.int .i64 0])),true⟩
theorem A79:A7 Tryz.prog 77=some A2a:=by kernel_rfl
def A2b:TI:=⟨2,32,true,(.struct [(0,76),(1,3)]),(some (.agg [.nilsl,.int .i64 0])),true⟩
theorem A8a:A7 Tryz.prog 78=some A2b:=by kernel_rfl
def A2c:TI:=⟨1,24,false,(.slice 67),(some (.nilsl)),true⟩
theorem A8b:A7 Tryz.prog 79=some A2c:=by kernel_rfl
def A2d:TI:=⟨1,0,false,.other,(some (.any)),true⟩
theorem A8c:A7 Tryz.prog 81=some A2d:=by kernel_rfl
def A2e:TI:=⟨1,0,false,.other,(some (.any)),true⟩
theorem A8d:A7 Tryz.prog 84=some A2e:=by kernel_rfl
def A2f:TI:=⟨1,0,false,.other,(some (.any)),true⟩
theorem A8e:A7 Tryz.prog 90=some A2f:=by kernel_rfl
def A2g:TI:=⟨1,8,false,(.int .i64),(some (.int .i64 0)),true⟩
theorem A8f:A7 Tryz.prog 93=some A2g:=by kernel_rfl
def A2h:TI:=⟨10,80,true,(.struct [(0,3),(1,37),(2,3),(3,93),(4,2),(5,2),(6,2),(7,2),(8,2),(9,2)]),(some (.agg [.int .i64 0,.int .u64 0,.int .i64 0,.int .i64 0,.int .i64 0,.int .i64 0,.int .i64 0,.int .i64 0,.int .i64 0,.int .i64 0])),true⟩
theorem A8g:A7 Tryz.prog 94=some A2h:=by kernel_rfl
def Am9:TI:=⟨10,80,true,(.struct [(0,3),(1,37),(2,3),(3,93),(4,2),(5,2),(6,2),(7,2),(8,2),(9,2)]),(some (.agg [.int .i64 0,.int .u64 0,.int .i64 0,.int .i64 0,.int .i64 0,.int .i64 0,.int .i64 0,.int .i64 0,.int .i64 0,.int .i64 0])),true⟩
theorem A8h:A7 Tryz.prog 95=some Am9:=by kernel_rfl
def A2i:TI:=⟨1,24,false,(.slice 37),(some (.nilsl)),true⟩
theorem A8i:A7 Tryz.prog 98=some A2i:=by kernel_rfl
def Awi:TI:=⟨1,8,false,.func,(some (.nilfn)),true⟩
theorem A2j:A7 Tryz.prog 101=some Awi:=by kernel_rfl
def Awj:TI:=⟨4,32,true,(.struct [(0,3),(1,3),(2,43),(3,43)]),(some (.agg [.int .i64 0,.int .i64 0,.int .i64 0,.int .i64 0])),true⟩
theorem A2k:A7 Tryz.prog 104=some Awj:=by kernel_rfl
def tG:TI:=⟨4,32,true,(.struct [(0,3),(1,3),(2,43),(3,43)]),(some (.agg [.int .i64 0,.int .i64 0,.int .i64 0,.int .i64 0])),true⟩
theorem A2l:A7 Tryz.prog 105=some tG:=by kernel_rfl
def Awk:TI:=⟨1,8,false,.func,(some (.nilfn)),true⟩
theorem A2m:A7 Tryz.prog 107=some Awk:=by kernel_rfl
def Awl:TI:=⟨2,16,true,(.struct [(0,3),(1,2)]),(some (.agg [.int .i64 0,.int .i64 0])),true⟩
theorem A2n:A7 Tryz.prog 112=some Awl:=by kernel_rfl
def eB:TI:=⟨2,16,true,(.struct [(0,3),(1,2)]),(some (.agg [.int .i64 0,.int .i64 0])),true⟩
theorem A2o:A7 Tryz.prog 113=some eB:=by kernel_rfl
def Awm:TI:=⟨1,8,false,.func,(some (.nilfn)),true⟩
theorem A2p:A7 Tryz.prog 114=some Awm:=by kernel_rfl
def Awn:TI:=⟨1,24,false,(.slice 43),(some (.nilsl)),true⟩
theorem A2q:A7 Tryz.prog 115=some Awn:=by kernel_rfl
def Awo:TI:=⟨1,0,false,.other,(some (.any)),true⟩
theorem A2r:A7 Tryz.prog 116=some Awo:=by kernel_rfl
def Awp:TI:=⟨1,8,false,(.map 21 125),(some (.nilmap)),true⟩
theorem A2s:A7 Tryz.prog 120=some Awp:=by kernel_rfl
def Awq:TI:=⟨1,8,false,.func,(some (.nilfn)),true⟩
theorem A2t:A7 Tryz.prog 123=some Awq:=by kernel_rfl
def Awr:TI:=⟨2,16,true,(.struct [(0,58),(1,123)]),(some (.agg [.nilfn,.nilfn])),true⟩
theorem A2u:A7 Tryz.prog 124=some Awr:=by kernel_rfl
def Aws:TI:=⟨2,16,true,(.struct [(0,58),(1,123)]),(some (.agg [.nilfn,.nilfn])),true⟩
theorem A2v:A7 Tryz.prog 125=some Aws:=by kernel_rfl
def Awt:TI:=⟨1,8,false,(.ptr 56),(some (.nilp)),true⟩
theorem A2w:A7 Tryz.prog 130=some Awt:=by kernel_rfl
def Awu:TI:=⟨1,0,false,.other,(some (.any)),true⟩
theorem A2x:A7 Tryz.prog 135=some Awu:=by kernel_rfl
def Awv:TI:=⟨1,0,false,.other,(some (.any)),true⟩
theorem A2y:A7 Tryz.prog 141=some Awv:=by kernel_rfl
def Aww:TI:=⟨1,0,false,.other,(some (.any)),true⟩
theorem A2z:A7 Tryz.prog 143=some Aww:=by kernel_rfl
def Awx:TI:=⟨1,16,true,(.struct [(0,9)]),(some (.agg [.str []])),true⟩
theorem A20:A7 Tryz.prog 147=some Awx:=by kernel_rfl
def Awy:TI:=⟨1,8,false,(.map 4 147),(some (.nilmap)),true⟩
theorem A21:A7 Tryz.prog 148=some Awy:=by kernel_rfl
def Awz:TI:=⟨1,8,false,(.ptr 152),(some (.nilp)),true⟩
theorem A22:A7 Tryz.prog 149=some Awz:=by kernel_rfl
def tH:TI:=⟨1,24,false,(.slice 5),(some (.nilsl)),true⟩
theorem A23:A7 Tryz.prog 150=some tH:=by kernel_rfl
def Aw0:TI:=⟨2,32,true,(.struct [(0,149),(1,150)]),(some (.agg [.nilp,.nilsl])),true⟩
theorem A24:A7 Tryz.prog 151=some Aw0:=by kernel_rfl
def Aw1:TI:=⟨2,32,true,(.struct [(0,149),(1,150)]),(some (.agg [.nilp,.nilsl])),true⟩
theorem A25:A7 Tryz.prog 152=some Aw1:=by kernel_rfl
def Aw2:TI:=⟨1,16,false,.iface,(some (.nilif)),false⟩
theorem A26:A7 Tryz.prog 153=some Aw2:=by kernel_rfl
def Aw3:TI:=⟨1,16,false,.iface,(some (.nilif)),false⟩
theorem A27:A7 Tryz.prog 154=some Aw3:=by kernel_rfl
def Aw4:TI:=⟨1,0,false,.other,(some (.any)),true⟩
theorem A28:A7 Tryz.prog 155=some Aw4:=by kernel_rfl
def Aw5:TI:=⟨1,8,false,.func,(some (.nilfn)),true⟩
theorem A29:A7 Tryz.prog 157=some Aw5:=by kernel_rfl
def Aw6:TI:=⟨3,24,true,(.struct [(0,3),(1,3),(2,3)]),(some (.agg [.int .i64 0,.int .i64 0,.int .i64 0])),true⟩
theorem A3a:A7 Tryz.prog 158=some Aw6:=by kernel_rfl
def Aki:TI:=⟨3,24,true,(.struct [(0,3),(1,3),(2,3)]),(some (.agg [.int .i64 0,.int .i64 0,.int .i64 0])),true⟩
theorem A3b:A7 Tryz.prog 159=some Aki:=by kernel_rfl
def Aw7:TI:=⟨6,48,true,(.struct [(0,159),(3,3),(4,3),(5,3)]),(some (.agg [.int .i64 0,.int .i64 0,.int .i64 0,.int .i64 0,.int .i64 0,.int .i64 0])),true⟩
theorem A3c:A7 Tryz.prog 160=some Aw7:=by kernel_rfl
def Xk:TI:=⟨6,48,true,(.struct [(0,159),(3,3),(4,3),(5,3)]),(some (.agg [.int .i64 0,.int .i64 0,.int .i64 0,.int .i64 0,.int .i64 0,.int .i64 0])),true⟩
theorem A3d:A7 Tryz.prog 161=some Xk:=by kernel_rfl
def Aw8:TI:=⟨1,0,false,.other,(some (.any)),true⟩
theorem A3e:A7 Tryz.prog 163=some Aw8:=by kernel_rfl
def Aw9:TI:=⟨1,0,false,.other,(some (.any)),true⟩
theorem A3f:A7 Tryz.prog 167=some Aw9:=by kernel_rfl
def Axa:TI:=⟨6,48,true,(.arr 6 2),(some (.agg [.int .i64 0,.int .i64 0,.int .i64 0,.int .i64 0,.int .i64 0,.int .i64 0])),true⟩
theorem A3g:A7 Tryz.prog 169=some Axa:=by kernel_rfl
def Axb:TI:=⟨6,48,true,(.arr 6 2),(some (.agg [.int .i64 0,.int .i64 0,.int .i64 0,.int .i64 0,.int .i64 0,.int .i64 0])),true⟩
theorem A3h:A7 Tryz.prog 170=some Axb:=by kernel_rfl
def Axc:TI:=⟨1,24,false,(.slice 2),(some (.nilsl)),true⟩
theorem A3i:A7 Tryz.prog 173=some Axc:=by kernel_rfl
def Axd:TI:=⟨1,8,false,.func,(some (.nilfn)),true⟩
theorem A3j:A7 Tryz.prog 178=some Axd:=by kernel_rfl
def Axe:TI:=⟨1,24,false,(.slice 21),(some (.nilsl)),true⟩
theorem A3k:A7 Tryz.prog 180=some Axe:=by kernel_rfl
def Axf:TI:=⟨1,8,false,.func,(some (.nilfn)),true⟩
theorem A3l:A7 Tryz.prog 182=some Axf:=by kernel_rfl
def Axg:TI:=⟨1,8,false,(.ptr 193),(some (.nilp)),true⟩
theorem A3m:A7 Tryz.prog 187=some Axg:=by kernel_rfl
def Axh:TI:=⟨1,8,false,(.ptr 327),(some (.nilp)),true⟩
theorem A3n:A7 Tryz.prog 188=some Axh:=by kernel_rfl
def Axi:TI:=⟨1,8,false,(.ptr 322),(some (.nilp)),true⟩
theorem A3o:A7 Tryz.prog 189=some Axi:=by kernel_rfl
def Axj:TI:=⟨3,24,true,(.struct [(0,188),(1,189),(2,4)]),(some (.agg [.nilp,.nilp,.bool false])),true⟩
theorem A3p:A7 Tryz.prog 190=some Axj:=by kernel_rfl
def Axk:TI:=⟨3,24,true,(.struct [(0,188),(1,189),(2,4)]),(some (.agg [.nilp,.nilp,.bool false])),true⟩
theorem A3q:A7 Tryz.prog 191=some Axk:=by kernel_rfl
def Axl:TI:=⟨4,32,true,(.struct [(0,191),(3,130)]),(some (.agg [.nilp,.nilp,.bool false,.nilp])),true⟩
theorem A3r:A7 Tryz.prog 192=some Axl:=by kernel_rfl
def Axm:TI:=⟨4,32,true,(.struct [(0,191),(3,130)]),(some (.agg [.nilp,.nilp,.bool false,.nilp])),true⟩
theorem A3s:A7 Tryz.prog 193=some Axm:=by kernel_rfl
def Axn:TI:=⟨1,8,false,(.ptr 9),(some (.nilp)),true⟩
theorem A3t:A7 Tryz.prog 195=some Axn:=by kernel_rfl
def Axo:TI:=⟨1,8,false,.func,(some (.nilfn)),true⟩
theorem A3u:A7 Tryz.prog 196=some Axo:=by kernel_rfl
def tI:TI:=⟨1,8,false,(.ptr 3),(some (.nilp)),true⟩
theorem A3v:A7 Tryz.prog 198=some tI:=by kernel_rfl
def Axp:TI:=⟨1,8,false,.func,(some (.nilfn)),true⟩
theorem A3w:A7 Tryz.prog 199=some Axp:=by kernel_rfl
def Axq:TI:=⟨1,0,false,.other,(some (.any)),true⟩
theorem A3x:A7 Tryz.prog 200=some Axq:=by kernel_rfl
def Axr:TI:=⟨1,0,false,.other,(some (.any)),true⟩
theorem A3y:A7 Tryz.prog 202=some Axr:=by kernel_rfl
def Axs:TI:=⟨1,0,false,.other,(some (.any)),true⟩
theorem A3z:A7 Tryz.prog 204=some Axs:=by kernel_rfl
def Axt:TI:=⟨1,24,false,(.slice 242),(some (.nilsl)),true⟩
theorem A30:A7 Tryz.prog 206=some Axt:=by kernel_rfl
def Axu:TI:=⟨1,0,false,.other,(some (.any)),true⟩
theorem A31:A7 Tryz.prog 207=some Axu:=by kernel_rfl
def Axv:TI:=⟨1,0,false,.other,(some (.any)),true⟩
theorem A32:A7 Tryz.prog 214=some Axv:=by kernel_rfl
def Axw:TI:=⟨1,8,false,(.map 3 220),(some (.nilmap)),true⟩
theorem A33:A7 Tryz.prog 218=some Axw:=by kernel_rfl
def Axx:TI:=⟨1,1,true,(.struct [(0,4)]),(some (.agg [.bool false])),true⟩
theorem A34:A7 Tryz.prog 220=some Axx:=by kernel_rfl
def Axy:TI:=⟨1,8,false,(.ptr 5),(some (.nilp)),true⟩
theorem A35:A7 Tryz.prog 221=some Axy:=by kernel_rfl
def Axz:TI:=⟨1,24,false,(.slice 198),(some (.nilsl)),true⟩
theorem A36:A7 Tryz.prog 222=some Axz:=by kernel_rfl
def Ax0:TI:=⟨1,8,false,(.ptr 191),(some (.nilp)),true⟩
theorem A37:A7 Tryz.prog 225=some Ax0:=by kernel_rfl
def Ax1:TI:=⟨1,8,false,(.ptr 47),(some (.nilp)),true⟩
theorem A38:A7 Tryz.prog 227=some Ax1:=by kernel_rfl
def Ax2:TI:=⟨1,8,false,.func,(some (.nilfn)),true⟩
theorem A39:A7 Tryz.prog 232=some Ax2:=by kernel_rfl
def Ax3:TI:=⟨24,24,true,(.arr 24 5),(some (.agg [.int .u8 0,.int .u8 0,.int .u8 0,.int .u8 0,.int .u8 0,.int .u8 0,.int .u8 0,.int .u8 0,.int .u8 0,.int .u8 0,.int .u8 0,.int .u8 0,.int .u8 0,.int .u8 0,.int .u8 0,.int .u8 0,.int .u8 0,.int .u8 0,.int .u8 0,.int .u8 0,.int .u8 0,.int .u8 0,.int .u8 0,.int .u8 0])),true⟩
theorem A4a:A7 Tryz.prog 233=some Ax3:=by kernel_rfl
def Ax4:TI:=⟨1,0,false,.other,(some (.any)),true⟩
theorem A4b:A7 Tryz.prog 235=some Ax4:=by kernel_rfl
def Ax5:TI:=⟨1,0,false,.other,(some (.any)),true⟩
theorem A4c:A7 Tryz.prog 238=some Ax5:=by kernel_rfl
def tJ:TI:=⟨1,8,false,.func,(some (.nilfn)),true⟩
theorem A4d:A7 Tryz.prog 242=some tJ:=by kernel_rfl
def Ax6:TI:=⟨10,96,true,(.struct [(0,54),(1,9),(2,9),(3,3),(4,3),(5,37),(6,43),(7,2),(8,3),(9,3)]),(some (.agg [.int .i64 0,.str [],.str [],.int .i64 0,.int .i64 0,.int .u64 0,.int .i64 0,.int .i64 0,.int .i64 0,.int .i64 0])),true⟩
theorem A4e:A7 Tryz.prog 243=some Ax6:=by kernel_rfl
def Akj:TI:=⟨10,96,true,(.struct [(0,54),(1,9),(2,9),(3,3),(4,3),(5,37),(6,43),(7,2),(8,3),(9,3)]),(some (.agg [.int .i64 0,.str [],.str [],.int .i64 0,.int .i64 0,.int .u64 0,.int .i64 0,.int .i64 0,.int .i64 0,.int .i64 0])),true⟩
theorem A4f:A7 Tryz.prog 244=some Akj:=by kernel_rfl
def Ax7:TI:=⟨1,8,false,.func,(some (.nilfn)),true⟩
theorem A4g:A7 Tryz.prog 245=some Ax7:=by kernel_rfl
def Ax8:TI:=⟨1,0,false,.other,(some (.any)),true⟩
theorem A4h:A7 Tryz.prog 249=some Ax8:=by kernel_rfl
def Ax9:TI:=⟨1,0,false,.other,(some (.any)),true⟩
theorem A4i:A7 Tryz.prog 251=some Ax9:=by kernel_rfl
def Aya:TI:=⟨1,0,false,.other,(some (.any)),true⟩
theorem A4j:A7 Tryz.prog 253=some Aya:=by kernel_rfl
def Ayb:TI:=⟨1,0,false,.other,(some (.any)),true⟩
theorem A4k:A7 Tryz.prog 255=some Ayb:=by kernel_rfl
def Ayc:TI:=⟨1,8,false,.other,(some (.nilp)),true⟩
theorem A4l:A7 Tryz.prog 264=some Ayc:=by kernel_rfl
def Ayd:TI:=⟨1,8,false,(.ptr 37),(some (.nilp)),true⟩
theorem A4m:A7 Tryz.prog 268=some Ayd:=by kernel_rfl
def Aye:TI:=⟨1,8,false,(.ptr 45),(some (.nilp)),true⟩
theorem A4n:A7 Tryz.prog 272=some Aye:=by kernel_rfl
def Ayf:TI:=⟨1,8,false,(.ptr 43),(some (.nilp)),true⟩
theorem A4o:A7 Tryz.prog 274=some Ayf:=by kernel_rfl
def tP:TI:=⟨1,24,false,(.slice 4),(some (.nilsl)),true⟩
theorem A4p:A7 Tryz.prog 275=some tP:=by kernel_rfl
def Ayg:TI:=⟨20,160,true,(.arr 20 37),(some (.agg [.int .u64 0,.int .u64 0,.int .u64 0,.int .u64 0,.int .u64 0,.int .u64 0,.int .u64 0,.int .u64 0,.int .u64 0,.int .u64 0,.int .u64 0,.int .u64 0,.int .u64 0,.int .u64 0,.int .u64 0,.int .u64 0,.int .u64 0,.int .u64 0,.int .u64 0,.int .u64 0])),true⟩
theorem A4q:A7 Tryz.prog 281=some Ayg:=by kernel_rfl
def Ayh:TI:=⟨1,4,false,(.int .u32),(some (.int .u32 0)),true⟩
theorem A4r:A7 Tryz.prog 282=some Ayh:=by kernel_rfl
def Ayi:TI:=⟨65,65,true,(.arr 65 5),(some (.agg [.int .u8 0,.int .u8 0,.int .u8 0,.int .u8 0,.int .u8 0,.int .u8 0,.int .u8 0,.int .u8 0,.int .u8 0,.int .u8 0,.int .u8 0,.int .u8 0,.int .u8 0,.int .u8 0,.int .u8 0,.int .u8 0,.int .u8 0,.int .u8 0,.int .u8 0,.int .u8 0,.int .u8 0,.int .u8 0,.int .u8 0,.int .u8 0,.int .u8 0,.int .u8 0,.int .u8 0,.int .u8 0,.int .u8 0,.int .u8 0,.int .u8 0,.int .u8 0,.int .u8 0,.int .u8 0,.int .u8 0,.int .u8 0,.int .u8 0,.int .u8 0,.int .u8 0,.int .u8 0,.int .u8 0,.int .u8 0,.int .u8 0,.int .u8 0,.int .u8 0,.int .u8 0,.int .u8 0,.int .u8 0,.int .u8 0,.int .u8 0,.int .u8 0,.int .u8 0,.int .u8 0,.int .u8 0,.int .u8 0,.int .u8 0,.int .u8 0,.int .u8 0,.int .u8 0,.int .u8 0,.int .u8 0,.int .u8 0,.int .u8 0,.int .u8 0,.int .u8 0])),true⟩
theorem A4s:A7 Tryz.prog 283=some Ayi:=by kernel_rfl
def Ayj:TI:=⟨1,8,false,(.int .u64),(some (.int .u64 0)),true⟩
theorem A4t:A7 Tryz.prog 284=some Ayj:=by kernel_rfl
def Ayk:TI:=⟨1,8,false,(.ptr 113),(some (.nilp)),true⟩
theorem A4u:A7 Tryz.prog 290=some Ayk:=by kernel_rfl
def Ayl:TI:=⟨1,8,false,(.ptr 2),(some (.nilp)),true⟩
theorem A4v:A7 Tryz.prog 292=some Ayl:=by kernel_rfl
def Aym:TI:=⟨1,0,false,.other,(some (.any)),true⟩
theorem A4w:A7 Tryz.prog 293=some Aym:=by kernel_rfl
def Ayn:TI:=⟨1,8,false,(.int .i64),(some (.int .i64 0)),true⟩
theorem A4x:A7 Tryz.prog 296=some Ayn:=by kernel_rfl
def Ayo:TI:=⟨1,0,false,.other,(some (.any)),true⟩
theorem A4y:A7 Tryz.prog 297=some Ayo:=by kernel_rfl
def Ayp:TI:=⟨1,8,false,(.ptr 316),(some (.nilp)),true⟩
theorem A4z:A7 Tryz.prog 299=some Ayp:=by kernel_rfl
def Ayq:TI:=⟨1,24,false,(.slice 275),(some (.nilsl)),true⟩
theorem A40:A7 Tryz.prog 306=some Ayq:=by kernel_rfl
def Ayr:TI:=⟨1,0,false,.other,(some (.any)),true⟩
theorem A41:A7 Tryz.prog 310=some Ayr:=by kernel_rfl
def Ays:TI:=⟨1,0,false,.other,(some (.any)),true⟩
theorem A42:A7 Tryz.prog 312=some Ays:=by kernel_rfl
def Ayt:TI:=⟨3,48,true,(.struct [(0,9),(1,9),(2,154)]),(some (.agg [.str [],.str [],.nilif])),false⟩
theorem A43:A7 Tryz.prog 315=some Ayt:=by kernel_rfl
def Ayu:TI:=⟨3,48,true,(.struct [(0,9),(1,9),(2,154)]),(some (.agg [.str [],.str [],.nilif])),false⟩
theorem A44:A7 Tryz.prog 316=some Ayu:=by kernel_rfl
def Ayv:TI:=⟨8,8,true,(.arr 8 5),(some (.agg [.int .u8 0,.int .u8 0,.int .u8 0,.int .u8 0,.int .u8 0,.int .u8 0,.int .u8 0,.int .u8 0])),true⟩
theorem A45:A7 Tryz.prog 318=some Ayv:=by kernel_rfl
def Ayw:TI:=⟨3,40,true,(.struct [(0,150),(1,3),(2,4)]),(some (.agg [.nilsl,.int .i64 0,.bool false])),true⟩
theorem A46:A7 Tryz.prog 321=some Ayw:=by kernel_rfl
def Ayx:TI:=⟨3,40,true,(.struct [(0,150),(1,3),(2,4)]),(some (.agg [.nilsl,.int .i64 0,.bool false])),true⟩
theorem A47:A7 Tryz.prog 322=some Ayx:=by kernel_rfl
def Ayy:TI:=⟨32,32,true,(.arr 32 5),(some (.agg [.int .u8 0,.int .u8 0,.int .u8 0,.int .u8 0,.int .u8 0,.int .u8 0,.int .u8 0,.int .u8 0,.int .u8 0,.int .u8 0,.int .u8 0,.int .u8 0,.int .u8 0,.int .u8 0,.int .u8 0,.int .u8 0,.int .u8 0,.int .u8 0,.int .u8 0,.int .u8 0,.int .u8 0,.int .u8 0,.int .u8 0,.int .u8 0,.int .u8 0,.int .u8 0,.int .u8 0,.int .u8 0,.int .u8 0,.int .u8 0,.int .u8 0,.int .u8 0])),true⟩
theorem A48:A7 Tryz.prog 323=some Ayy:=by kernel_rfl
def Ayz:TI:=⟨64,64,true,(.arr 64 5),(some (.agg [.int .u8 0,.int .u8 0,.int .u8 0,.int .u8 0,.int .u8 0,.int .u8 0,.int .u8 0,.int .u8 0,.int .u8 0,.int .u8 0,.int .u8 0,.int .u8 0,.int .u8 0,.int .u8 0,.int .u8 0,.int .u8 0,.int .u8 0,.int .u8 0,.int .u8 0,.int .u8 0,.int .u8 0,.int .u8 0,.int .u8 0,.int .u8 0,.int .u8 0,.int .u8 0,.int .u8 0,.int .u8 0,.int .u8 0,.int .u8 0,.int .u8 0,.int .u8 0,.int .u8 0,.int .u8 0,.int .u8 0,.int .u8 0,.int .u8 0,.int .u8 0,.int .u8 0,.int .u8 0,.int .u8 0,.int .u8 0,.int .u8 0,.int .u8 0,.int .u8 0,.int .u8 0,.int .u8 0,.int .u8 0,.int .u8 0,.int .u8 0,.int .u8 0,.int .u8 0,.int .u8 0,.int .u8 0,.int .u8 0,.int .u8 0,.int .u8 0,.int .u8 0,.int .u8 0,.int .u8 0,.int .u8 0,.int .u8 0,.int .u8 0,.int .u8 0])),true⟩
theorem A49:A7 Tryz.prog 324=some Ayz:=by kernel_rfl
def Ay0:TI:=⟨1,24,false,(.slice 150),(some (.nilsl)),true⟩
theorem A5a:A7 Tryz.prog 325=some Ay0:=by kernel_rfl
def Ay1:TI:=⟨3,40,true,(.struct [(0,325),(1,3),(2,4)]),(some (.agg [.nilsl,.int .i64 0,.bool false])),true⟩
theorem A5b:A7 Tryz.prog 326=some Ay1:=by kernel_rfl
def Ay2:TI:=⟨3,40,true,(.struct [(0,325),(1,3),(2,4)]),(some (.agg [.nilsl,.int .i64 0,.bool false])),true⟩
theorem A5c:A7 Tryz.prog 327=some Ay2:=by kernel_rfl
def Ay3:TI:=⟨256,256,true,(.arr 256 5),(some (.agg [.int .u8 0,.int .u8 0,.int .u8 0,.int .u8 0,.int .u8 0,.int .u8 0,.int .u8 0,.int .u8 0,.int .u8 0,.int .u8 0,.int .u8 0,.int .u8 0,.int .u8 0,.int .u8 0,.int .u8 0,.int .u8 0,.int .u8 0,.int .u8 0,.int .u8 0,.int .u8 0,.int .u8 0,.int .u8 0,.int .u8 0,.int .u8 0,.int .u8 0,.int .u8 0,.int .u8 0,.int .u8 0,.int .u8 0,.int .u8 0,.int .u8 0,.int .u8 0,.int .u8 0,.int .u8 0,.int .u8 0,.int .u8 0,.int .u8 0,.int .u8 0,.int .u8 0,.int .u8 0,.int .u8 0,.int .u8 0,.int .u8 0,.int .u8 0,.int .u8 0,.int .u8 0,.int .u8 0,.int .u8 0,.int .u8 0,.int .u8 0,.int .u8 0,.int .u8 0,.int .u8 0,.int .u8 0,.int .u8 0,.int .u8 0,.int .u8 0,.int .u8 0,.int .u8 0,.int .u8 0,.int .u8 0,.int .u8 0,.int .u8 0,.int .u8 0,.int .u8 0,.int .u8 0,.int .u8 0,.int .u8 0,.int .u8 0,.int .u8 0,.int .u8 0,.int .u8 0,.int .u8 0,.int .u8 0,.int .u8 0,.int .u8 0,.int .u8 0,.int .u8 0,.int .u8 0,.int .u8 0,.int .u8 0,.int .u8 0,.int .u8 0,.int .u8 0,.int .u8 0,.int .u8 0,.int .u8 0,.int .u8 0,.int .u8 0,.int .u8 0,.int .u8 0,.int .u8 0,.int .u8 0,.int .u8 0,.int .u8 0,.int .u8 0,.int .u8 0,.int .u8 0,.int .u8 0,.int .u8 0,.int .u8 0,.int .u8 0,.int .u8 0,.int .u8 0,.int .u8 0,.int .u8 0,.int .u8 0,.int .u8 0,.int .u8 0,.int .u8 0,.int .u8 0,.int .u8 0,.int .u8 0,.int .u8 0,.int .u8 0,.int .u8 0,.int .u8 0,.int .u8 0,.int .u8 0,.int .u8 0,.int .u8 0,.int .u8 0,.int .u8 0,.int .u8 0,.int .u8 0,.int .u8 0,.int .u8 0,.int .u8 0,.int .u8 0,.int .u8 0,.int .u8 0,.int .u8 0,.int .u8 0,.int .u8 0,.int .u8 0,.int .u8 0,.int .u8 0,.int .u8 0,.int .u8 0,.int .u8 0,.int .u8 0,.int .u8 0,.int .u8 0,.int .u8 0,.int .u8 0,.int .u8 0,.int .u8 0,.int .u8 0,.int .u8 0,.int .u8 0,.int .u8 0,.int .u8 0,.int .u8 0,.int .u8 0,.int .u8 0,.int .u8 0,.int .u8 0,.int .u8 0,.int .u8 0,.int .u8 0,.int .u8 0,.int .u8 0,.int .u8 0,.int .u8 0,.int .u8 0,.int .u8 0,.int .u8 0,.int .u8 0,.int .u8 0,.int .u8 0,.int .u8 0,.int .u8 0,.int .u8 0,.int .u8 0,.int .u8 0,.int .u8 0,.int .u8 0,.int .u8 0,.int .u8 0,.int .u8 0,.int .u8 0,.int .u8 0,.int .u8 0,.int .u8 0,.int .u8 0,.int .u8 0,.int .u8 0,.int .u8 0,.int .u8 0,.int .u8 0,.int .u8 0,.int .u8 0,.int .u8 0,.int .u8 0,.int .u8 0,.int .u8 0,.int .u8 0,.int .u8 0,.int .u8 0,.int .u8 0,.int .u8 0,.int .u8 0,.int .u8 0,.int .u8 0,.int .u8 0,.int .u8 0,.int .u8 0,.int .u8 0,.int .u8 0,.int .u8 0,.int .u8 0,.int .u8 0,.int .u8 0,.int .u8 0,.int .u8 0,.int .u8 0,.int .u8 0,.int .u8 0,.int .u8 0,.int .u8 0,.int .u8 0,.int .u8 0,.int .u8 0,.int .u8 0,.int .u8 0,.int .u8 0,.int .u8 0,.int .u8 0,.int .u8 0,.int .u8 0,.int .u8 0,.int .u8 0,.int .u8 0,.int .u8 0,.int .u8 0,.int .u8 0,.int .u8 0,.int .u8 0,.int .u8 0,.int .u8 0,.int .u8 0,.int .u8 0,.int .u8 0,.int .u8 0,.int .u8 0,.int .u8 0,.int .u8 0,.int .u8 0,.int .u8 0,.int .u8 0,.int .u8 0,.int .u8 0,.int .u8 0,.int .u8 0,.int .u8 0,.int .u8 0])),true⟩
theorem A5d:A7 Tryz.prog 330=some Ay3:=by kernel_rfl
def Ay4:TI:=⟨2,2,true,(.struct [(0,5),(1,5)]),(some (.agg [.int .u8 0,.int .u8 0])),true⟩
theorem A5e:A7 Tryz.prog 331=some Ay4:=by kernel_rfl
def Ay5:TI:=⟨2,2,true,(.struct [(0,5),(1,5)]),(some (.agg [.int .u8 0,.int .u8 0])),true⟩
theorem A5f:A7 Tryz.prog 332=some Ay5:=by kernel_rfl
def Ay6:TI:=⟨32,32,true,(.arr 16 332),(some (.agg [.int .u8 0,.int .u8 0,.int .u8 0,.int .u8 0,.int .u8 0,.int .u8 0,.int .u8 0,.int .u8 0,.int .u8 0,.int .u8 0,.int .u8 0,.int .u8 0,.int .u8 0,.int .u8 0,.int .u8 0,.int .u8 0,.int .u8 0,.int .u8 0,.int .u8 0,.int .u8 0,.int .u8 0,.int .u8 0,.int .u8 0,.int .u8 0,.int .u8 0,.int .u8 0,.int .u8 0,.int .u8 0,.int .u8 0,.int .u8 0,.int .u8 0,.int .u8 0])),true⟩
theorem A5g:A7 Tryz.prog 333=some Ay6:=by kernel_rfl
def Ay7:TI:=⟨1,8,false,(.ptr 337),(some (.nilp)),true⟩
theorem A5h:A7 Tryz.prog 335=some Ay7:=by kernel_rfl
def Ay8:TI:=⟨1,16,true,(.struct [(0,9)]),(some (.agg [.str []])),true⟩
theorem A5i:A7 Tryz.prog 336=some Ay8:=by kernel_rfl
def Ay9:TI:=⟨1,16,true,(.struct [(0,9)]),(some (.agg [.str []])),true⟩
theorem A5j:A7 Tryz.prog 337=some Ay9:=by kernel_rfl
def A5k:TT:=(.node 159 (.node 70 (.node 40 (.node 24 (.node 9 (.node 3 (.node 2 (.leaf 0 (some ty0)) (.leaf 2 (some ty2))) (.node 4 (.leaf 3 (some ty3)) (.node 5 (.leaf 4 (some ty4)) (.leaf 5 (some ty5))))) (.node 21 (.node 20 (.leaf 9 (some ty9)) (.leaf 20 (some A1h))) (.node 22 (.leaf 21 (some Am6)) (.node 23 (.leaf 22 (some A1i)) (.leaf 23 (some A1j)))))) (.node 29 (.node 26 (.node 25 (.leaf 24 (some A1k)) (.leaf 25 (some A1l))) (.node 27 (.leaf 26 (some A1m)) (.node 28 (.leaf 27 (some A1n)) (.leaf 28 (some A1o))))) (.node 37 (.node 32 (.leaf 29 (some A1p)) (.leaf 32 (some A1q))) (.node 38 (.leaf 37 (some rL)) (.node 39 (.leaf 38 (some A1r)) (.leaf 39 (some A1s))))))) (.node 55 (.node 45 (.node 42 (.node 41 (.leaf 40 (some A1t)) (.leaf 41 (some A1u))) (.node 43 (.leaf 42 (some Am7)) (.node 44 (.leaf 43 (some rM)) (.leaf 44 (some A1v))))) (.node 47 (.node 46 (.leaf 45 (some Aeb)) (.leaf 46 (some A1w))) (.node 52 (.leaf 47 (some Am8)) (.node 54 (.leaf 52 (some A1x)) (.leaf 54 (some Aty)))))) (.node 64 (.node 58 (.node 56 (.leaf 55 (some A1y)) (.leaf 56 (some A1z))) (.node 59 (.leaf 58 (some A10)) (.node 62 (.leaf 59 (some A11)) (.leaf 62 (some A12))))) (.node 66 (.node 65 (.leaf 64 (some A13)) (.leaf 65 (some A14))) (.node 67 (.leaf 66 (some A15)) (.node 68 (.leaf 67 (some Aec)) (.leaf 68 (some A16)))))))) (.node 115 (.node 94 (.node 79 (.node 76 (.node 73 (.leaf 70 (some A17)) (.leaf 73 (some A18))) (.node 77 (.leaf 76 (some A19)) (.node 78 (.leaf 77 (some A2a)) (.leaf 78 (some A2b))))) (.node 84 (.node 81 (.leaf 79 (some A2c)) (.leaf 81 (some A2d))) (.node 90 (.leaf 84 (some A2e)) (.node 93 (.leaf 90 (some A2f)) (.leaf 93 (some A2g)))))) (.node 105 (.node 98 (.node 95 (.leaf 94 (some A2h)) (.leaf 95 (some Am9))) (.node 101 (.leaf 98 (some A2i)) (.node 104 (.leaf 101 (some Awi)) (.leaf 104 (some Awj))))) (.node 112 (.node 107 (.leaf 105 (some tG)) (.leaf 107 (some Awk))) (.node 113 (.leaf 112 (some Awl)) (.node 114 (.leaf 113 (some eB)) (.leaf 114 (some Awm))))))) (.node 147 (.node 125 (.node 120 (.node 116 (.leaf 115 (some Awn)) (.leaf 116 (some Awo))) (.node 123 (.leaf 120 (some Awp)) (.node 124 (.leaf 123 (some Awq)) (.leaf 124 (some Awr))))) (.node 135 (.node 130 (.leaf 125 (some Aws)) (.leaf 130 (some Awt))) (.node 141 (.leaf 135 (some Awu)) (.node 143 (.leaf 141 (some Awv)) (.leaf 143 (some Aww)))))) (.node 152 (.node 149 (.node 148 (.leaf 147 (some Awx)) (.leaf 148 (some Awy))) (.node 150 (.leaf 149 (some Awz)) (.node 151 (.leaf 150 (some tH)) (.leaf 151 (some Aw0))))) (.node 155 (.node 153 (.leaf 152 (some Aw1)) (.node 154 (.leaf 153 (some Aw2)) (.leaf 154 (some Aw3)))) (.node 157 (.leaf 155 (some Aw4)) (.node 158 (.leaf 157 (some Aw5)) (.leaf 158 (some Aw6))))))))) (.node 244 (.node 198 (.node 182 (.node 169 (.node 161 (.node 160 (.leaf 159 (some Aki)) (.leaf 160 (some Aw7))) (.node 163 (.leaf 161 (some Xk)) (.node 167 (.leaf 163 (some Aw8)) (.leaf 167 (some Aw9))))) (.node 173 (.node 170 (.leaf 169 (some Axa)) (.leaf 170 (some Axb))) (.node 178 (.leaf 173 (some Axc)) (.node 180 (.leaf 178 (some Axd)) (.leaf 180 (some Axe)))))) (.node 191 (.node 188 (.node 187 (.leaf 182 (some Axf)) (.leaf 187 (some Axg))) (.node 189 (.leaf 188 (some Axh)) (.node 190 (.leaf 189 (some Axi)) (.leaf 190 (some Axj))))) (.node 193 (.node 192 (.leaf 191 (some Axk)) (.leaf 192 (some Axl))) (.node 195 (.leaf 193 (some Axm)) (.node 196 (.leaf 195 (some Axn)) (.leaf 196 (some Axo))))))) (.node 221 (.node 206 (.node 200 (.node 199 (.leaf 198 (some tI)) (.leaf 199 (some Axp))) (.node 202 (.leaf 200 (some Axq)) (.node 204 (.leaf 202 (some Axr)) (.leaf 204 (some Axs))))) (.node 214 (.node 207 (.leaf 206 (some Axt)) (.leaf 207 (some Axu))) (.node 218 (.leaf 214 (some Axv)) (.node 220 (.leaf 218 (some Axw)) (.leaf 220 (some Axx)))))) (.node 233 (.node 225 (.node 222 (.leaf 221 (some Axy)) (.leaf 222 (some Axz))) (.node 227 (.leaf 225 (some Ax0)) (.node 232 (.leaf 227 (some Ax1)) (.leaf 232 (some Ax2))))) (.node 238 (.node 235 (.leaf 233 (some Ax3)) (.leaf 235 (some Ax4))) (.node 242 (.leaf 238 (some Ax5)) (.node 243 (.leaf 242 (some tJ)) (.leaf 243 (some Ax6)))))))) (.node 299 (.node 275 (.node 255 (.node 249 (.node 245 (.leaf 244 (some Akj)) (.leaf 245 (some Ax7))) (.node 251 (.leaf 249 (some Ax8)) (.node 253 (.leaf 251 (some Ax9)) (.leaf 253 (some Aya))))) (.node 268 (.node 264 (.leaf 255 (some Ayb)) (.leaf 264 (some Ayc))) (.node 272 (.leaf 268 (some Ayd)) (.node 274 (.leaf 272 (some Aye)) (.leaf 274 (some Ayf)))))) (.node 290 (.node 282 (.node 281 (.leaf 275 (some tP)) (.leaf 281 (some Ayg))) (.node 283 (.leaf 282 (some Ayh)) (.node 284 (.leaf 283 (some Ayi)) (.leaf 284 (some Ayj))))) (.node 293 (.node 292 (.leaf 290 (some Ayk)) (.leaf 292 (some Ayl))) (.node 296 (.leaf 293 (some Aym)) (.node 297 (.leaf 296 (some Ayn)) (.leaf 297 (some Ayo))))))) (.node 324 (.node 316 (.node 310 (.node 306 (.leaf 299 (some Ayp)) (.leaf 306 (some Ayq))) (.node 312 (.leaf 310 (some Ayr)) (.node 315 (.leaf 312 (some Ays)) (.leaf 315 (some Ayt))))) (.node 321 (.node 318 (.leaf 316 (some Ayu)) (.leaf 318 (some Ayv))) (.node 322 (.leaf 321 (some Ayw)) (.node 323 (.leaf 322 (some Ayx)) (.leaf 323 (some Ayy)))))) (.node 331 (.node 326 (.node 325 (.leaf 324 (some Ayz)) (.leaf 325 (some Ay0))) (.node 327 (.leaf 326 (some Ay1)) (.node 330 (.leaf 327 (some Ay2)) (.leaf 330 (some Ay3))))) (.node 335 (.node 332 (.leaf 331 (some Ay4)) (.node 333 (.leaf 332 (some Ay5)) (.leaf 333 (some Ay6)))) (.node 336 (.leaf 335 (some Ay7)) (.node 337 (.leaf 336 (some Ay8)) (.leaf 337 (some Ay9))))))))))
def TY:TypeId→Option TI:=A5k.look
theorem Ao:TyOk Tryz.prog TY:=TT.ok (t:=A5k) ⟨⟨⟨⟨⟨⟨⟨ok0,ok2⟩,⟨ok3,⟨ok4,ok5⟩⟩⟩,⟨⟨ok9,A68⟩,⟨A69,⟨A7a,A7b⟩⟩⟩⟩,⟨⟨⟨A7c,A7d⟩,⟨A7e,⟨A7f,A7g⟩⟩⟩,⟨⟨A7h,A7i⟩,⟨A7j,⟨A7k,A7l⟩⟩⟩⟩⟩,⟨⟨⟨⟨A7m,A7n⟩,⟨A7o,⟨A7p,A7q⟩⟩⟩,⟨⟨A7r,A7s⟩,⟨A7t,⟨A7u,A7v⟩⟩⟩⟩,⟨⟨⟨A7w,A7x⟩,⟨A7y,⟨A7z,A70⟩⟩⟩,⟨⟨A71,A72⟩,⟨A73,⟨A74,A75⟩⟩⟩⟩⟩⟩,⟨⟨⟨⟨⟨A76,A77⟩,⟨A78,⟨A79,A8a⟩⟩⟩,⟨⟨A8b,A8c⟩,⟨A8d,⟨A8e,A8f⟩⟩⟩⟩,⟨⟨⟨A8g,A8h⟩,⟨A8i,⟨A2j,A2k⟩⟩⟩,⟨⟨A2l,A2m⟩,⟨A2n,⟨A2o,A2p⟩⟩⟩⟩⟩,⟨⟨⟨⟨A2q,A2r⟩,⟨A2s,⟨A2t,A2u⟩⟩⟩,⟨⟨A2v,A2w⟩,⟨A2x,⟨A2y,A2z⟩⟩⟩⟩,⟨⟨⟨A20,A21⟩,⟨A22,⟨A23,A24⟩⟩⟩,⟨⟨A25,⟨A26,A27⟩⟩,⟨A28,⟨A29,A3a⟩⟩⟩⟩⟩⟩⟩,⟨⟨⟨⟨⟨⟨A3b,A3c⟩,⟨A3d,⟨A3e,A3f⟩⟩⟩,⟨⟨A3g,A3h⟩,⟨A3i,⟨A3j,A3k⟩⟩⟩⟩,⟨⟨⟨A3l,A3m⟩,⟨A3n,⟨A3o,A3p⟩⟩⟩,⟨⟨A3q,A3r⟩,⟨A3s,⟨A3t,A3u⟩⟩⟩⟩⟩,⟨⟨⟨⟨A3v,A3w⟩,⟨A3x,⟨A3y,A3z⟩⟩⟩,⟨⟨A30,A31⟩,⟨A32,⟨A33,A34⟩⟩⟩⟩,⟨⟨⟨A35,A36⟩,⟨A37,⟨A38,A39⟩⟩⟩,⟨⟨A4a,A4b⟩,⟨A4c,⟨A4d,A4e⟩⟩⟩⟩⟩⟩,⟨⟨⟨⟨⟨A4f,A4g⟩,⟨A4h,⟨A4i,A4j⟩⟩⟩,⟨⟨A4k,A4l⟩,⟨A4m,⟨A4n,A4o⟩⟩⟩⟩,⟨⟨⟨A4p,A4q⟩,⟨A4r,⟨A4s,A4t⟩⟩⟩,⟨⟨A4u,A4v⟩,⟨A4w,⟨A4x,A4y⟩⟩⟩⟩⟩,⟨⟨⟨⟨A4z,A40⟩,⟨A41,⟨A42,A43⟩⟩⟩,⟨⟨A44,A45⟩,⟨A46,⟨A47,A48⟩⟩⟩⟩,⟨⟨⟨A49,A5a⟩,⟨A5b,⟨A5c,A5d⟩⟩⟩,⟨⟨A5e,⟨A5f,A5g⟩⟩,⟨A5h,⟨A5i,A5j⟩⟩⟩⟩⟩⟩⟩⟩
end Go.Vc.Z
namespace Go.Vc.Z
open Go Go.Vc Go.Proofs
theorem Aw{k:IntKind}{n:Int}:inK k n↔Go.Vc.lo k≤n∧n≤Go.Vc.hi k:=Iff.rfl
theorem tK{p:Prop}(h:p:=by(simp only[Aw,Go.Vc.lo,Go.Vc.hi];omega)):p:=h
abbrev slE{α:Type}[Inhabited α](sz:Nat)(enc:α→List AV)(l:List α):AV:=.sl false sz l.length (fun e=>enc (l.getD e default))
structure Coupon where
 flight:Int
 day:Int
 value:Int
 status:Int
 holder:Int
 next:Int
deriving Inhabited
abbrev Coupon.enc(c:Coupon):List AV:=[.int .i64 c.flight,.int .i64 c.day,.int .i64 c.value,.int .i64 c.status,.int .i64 c.holder,.int .u64 c.next]
structure Tax where
 code:Int
 amount:Int
deriving Inhabited
abbrev Tax.enc(c:Tax):List AV:=[.int .i64 c.code,.int .i64 c.amount]
structure Event where
 day:Int
 coupon:Int
 src:Int
 dst:Int
deriving Inhabited
abbrev Event.enc(c:Event):List AV:=[.int .i64 c.day,.int .i64 c.coupon,.int .i64 c.src,.int .i64 c.dst]
structure Ticket where
 number:Int
 locator:List UInt8
 issued:Int
 coupons:List Coupon
 taxes:List Tax
 prev:Int
 origin:Int
 first:Int
 voucher:Int
 posts:Int
 history:List Event
deriving Inhabited
abbrev Ticket.enc(t:Ticket):List AV:=[.int .u64 t.number,.str t.locator,.int .i64 t.issued,slE 6 Coupon.enc t.coupons,slE 2 Tax.enc t.taxes,.int .u64 t.prev,.int .u64 t.origin,.int .u64 t.first,.int .i64 t.voucher,.int .i64 t.posts,slE 4 Event.enc t.history]
structure Posting where
 day:Int
 ticket:Int
 seq:Int
 kind:Int
 cash:Int
 liability:Int
 revenue:Int
 tax:Int
 penalty:Int
 voucher:Int
deriving Inhabited
abbrev Posting.enc(p:Posting):List AV:=[.int .i64 p.day,.int .u64 p.ticket,.int .i64 p.seq,.int .i64 p.kind,.int .i64 p.cash,.int .i64 p.liability,.int .i64 p.revenue,.int .i64 p.tax,.int .i64 p.penalty,.int .i64 p.voucher]
structure Loan where
 ticket:Int
 coupon:Int
 held:Bool
 what:Coupon
deriving Inhabited
abbrev Loan.enc(l:Loan):List AV:=[.int .u64 l.ticket,.int .i64 l.coupon,.bool l.held,.int .i64 l.what.flight,.int .i64 l.what.day,.int .i64 l.what.value,.int .i64 l.what.status,.int .i64 l.what.holder,.int .u64 l.what.next]
structure Answer where
 code:Int
 tickets:List Ticket
 postings:List Posting
 loans:List Loan
deriving Inhabited
abbrev Answer.enc(a:Answer):List AV:=[.int .i64 a.code,slE 11 Ticket.enc a.tickets,slE 10 Posting.enc a.postings,slE 9 Loan.enc a.loans]
structure Told where
 answer:Answer
 code:Int
 came:Int
deriving Inhabited
abbrev Told.enc(t:Told):List AV:=t.answer.enc++[.int .i64 t.code,.int .i64 t.came]
end Go.Vc.Z
namespace Go.Vc
open Go
theorem Ana{a b:Nat}:Nat.ble a b=false↔b<a:=by
 rw[←Bool.not_eq_true,Nat.ble_eq];omega
theorem Apq{a b:Nat}:Nat.ble a b=true↔a≤b:=by rw[Nat.ble_eq]
theorem Apr{a b:Nat}:Nat.beq a b=true↔a=b:=by rw[Nat.beq_eq]
theorem Anb{a b:Nat}:Nat.beq a b=false↔ ¬a=b:=by rw[←Bool.not_eq_true,Nat.beq_eq]
theorem bytesOf_length(n:Nat)(g:Nat→List AV):(bytesOf n g).length=n:=by simp[bytesOf]
noncomputable def sI:Int→Int:=Classical.choose (⟨id,rfl⟩:∃ f:Int→Int,f=id)
theorem De(n:Int):sI n=n:=congrFun (Classical.choose_spec (⟨id,rfl⟩:∃ f:Int→Int,f=id)) n
noncomputable def sB:Bool→Bool:=Classical.choose (⟨id,rfl⟩:∃ f:Bool→Bool,f=id)
theorem Bt(n:Bool):sB n=n:=congrFun (Classical.choose_spec (⟨id,rfl⟩:∃ f:Bool→Bool,f=id)) n
noncomputable def sS:List UInt8→List UInt8:=Classical.choose (⟨id,rfl⟩:∃ f:List UInt8→List UInt8,f=id)
theorem Cn(n:List UInt8):sS n=n:=congrFun (Classical.choose_spec (⟨id,rfl⟩:∃ f:List UInt8→List UInt8,f=id)) n
noncomputable def sN:Nat→Nat:=Classical.choose (⟨id,rfl⟩:∃ f:Nat→Nat,f=id)
theorem Aps(n:Nat):sN n=n:=congrFun (Classical.choose_spec (⟨id,rfl⟩:∃ f:Nat→Nat,f=id)) n
noncomputable def sL:List (List UInt8)→List (List UInt8):=Classical.choose (⟨id,rfl⟩:∃ f:List (List UInt8)→List (List UInt8),f=id)
theorem Ck(n:List (List UInt8)):sL n=n:=congrFun (Classical.choose_spec (⟨id,rfl⟩:∃ f:List (List UInt8)→List (List UInt8),f=id)) n
def PC.fun(f:List AV→Option (Prop × AV)):PC:={
 T cs Q:=match f cs with|some (p,r)=>p∧Q r|none=>False
 det cs N h:=by
  cases hf:f cs with
  |none=>rw[hf] at h;exact h.elim
  |some pr=>obtain⟨p,r⟩:=pr;rw[hf] at h;exact⟨r,h.2,h.1,rfl⟩ }
theorem Au{F:Nat→Obj→Prop}{P:Program}{TY:TypeId→Option TI}{C:FuncId→Option Ctr}{D:PT}{wr:Tmp→Bool}
  (hm:P.follows .mixedOrders=true) (hTY:TyOk P TY) (hD:Cb F P D) (hC:Ad F P C) {f:FuncId} {fn:Func} (hf:P.funcs[f]? =some fn) {g:List AV→Option (Prop × AV)} (L:List AV→Nat→Option LR)
  (h:∀ cs p r,g cs=some (p,r)→Az cs→p→fnE TY C D wr (L cs) fn cs [] (fun c H'=>A0e H' c (isA r))):GoodP F P f (PC.fun g):=by
 refine Ab4 (wr:=wr) hm hTY hD hC hf L fun cs Q hfl hT=>?_;simp only[PC.fun] at hT;cases hg:g cs with
 |none=>rw[hg] at hT;exact hT.elim
 |some pr=>obtain⟨p,r⟩:=pr;rw[hg] at hT;exact⟨r,hT.2,h cs p r hg hfl hT.1⟩
theorem As{F:Nat→Obj→Prop}{P:Program}{TY:TypeId→Option TI}{D:PT}{wr:Tmp→Bool}{α:Type}{C:α→FuncId→Option Ctr}{args:α→List AV}{pre:α→Prop}{res:α→AV}(hm:P.follows .mixedOrders=true)(hTY:TyOk P TY)(hD:Cb F P D)(hC:∀ x,Ad F P (C x)){f:FuncId}{fn:Func}(hf:P.funcs[f]? =some fn)(L:α→Nat→Option LR)
  (hu:∀ x,Fa 0 (args x)=true)
  (h:∀ x,Az (args x)→pre x→fnE TY (C x) D wr (L x) fn (args x) [] (fun c H'=>A0e H' c (isA (res x)))):GoodP F P f (PC.of args pre res):=by
 intro S w cs vs Q hs hv hpre;obtain⟨x,h1,h2,h3⟩:=hpre;have hl:=Kv h2;have hv':VL (fun _=>none) S w (args x) vs:=by
  refine⟨by rw[←hl];exact hv.1,fun i c v hc hv'=>?_⟩
  have hi:i<cs.length:=by
   rcases Nat.lt_or_ge i (args x).length with h'|h'
   ·omega
   ·rw[List.getElem?_eq_none h'] at hc;cases hc
  exact(hv.2 i cs[i] v (List.getElem?_eq_getElem hi) hv').le (σ:=fun i=>i) (n:=0) (fun i b hi=>by omega) (Sa h2 i _ _ (List.getElem?_eq_getElem hi) hc) (Dh (hu x) i c hc)
 have hH:HRel (fun _=>none) S w []:=⟨fun i j bi bj b hi=>by simp at hi,fun i b hi=>by simp at hi,fun i b hi=>by cases hi⟩
 refine(V5 hm hTY hD (hC x) hf hs hH hv' (h x hv'.fact h1)).mono ?_;rintro e w' ⟨v,c,H',ρ',S',rfl,h1,h2,h3',h4,h5⟩;obtain⟨c',ids,h6,h7,h8⟩:=bW h3' h1 h2;unfold isA at h6;split at h6
 ·rename_i hu;refine⟨v,res x,Ug ρ' S' ids,rfl,h3,h7.le (σ:=fun i=>i) (n:=0) (fun i b hi=>by omega) h6 hu,⟨fun _ _ h=>(by cases h),fun b hb=>.inl (h4.st b hb),h4.same,h4.size,h4.shp,fun _ _ h=>(by cases h),fun b hb=>?_,h4.os,h4.tape,h4.output⟩,Zj h3' h5 ids⟩
  rcases hb with hb|⟨i,_,hb⟩
  ·rcases h4.stf b hb with h9|⟨j,h9⟩|h9
   ·exact .inl h9
   ·cases h9
   ·exact .inr (.inr h9)
  ·rcases h4.fresh i b hb with ⟨j,h9⟩|h9
   ·cases h9
   ·exact .inr (.inr h9)
 ·exact h6.elim
def Aed(TY:TypeId→Option TI)(C:FuncId→Option Ctr)(D:PT)(wr:Tmp→Bool)(L:List AV→List Blk→Nat→Option LR)(fn:Func):Ctr:=fun cs H Q=>∃ Q0:AV→List Blk→Prop,fnE TY C D wr (L cs H) fn cs H Q0∧∀ c H',Q0 c H'→Q c H'
noncomputable def Wt:(TypeId→Option TI)→(FuncId→Option Ctr)→PT→(Tmp→Bool)→(List AV→List Blk→Nat→Option LR)→Func→Ctr:=Classical.choose (⟨Aed,rfl⟩:∃ f,f=Aed)
theorem Akk:Wt=Aed:=Classical.choose_spec (⟨Aed,rfl⟩:∃ f,f=Aed)
attribute [irreducible] Wt
theorem kD{TY:TypeId→Option TI}{C:FuncId→Option Ctr}{D:PT}{wr:Tmp→Bool}{L:List AV→List Blk→Nat→Option LR}{fn:Func}{cs:List AV}{H:List Blk}{Q:AV→List Blk→Prop}(Q0:AV→List Blk→Prop)(h1:fnE TY C D wr (L cs H) fn cs H Q0)(h2:∀ c H',Q0 c H'→Q c H'):Wt TY C D wr L fn cs H Q:=by
 rw[Akk];exact⟨Q0,h1,h2⟩
def setCell(H:List Blk)(p k:Nat)(c:AV):List Blk:=match H[p]? with|some (.var cs T)=>H.set p (.var (cs.set k c) T)|_=>H
theorem Apt{TY:TypeId→Option TI}{C:FuncId→Option Ctr}{D:PT}{wr:Tmp→Bool}{L:List AV→List Blk→Nat→Option LR}{fn:Func}{cs:List AV}{H:List Blk}{Q:AV→List Blk→Prop}(r:AV)(p k q j:Nat)(v:AV)(B:Bool)(h1:fnE TY C D wr (L cs H) fn cs H (fun c H'=>c=r∧∃ b,b=B∧H'=setCell (setCell H p k (.bool b)) q j v))(h2:Q r (setCell (setCell H p k (.bool (sB B))) q j v)):Wt TY C D wr L fn cs H Q:=by
 refine kD _ h1 ?_;rintro c H' ⟨rfl,b,rfl,rfl⟩;rw[←Bt b];exact h2
theorem V6{F:Nat→Obj→Prop}{P:Program}{TY:TypeId→Option TI}{C:FuncId→Option Ctr}{D:PT}{wr:Tmp→Bool}(hm:P.follows .mixedOrders=true)(hTY:TyOk P TY)(hD:Cb F P D)(hC:Ad F P C){f:FuncId}{fn:Func}(hf:P.funcs[f]? =some fn)(L:List AV→List Blk→Nat→Option LR):
  Good F P f (Wt TY C D wr L fn):=by
 intro ρ S w H cs vs Q hs hH hv hK;rw[Akk] at hK;obtain⟨Q0,h1,h2⟩:=hK;refine(V5 hm hTY hD hC hf hs hH hv h1).mono ?_;rintro e w' ⟨v,c,H',ρ',S',he,h3,h4⟩;exact⟨v,c,H',ρ',S',he,h2 _ _ h3,h4⟩
end Go.Vc
namespace Go.Vc
open Go
theorem tU{p:Prop}(h:p:=by first|with_reducible exact⟨⟩|with_reducible assumption|((with_reducible refine⟨?_,?_,?_⟩)<;>first|(intro e he;rcases(by omega:e=0∨e=1∨e=2∨e=3∨e=4∨e=5) with rfl|rfl|rfl|rfl|rfl|rfl<;>first|rfl|(exfalso;omega))|(with_reducible assumption)|omega|((with_reducible show Dc _ _);simp only[Dc,ty2,ty3,ty4,ty5,ty9,Am6,rL,Am7,rM,Aeb,Am8,Aec,Am9,tG,eB,tH,Xk,tI,tJ,tP,List.length_cons,List.length_nil];first|omega|(refine⟨?_,?_⟩<;>omega)))|exact tO|((with_reducible show okQ _ _=true);rfl)|with_reducible rfl|omega|((with_reducible refine⟨?_,?_⟩)<;>first|with_reducible assumption|omega)|(intro e he;rcases(by omega:e=0∨e=1∨e=2) with rfl|rfl|rfl<;>first|rfl|(exfalso;omega))|((with_reducible refine Or.inr ?_);rfl)|((with_reducible refine Or.inl ?_);rfl)|exact tK|(simp only[Aw,Go.Vc.lo,Go.Vc.hi];simp (disch:=omega) only[Int.tdiv_eq_ediv_of_nonneg,Int.tmod_eq_emod_of_nonneg,De,Aps];omega)|(simp only[List.length_append,bytesOf_length,List.toList_toArray,List.length_cons,List.length_nil,List.length_take,List.length_drop,Cn];omega)|(simp only[Dc,ty2,ty3,ty4,ty5,ty9,Am6,rL,Am7,rM,Aeb,Am8,Aec,Am9,tG,eB,tH,Xk,tI,tJ,tP];first|omega|(refine⟨?_,?_⟩<;>omega))|(simp only[Dc,ty2,ty3,ty4,ty5,ty9,Am6,rL,Am7,rM,Aeb,Am8,Aec,Am9,tG,eB,tH,Xk,tI,tJ,tP,List.length_cons,List.length_nil];first|omega|(refine⟨?_,?_⟩<;>omega))|((with_reducible refine⟨?_,?_,?_⟩)<;>first|omega|(simp only[Dc,ty2,ty3,ty4,ty5,ty9,Am6,rL,Am7,rM,Aeb,Am8,Aec,Am9,tG,eB,tH,Xk,tI,tJ,tP];first|omega|(refine⟨?_,?_⟩<;>omega))|(intro e he;rcases(by omega:e=0∨e=1∨e=2) with rfl|rfl|rfl<;>first|rfl|(exfalso;omega)))|exact True.intro|assumption|exact Or.inr rfl|exact Or.inl rfl|decide|(dsimp only at*;simp only[Aw,Go.Vc.lo,Go.Vc.hi];omega)):p:=h
theorem tuU{a b:Prop}(k:b)(h:a:=by exact tU):a∧b:=⟨h,k⟩
theorem iA{q:Prop}{a}{b}{c}(h:leA a b c)(k:q):leA a b c∧q:=⟨h,k⟩
theorem iL{q:Prop}{a}{b}{c}(h:leL a b c)(k:q):leL a b c∧q:=⟨h,k⟩
theorem iB{q:Prop}{a}{b}{c}{d}(h:dU a b c d)(k:q):dU a b c d∧q:=⟨h,k⟩
theorem iQ{q:Prop}{a}{b}{c}{d}{e}{f}(h:opQ a b c d e f)(k:q):opQ a b c d e f∧q:=⟨h,k⟩
theorem wS:(∀ {a b:Nat},Nat.ble a b=true↔a≤b)∧(∀ {a b:Nat},Nat.ble a b=false↔b<a)∧(∀ {a b:Nat},Nat.beq a b=true↔a=b)∧(∀ {a b:Nat},Nat.beq a b=false↔ ¬a=b)∧
  (∀ n:Int,sI n=n)∧(∀ n:Bool,sB n=n)∧(∀ n:List UInt8,sS n=n)∧(∀ n:Nat,sN n=n)∧(∀ a b:Int,ltI a b=decide (a<b))∧(∀ a b:Int,leI a b=decide (a≤b))∧(∀ a b:Int,eqI a b=(a == b))∧
  (∀ {p:Prop} [Decidable p],(decide p=true)=p)∧(∀ {p:Prop} {x:Decidable p},decide p=false↔ ¬p)∧(∀ {α:Type} [BEq α] [LawfulBEq α] {a b:α},(a == b)=true↔a=b)∧(∀ {α:Type} [BEq α] [LawfulBEq α] {a b:α},(a != b)=true↔a≠b)∧
  (∀ {α:Type} (a b:α),(a≠b)= ¬a=b)∧(∀ {α:Type} [BEq α] [LawfulBEq α] {a b:α},(a == b)=false↔a≠b)∧(∀ {α:Type} [BEq α] [LawfulBEq α] {a b:α},(a != b)=false↔a=b)∧
  (∀ b:Bool,(¬b=true)=(b=false))∧(∀ b:Bool,(¬b=false)=(b=true))∧(∀ {a b:Int},¬a<b↔b≤a)∧(∀ {a b:Int},¬a≤b↔b<a)∧(∀ {α:Type} [LT α] {x y:α},x > y↔y<x)∧(∀ {α:Type} [LE α] {x y:α},x≥y↔y≤x)∧
  (∀ {a b:Nat},¬a<b↔b≤a)∧(∀ {a b:Nat},¬a≤b↔b<a)∧(∀ {p:Prop} [Decidable p],¬ ¬p↔p)∧(∀ {a b:Bool},(!a)=b↔a= !b)∧((!true)=false)∧((!false)=true)∧
  (∀ {α:Type} (a b:α),(bif true then a else b)=a)∧(∀ {α:Type} (a b:α),(bif false then a else b)=b)∧(∀ a b:Bool,((a || b)=true)=(a=true∨b=true))∧(∀ a b:Bool,((a&&b)=true)=(a=true∧b=true))∧
  (∀ {x y:Bool},(x || y)=false↔x=false∧y=false)∧(∀ {x y:Bool},(x&&y)=false↔x=false∨y=false):=
 ⟨Apq,Ana,Apr,Anb,De,Bt,Cn,Aps,Dm,B7,Ca,decide_eq_true_eq,decide_eq_false_iff_not,beq_iff_eq,bne_iff_ne,ne_eq,beq_eq_false_iff_ne,bne_eq_false_iff_eq,Bool.not_eq_true,Bool.not_eq_false,Int.not_lt,Int.not_le,gt_iff_lt,ge_iff_le,
  Nat.not_lt,Nat.not_le,Decidable.not_not,Bool.not_eq_eq_eq_not,Bool.not_true,Bool.not_false,cond_true,cond_false,Bool.or_eq_true,Bool.and_eq_true,Bool.or_eq_false_iff,Bool.and_eq_false_iff⟩
theorem wQ:(∀ n:Int,sI n=n)∧(∀ n:Bool,sB n=n)∧(∀ n:List UInt8,sS n=n)∧(∀ n:Nat,sN n=n):=⟨De,Bt,Cn,Aps⟩
theorem wT:(∀ {a b:Int},0≤a→a.tdiv b=a / b)∧(∀ {a b:Int},0≤a→a.tmod b=a % b):=⟨Int.tdiv_eq_ediv_of_nonneg,Int.tmod_eq_emod_of_nonneg⟩
theorem tL{p:Prop}(h:p:=by((conv=>whnf);(repeat' ((first|with_reducible exact⟨⟩|with_reducible rfl|((with_reducible refine Or.inr ?_);rfl)|refine tuA ?_|with_reducible refine iA ?_ ?_|with_reducible refine iL ?_ ?_|with_reducible refine iB ?_ ?_|fail)<;>(conv=>whnf)));(all_goals try simp only[wQ]);(all_goals (try first|omega|rfl|exact Or.inl True.intro|exact⟨fun h=>h,fun _ _=>True.intro⟩|exact⟨fun h=>h,fun _ _=>rfl⟩|(refine⟨fun h=>h,fun e he=>?_⟩;rw[Nat.zero_add];done)));(all_goals (try first|exact fun _ _=>⟨True.intro,rfl⟩|exact⟨Nat.le_refl _,fun _ _=>⟨True.intro,rfl⟩⟩|exact⟨by simp,Or.inl trivial⟩|exact⟨by simp,fun e he=>⟨Akv rfl he,rfl⟩⟩)))):p:=h
mutual
theorem Akl:∀ a:AV,leA (fun i=>i) a a
 | .agg cs=>by simpa[leA] using Ac cs
 | .tup cs=>by simpa[leA] using Ac cs
 | .fn f cs=>by simpa[leA] using Ac cs
 | .iface t v=>by simpa[leA] using Akl v
 | .rptr cs j=>by simp[leA]
 | .sl c z l g=>by simp[leA]
 | .nilsl=>by simp[leA]
 | .osl id z o l cap=>by simp[leA]
 | .ptr id j=>by simp[leA]
 | .eptr id sz e j=>by simp[leA]
 | .map id=>by simp[leA]
 | .iter id=>by simp[leA]
 | .int k n=>by simp[leA]
 | .str l=>by simp[leA]
 | .bool b=>by simp[leA]
 | .any=>by simp[leA]
 | .nilp=>by simp[leA]
 | .nilfn=>by simp[leA]
 | .nilmap=>by simp[leA]
 | .nilif=>by simp[leA]
theorem Ac:∀ l:List AV,leL (fun i=>i) l l
 |[]=>by simp[leL]
 |c::cs=>by simpa[leL] using ⟨Akl c,Ac cs⟩
end
end Go.Vc
namespace Go.Vc
open Go
def CV(W:World)(al:List AV)(cs:List Value):Prop:=
 al.length=cs.length∧∀ (i:Nat) (c:AV) (v:Value),al[i]? =some c→cs[i]? =some v→V (fun _=>none) (fun b=>b<W.heap.size) W c v
theorem CV.nil{W:World}{cs:List Value}{n:Nat}(h:cs.length=n):CV W [] (cs.drop n):=by
 refine⟨by simp[h],fun i c v h1=>by simp at h1⟩
theorem CV.app{W:World}{a b:List AV}{x y:List Value}(h:CV W a x)(k:CV W b y):CV W (a++b) (x++y):=by
 refine⟨by simp[h.1,k.1],fun i c v hc hv=>?_⟩
 by_cases hi:i<a.length
 ·rw[List.getElem?_append_left hi] at hc;rw[List.getElem?_append_left (by rw[←h.1];exact hi)] at hv
  exact h.2 i c v hc hv
 ·rw[List.getElem?_append_right (by omega)] at hc
  rw[List.getElem?_append_right (by rw[←h.1];omega)] at hv
  rw[←h.1] at hv;exact k.2 _ c v hc hv
theorem CV.step{W:World}{a b:List AV}{cs:List Value}{o s:Nat}(h:CV W a ((cs.drop o).take s))(k:CV W b (cs.drop (o+s))):CV W (a++b) (cs.drop o):=by
 have:=h.app k;rw[←List.drop_drop,List.take_append_drop] at this;exact this
theorem CV.one{W:World}{a:AV}{v:Value}(h:V (fun _=>none) (fun b=>b<W.heap.size) W a v):CV W [a] [v]:=by
 refine⟨rfl,fun i c v' hc hv=>?_⟩;cases i with
 |zero=>simp at hc hv;rw[←hc,←hv];exact h
 |succ i=>simp at hc
def Dec(P:Program)(t:TypeId){α:Type}(ec:α→List AV):Prop:=
 ∀ {H:Type} (enc:TypeId × Value→H) (W:World) (fuel:Nat) (cs:List Value) (x:DataW H × List MemPlace),DataW.trod enc P W 0 (fun _=>true) true fuel t cs=some x→∃ a,CV W (ec a) cs
section
variable {P : Program}
theorem A0f{t:TypeId}{i:TI}(h:A7 P t=some i):∃ d,P.underlying t=some d∧TK.of d=i.kind∧P.cellsOf t=i.size:=by
 unfold A7 at h;split at h
 ·rename_i info d h1 h2;cases h;exact⟨d,h2,rfl,by simp[Program.cellsOf,h1]⟩
 ·cases h
theorem Akm{t:TypeId}{i:TI}(h:A7 P t=some i)(hk:i.kind= .str):P.underlying t=some .string:=by
 obtain⟨d,h1,h2,_⟩:=A0f h;rw[hk] at h2;cases d<;>simp[TK.of] at h2
 ·exact h1
 ·split at h2<;>cases h2
theorem Atz{t:TypeId}{i:TI}(h:A7 P t=some i)(hk:i.kind= .str):Dec P t (fun s:List UInt8=>[.str s]):=by
 intro H enc W fuel cs x hx;obtain⟨s,rfl,_,hs⟩:=DataW.trod_string (Akm h hk) hx;exact⟨s.data.toList,CV.one (.str _ s rfl (by simpa using hs))⟩
end
structure Kept (W W':World):Prop where
 same:∀ b,b<W.heap.size→W'.heap[b]? =W.heap[b]?
 size:W.heap.size≤W'.heap.size
 os:W'.os=W.os
 output:W'.output=W.output
theorem Kept.but{W W':World}(h:Kept W W')(may:MemPlace→Prop):W.keptBut W' may:=by
 refine⟨h.os,h.output,fun i hi=>?_⟩;rw[h.same i hi];exact(World.keptBut_refl W may).2.2 i hi
theorem Kept.frozen{W W':World}(h:Kept W W'){a:Addr}(ha:a.block<W.heap.size):W'.frozen? a=W.frozen? a:=by
 simp only[World.frozen?,h.same _ ha]
theorem Kept.at_{W W':World}(h:Kept W W'){p:MemPlace}(hp:p.block<W.heap.size):W.sameAt W' p:=by
 cases p with
 |cell b off=>exact bC (h.same b hp)
 |map b=>exact h.same b hp
def Pp(P:Program):Bool:=(List.range P.types.size).all fun t=>match P.underlying t with
 |some (.slice e)=>decide (0<P.cellsOf e)
 |_=>true
theorem Ane{P:Program}(h:Pp P=true):∀ {t e:TypeId},t<P.types.size→P.underlying t=some (.slice e)→0<P.cellsOf e:=by
 intro t e ht hu;have:=List.all_eq_true.1 h t (by simpa using ht)
 rw[hu] at this;simpa using this
section
variable {P : Program} {H : Type} {enc : TypeId × Value → H} {W W' : World}
theorem Zm(K:Kids P (·<P.types.size))(hz:Pp P=true)(hk:Kept W W'){sp:Nat→Bool}:
  ∀ {ts:List TypeId} {vs:List Value} {ds:List (DataW H)} {p:List MemPlace},(∀ t ∈ ts,t<P.types.size)→DataW.TrodAll enc P W 0 (fun _=>true) true ts vs ds p→(∀ q ∈ p,sp q.block=true)→
   DataW.TrodAll enc P W' 0 sp true ts vs ds p
 |[],vs,ds,p,_,h,_=>by
  obtain⟨rfl,rfl,rfl⟩:=ChangeShapes.trodAll_nil h;exact ChangeShapes.trodAll_mk0
 |t::ts,vs,ds,p,ht,h,hs=>by
  obtain⟨v,vs',d,ds',a,b,rfl,rfl,rfl,⟨fuel,h1⟩,h2⟩:=ChangeShapes.trodAll_cons h;refine⟨a,b,⟨fuel,?_⟩,Zm K hz hk (fun t h=>ht t (List.mem_cons_of_mem _ h)) h2 (fun q hq=>hs q (List.mem_append_right _ hq)),rfl⟩;exact DataW.trod_stays K (fun h1 h2=>Ane hz h1 h2) (fun h=>by cases h) (ht t (List.mem_cons_self ..)) h1
   (fun q hq=>hk.at_ (DataW.trod_lt fuel t _ _ h1 q hq)) (fun q hq=>hs q (List.mem_append_left _ hq))
theorem Apu{f:Func}{s:ChangeSpec}{args:Array Value}{ds gs:List (DataW H)}{before:List MemPlace}{fresh handsOn again:Bool}{t:TypeId}
  (K:Kids P (·<P.types.size)) (hz:Pp P=true) (hv0:s.vars=[]) (hp:∀ t ∈ f.params.toList,t<P.types.size) (hr:f.resultTypes=#[t]) (ht:P.underlying t=some .bool)
  (hW:DataW.Whole enc P f.params.toList s.vars false W args.toList ds gs before) (hfn:s.fn H (ds++gs)={ results:=[.lit (.bool true)],args:=ds,vars:=gs })
  (hk:Kept W W'):s.post enc P f false fresh handsOn again W args (.bool true) W':=by
 obtain⟨p,q,hA,hV,rfl,hfz,_⟩:=id hW;rw[hv0] at hV;obtain⟨rfl,rfl⟩:=ChangeShapes.trodVars_none hV;have hlt:=hW.lt;simp only[List.append_nil] at hlt hfz;have hargs:∀ sp:Nat→Bool,(∀ q ∈ p,sp q.block=true)→DataW.TrodAll enc P W' 0 sp true f.params.toList args.toList ds p:=fun sp hs=>Zm K hz hk hp hA hs;have hres:∀ (b:Nat) (sp:Nat→Bool) (hd:Bool),DataW.TrodAll enc P W' b sp hd f.resultTypes.toList ((Value.bool true).resultList f.resultTypes.size) [.lit (.bool true)] []:=by
  intro b sp hd;rw[hr];exact ChangeShapes.trodAll_mk1 (RowKit.shut_bool ht true)
 have hvars:∀ sp:Nat→Bool,DataW.TrodVars enc P W' sp s.vars [] []:=by
  intro sp;rw[hv0];rfl
 have h0:∀ q ∈ p,decide (q.block<W.heap.size)=true:=fun q hq=>by simpa using hlt q hq
 refine⟨ds,[],p++[],[],p,[],hW,?_,?_,?_,?_,fun _=>⟨RowKit.ok_one hr rfl (RowKit.okWide_bool_mk ht true),.lit (.bool true)::ds,[],p,⟨p,[],?_,hvars _,by simp,?_,fun h=>by cases h⟩,?_⟩⟩
 ·rw[hfn];exact hres _ _ _
 ·rw[hfn];exact hargs _ h0
 ·rw[hfn];exact hvars _
 ·exact World.keptBut_mono (fun _ f=>f.elim) (hk.but fun _=>False)
 ·exact ChangeShapes.trodAll_append (hargs _ fun _ _=>rfl) (hres _ _ _)
 ·intro b off hb;rw[hk.frozen (a:=⟨b,off,none⟩) (hlt _ hb)];exact hfz b off hb
 ·intro q hq _;simpa using hq
theorem Anf{F:Nat→Obj→Prop}{f:FuncId}{α:Type}{args:α→List AV}{pre:α→Prop}{res:α→AV}(hF:∀ b o,F b o→W.heap[b]? =some o)(hG:GoodP F P f (PC.of args pre res)){vs:Array Value}{x:α}(hx:pre x)
  (hv:CV W (args x) vs.toList):Calls P f vs W fun e w'=>∃ v S',e= .returned v∧V (fun _=>none) S' w' (res x) v∧Kept W w':=by
 have hs:Sok F (fun b=>b<W.heap.size) W:=⟨fun b h=>h,fun b o h=>⟨lt_of_some (hF b o h),hF b o h⟩⟩;have hv':VL (fun _=>none) (fun b=>b<W.heap.size) W (args x) vs:=⟨by simpa using hv.1,fun i c v hc hi=>hv.2 i c v hc (by simpa using hi)⟩
 refine(hG _ W (args x) vs (fun c=>c=res x) hs hv' ⟨x,hx,Ac _,rfl⟩).mono ?_;rintro e w' ⟨v,c,S',rfl,rfl,h1,h2,_⟩;exact⟨v,S',rfl,h1,fun b hb=>h2.same b hb (.inl hb),h2.size,h2.os,h2.output⟩
theorem CV.cons{a:AV}{al:List AV}{v:Value}{vs:List Value}(h:V (fun _=>none) (fun b=>b<W.heap.size) W a v)(k:CV W al vs):CV W (a::al) (v::vs):=(CV.one h).app k
theorem CV.none:CV W [] []:=⟨rfl,fun i c v h=>by simp at h⟩
end
end Go.Vc
namespace Go.Vc.Z
open Go Go.Vc Go.Proofs
end Go.Vc.Z
namespace Go.Vc
open Go Go.Proofs
noncomputable def At0 : Nat := (Tryz.prog.globalNamed "internal/strconv.uint64pow10").getD 0
def Fw(W:World):Nat→Obj→Prop:=fun b o=>W.heap[b]? =some o
def Tabs (W : World) : Prop := Lib.TabIs Tryz.prog W "internal/strconv.uint64pow10" .u64 Lib.pow10Tab ∧ W.ShapedOpen Tryz.prog
theorem At1 : Tryz.prog.globalNamed "internal/strconv.uint64pow10" = some At0 := by
 have h : (Tryz.prog.globalNamed "internal/strconv.uint64pow10").isSome = true := by kernel_rfl
 unfold At0;cases hg : Tryz.prog.globalNamed "internal/strconv.uint64pow10" with
 |none=>rw[hg] at h;cases h
 |some g=>rfl
theorem Tabs.pow {W : World} (hW : Tabs W) {S : Nat → Prop} {w : World} (hs : Sok (Fw W) S w) : Lib.TabIs Tryz.prog w "internal/strconv.uint64pow10" .u64 Lib.pow10Tab := by
 replace hW:=hW.1
 unfold Lib.TabIs World.var? at hW;unfold Lib.TabIs World.var?;rw[At1] at hW ⊢;simp only[Option.bind_some] at hW ⊢;cases hg:W.heap[At0]? with
 |none=>rw[hg] at hW;cases hW
 |some o=>
  rw[(hs.st At0 o hg).2];rw[hg] at hW;exact hW
theorem Fw.cell{W:World}{S:Nat→Prop}{w:World}(hs:Sok (Fw W) S w){b o:Nat}{v:Value}(h:W.cell? ⟨b,o,none⟩=some v):w.cell? ⟨b,o,none⟩=some v:=by
 cases hg:W.heap[b]? with
 |none=>simp only[World.cell?,hg] at h;cases h
 |some ob=>
  have:=(hs.st b ob hg).2;simp only[World.cell?,this];simpa only[World.cell?,hg] using h
end Go.Vc
