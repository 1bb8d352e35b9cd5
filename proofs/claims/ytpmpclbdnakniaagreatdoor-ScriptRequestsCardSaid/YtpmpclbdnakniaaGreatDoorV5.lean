/- Printed by PrintTY: what the program's types are. -/
import Derived.Test.YtpmpclbdnakniaaGreatDoorV4
import Derived.Test.YtpmpclbdnakniaaGreatDoorProg
import Derived.ChangeArms
import Derived.ChangeStays
import Derived.ChangeSame
import Derived.ChangeAgain
import Derived.RowKit3
import Derived.Lib.LaidTab
import Derived.Lib.ItoaNum
import GoSem.Core.Utf8
set_option linter.all false
set_option linter.unusedVariables false
set_option linter.unusedSimpArgs false
namespace Go.Vc.Z
open Go Go.Vc Go.Proofs
def ty0 : TI := ⟨1, 0, false, .other, (some (.any)), true⟩
theorem ok0 : tiOf Tryz.prog 0 = some ty0 := by kernel_rfl
def ty2 : TI := ⟨1, 8, false, (.int .i64), (some (.int .i64 0)), true⟩
theorem ok2 : tiOf Tryz.prog 2 = some ty2 := by kernel_rfl
def ty3 : TI := ⟨1, 8, false, (.int .i64), (some (.int .i64 0)), true⟩
theorem ok3 : tiOf Tryz.prog 3 = some ty3 := by kernel_rfl
def ty4 : TI := ⟨1, 1, false, .bool, (some (.bool false)), true⟩
theorem ok4 : tiOf Tryz.prog 4 = some ty4 := by kernel_rfl
def ty5 : TI := ⟨1, 1, false, (.int .u8), (some (.int .u8 0)), true⟩
theorem ok5 : tiOf Tryz.prog 5 = some ty5 := by kernel_rfl
def ty9 : TI := ⟨1, 16, false, .str, (some (.str [])), true⟩
theorem ok9 : tiOf Tryz.prog 9 = some ty9 := by kernel_rfl
def ty20 : TI := ⟨1, 16, false, .iface, (some (.nilif)), true⟩
theorem ok20 : tiOf Tryz.prog 20 = some ty20 := by kernel_rfl
def ty21 : TI := ⟨1, 4, false, (.int .i32), (some (.int .i32 0)), true⟩
theorem ok21 : tiOf Tryz.prog 21 = some ty21 := by kernel_rfl
def ty22 : TI := ⟨1, 8, false, (.int .i64), (some (.int .i64 0)), true⟩
theorem ok22 : tiOf Tryz.prog 22 = some ty22 := by kernel_rfl
def ty23 : TI := ⟨1, 24, false, (.slice 42), (some (.nilsl)), true⟩
theorem ok23 : tiOf Tryz.prog 23 = some ty23 := by kernel_rfl
def ty24 : TI := ⟨1, 24, false, (.slice 95), (some (.nilsl)), true⟩
theorem ok24 : tiOf Tryz.prog 24 = some ty24 := by kernel_rfl
def ty25 : TI := ⟨1, 24, false, (.slice 47), (some (.nilsl)), true⟩
theorem ok25 : tiOf Tryz.prog 25 = some ty25 := by kernel_rfl
def ty26 : TI := ⟨4, 80, true, (.struct [(0, 22), (1, 23), (2, 24), (3, 25)]), (some (.agg [.int .i64 0, .nilsl, .nilsl, .nilsl])), true⟩
theorem ok26 : tiOf Tryz.prog 26 = some ty26 := by kernel_rfl
def ty27 : TI := ⟨4, 80, true, (.struct [(0, 22), (1, 23), (2, 24), (3, 25)]), (some (.agg [.int .i64 0, .nilsl, .nilsl, .nilsl])), true⟩
theorem ok27 : tiOf Tryz.prog 27 = some ty27 := by kernel_rfl
def ty28 : TI := ⟨6, 96, true, (.struct [(0, 27), (4, 22), (5, 3)]), (some (.agg [.int .i64 0, .nilsl, .nilsl, .nilsl, .int .i64 0, .int .i64 0])), true⟩
theorem ok28 : tiOf Tryz.prog 28 = some ty28 := by kernel_rfl
def ty29 : TI := ⟨6, 96, true, (.struct [(0, 27), (4, 22), (5, 3)]), (some (.agg [.int .i64 0, .nilsl, .nilsl, .nilsl, .int .i64 0, .int .i64 0])), true⟩
theorem ok29 : tiOf Tryz.prog 29 = some ty29 := by kernel_rfl
def ty32 : TI := ⟨1, 24, false, (.slice 9), (some (.nilsl)), true⟩
theorem ok32 : tiOf Tryz.prog 32 = some ty32 := by kernel_rfl
def ty37 : TI := ⟨1, 8, false, (.int .u64), (some (.int .u64 0)), true⟩
theorem ok37 : tiOf Tryz.prog 37 = some ty37 := by kernel_rfl
def ty38 : TI := ⟨1, 24, false, (.slice 45), (some (.nilsl)), true⟩
theorem ok38 : tiOf Tryz.prog 38 = some ty38 := by kernel_rfl
def ty39 : TI := ⟨1, 24, false, (.slice 113), (some (.nilsl)), true⟩
theorem ok39 : tiOf Tryz.prog 39 = some ty39 := by kernel_rfl
def ty40 : TI := ⟨1, 24, false, (.slice 105), (some (.nilsl)), true⟩
theorem ok40 : tiOf Tryz.prog 40 = some ty40 := by kernel_rfl
def ty41 : TI := ⟨11, 144, true, (.struct [(0, 37), (1, 9), (2, 3), (3, 38), (4, 39), (5, 37), (6, 37), (7, 37), (8, 2), (9, 3), (10, 40)]), (some (.agg [.int .u64 0, .str [], .int .i64 0, .nilsl, .nilsl, .int .u64 0, .int .u64 0, .int .u64 0, .int .i64 0, .int .i64 0, .nilsl])), true⟩
theorem ok41 : tiOf Tryz.prog 41 = some ty41 := by kernel_rfl
def ty42 : TI := ⟨11, 144, true, (.struct [(0, 37), (1, 9), (2, 3), (3, 38), (4, 39), (5, 37), (6, 37), (7, 37), (8, 2), (9, 3), (10, 40)]), (some (.agg [.int .u64 0, .str [], .int .i64 0, .nilsl, .nilsl, .int .u64 0, .int .u64 0, .int .u64 0, .int .i64 0, .int .i64 0, .nilsl])), true⟩
theorem ok42 : tiOf Tryz.prog 42 = some ty42 := by kernel_rfl
def ty43 : TI := ⟨1, 8, false, (.int .i64), (some (.int .i64 0)), true⟩
theorem ok43 : tiOf Tryz.prog 43 = some ty43 := by kernel_rfl
def ty44 : TI := ⟨6, 48, true, (.struct [(0, 3), (1, 3), (2, 2), (3, 43), (4, 3), (5, 37)]), (some (.agg [.int .i64 0, .int .i64 0, .int .i64 0, .int .i64 0, .int .i64 0, .int .u64 0])), true⟩
theorem ok44 : tiOf Tryz.prog 44 = some ty44 := by kernel_rfl
def ty45 : TI := ⟨6, 48, true, (.struct [(0, 3), (1, 3), (2, 2), (3, 43), (4, 3), (5, 37)]), (some (.agg [.int .i64 0, .int .i64 0, .int .i64 0, .int .i64 0, .int .i64 0, .int .u64 0])), true⟩
theorem ok45 : tiOf Tryz.prog 45 = some ty45 := by kernel_rfl
def ty46 : TI := ⟨9, 72, true, (.struct [(0, 37), (1, 3), (2, 4), (3, 45)]), (some (.agg [.int .u64 0, .int .i64 0, .bool false, .int .i64 0, .int .i64 0, .int .i64 0, .int .i64 0, .int .i64 0, .int .u64 0])), true⟩
theorem ok46 : tiOf Tryz.prog 46 = some ty46 := by kernel_rfl
def ty47 : TI := ⟨9, 72, true, (.struct [(0, 37), (1, 3), (2, 4), (3, 45)]), (some (.agg [.int .u64 0, .int .i64 0, .bool false, .int .i64 0, .int .i64 0, .int .i64 0, .int .i64 0, .int .i64 0, .int .u64 0])), true⟩
theorem ok47 : tiOf Tryz.prog 47 = some ty47 := by kernel_rfl
def ty52 : TI := ⟨1, 8, false, .func, (some (.nilfn)), true⟩
theorem ok52 : tiOf Tryz.prog 52 = some ty52 := by kernel_rfl
def ty54 : TI := ⟨1, 8, false, (.int .i64), (some (.int .i64 0)), true⟩
theorem ok54 : tiOf Tryz.prog 54 = some ty54 := by kernel_rfl
def ty55 : TI := ⟨12, 144, true, (.struct [(0, 9), (1, 54), (2, 3), (3, 37), (4, 3), (5, 43), (6, 9), (7, 38), (8, 39), (9, 2), (10, 3), (11, 3)]), (some (.agg [.str [], .int .i64 0, .int .i64 0, .int .u64 0, .int .i64 0, .int .i64 0, .str [], .nilsl, .nilsl, .int .i64 0, .int .i64 0, .int .i64 0])), true⟩
theorem ok55 : tiOf Tryz.prog 55 = some ty55 := by kernel_rfl
def ty56 : TI := ⟨12, 144, true, (.struct [(0, 9), (1, 54), (2, 3), (3, 37), (4, 3), (5, 43), (6, 9), (7, 38), (8, 39), (9, 2), (10, 3), (11, 3)]), (some (.agg [.str [], .int .i64 0, .int .i64 0, .int .u64 0, .int .i64 0, .int .i64 0, .str [], .nilsl, .nilsl, .int .i64 0, .int .i64 0, .int .i64 0])), true⟩
theorem ok56 : tiOf Tryz.prog 56 = some ty56 := by kernel_rfl
def ty58 : TI := ⟨1, 8, false, .func, (some (.nilfn)), true⟩
theorem ok58 : tiOf Tryz.prog 58 = some ty58 := by kernel_rfl
def ty59 : TI := ⟨1, 0, false, .other, (some (.any)), true⟩
theorem ok59 : tiOf Tryz.prog 59 = some ty59 := by kernel_rfl
def ty62 : TI := ⟨1, 0, false, .other, (some (.any)), true⟩
theorem ok62 : tiOf Tryz.prog 62 = some ty62 := by kernel_rfl
def ty64 : TI := ⟨1, 8, false, (.int .i64), (some (.int .i64 0)), true⟩
theorem ok64 : tiOf Tryz.prog 64 = some ty64 := by kernel_rfl
def ty65 : TI := ⟨1, 24, false, (.slice 3), (some (.nilsl)), true⟩
theorem ok65 : tiOf Tryz.prog 65 = some ty65 := by kernel_rfl
def ty66 : TI := ⟨17, 200, true, (.struct [(0, 64), (1, 3), (2, 56), (14, 3), (15, 65), (16, 4)]), (some (.agg [.int .i64 0, .int .i64 0, .str [], .int .i64 0, .int .i64 0, .int .u64 0, .int .i64 0, .int .i64 0, .str [], .nilsl, .nilsl, .int .i64 0, .int .i64 0, .int .i64 0, .int .i64 0, .nilsl, .bool false])), true⟩
theorem ok66 : tiOf Tryz.prog 66 = some ty66 := by kernel_rfl
def ty67 : TI := ⟨17, 200, true, (.struct [(0, 64), (1, 3), (2, 56), (14, 3), (15, 65), (16, 4)]), (some (.agg [.int .i64 0, .int .i64 0, .str [], .int .i64 0, .int .i64 0, .int .u64 0, .int .i64 0, .int .i64 0, .str [], .nilsl, .nilsl, .int .i64 0, .int .i64 0, .int .i64 0, .int .i64 0, .nilsl, .bool false])), true⟩
theorem ok67 : tiOf Tryz.prog 67 = some ty67 := by kernel_rfl
def ty68 : TI := ⟨1, 0, false, .other, (some (.any)), true⟩
theorem ok68 : tiOf Tryz.prog 68 = some ty68 := by kernel_rfl
def ty70 : TI := ⟨1, 0, false, .other, (some (.any)), true⟩
theorem ok70 : tiOf Tryz.prog 70 = some ty70 := by kernel_rfl
def ty73 : TI := ⟨1, 8, false, .func, (some (.nilfn)), true⟩
theorem ok73 : tiOf Tryz.prog 73 = some ty73 := by kernel_rfl
def ty76 : TI := ⟨1, 24, false, (.slice 161), (some (.nilsl)), true⟩
theorem ok76 : tiOf Tryz.prog 76 = some ty76 := by kernel_rfl
def ty77 : TI := ⟨2, 32, true, (.struct [(0, 76), (1, 3)]), (some (.agg [.nilsl, .int .i64 0])), true⟩
theorem ok77 : tiOf Tryz.prog 77 = some ty77 := by kernel_rfl
def ty78 : TI := ⟨2, 32, true, (.struct [(0, 76), (1, 3)]), (some (.agg [.nilsl, .int .i64 0])), true⟩
theorem ok78 : tiOf Tryz.prog 78 = some ty78 := by kernel_rfl
def ty79 : TI := ⟨1, 24, false, (.slice 67), (some (.nilsl)), true⟩
theorem ok79 : tiOf Tryz.prog 79 = some ty79 := by kernel_rfl
def ty81 : TI := ⟨1, 0, false, .other, (some (.any)), true⟩
theorem ok81 : tiOf Tryz.prog 81 = some ty81 := by kernel_rfl
def ty84 : TI := ⟨1, 0, false, .other, (some (.any)), true⟩
theorem ok84 : tiOf Tryz.prog 84 = some ty84 := by kernel_rfl
def ty90 : TI := ⟨1, 0, false, .other, (some (.any)), true⟩
theorem ok90 : tiOf Tryz.prog 90 = some ty90 := by kernel_rfl
def ty93 : TI := ⟨1, 8, false, (.int .i64), (some (.int .i64 0)), true⟩
theorem ok93 : tiOf Tryz.prog 93 = some ty93 := by kernel_rfl
def ty94 : TI := ⟨10, 80, true, (.struct [(0, 3), (1, 37), (2, 3), (3, 93), (4, 2), (5, 2), (6, 2), (7, 2), (8, 2), (9, 2)]), (some (.agg [.int .i64 0, .int .u64 0, .int .i64 0, .int .i64 0, .int .i64 0, .int .i64 0, .int .i64 0, .int .i64 0, .int .i64 0, .int .i64 0])), true⟩
theorem ok94 : tiOf Tryz.prog 94 = some ty94 := by kernel_rfl
def ty95 : TI := ⟨10, 80, true, (.struct [(0, 3), (1, 37), (2, 3), (3, 93), (4, 2), (5, 2), (6, 2), (7, 2), (8, 2), (9, 2)]), (some (.agg [.int .i64 0, .int .u64 0, .int .i64 0, .int .i64 0, .int .i64 0, .int .i64 0, .int .i64 0, .int .i64 0, .int .i64 0, .int .i64 0])), true⟩
theorem ok95 : tiOf Tryz.prog 95 = some ty95 := by kernel_rfl
def ty98 : TI := ⟨1, 24, false, (.slice 37), (some (.nilsl)), true⟩
theorem ok98 : tiOf Tryz.prog 98 = some ty98 := by kernel_rfl
def ty101 : TI := ⟨1, 8, false, .func, (some (.nilfn)), true⟩
theorem ok101 : tiOf Tryz.prog 101 = some ty101 := by kernel_rfl
def ty104 : TI := ⟨4, 32, true, (.struct [(0, 3), (1, 3), (2, 43), (3, 43)]), (some (.agg [.int .i64 0, .int .i64 0, .int .i64 0, .int .i64 0])), true⟩
theorem ok104 : tiOf Tryz.prog 104 = some ty104 := by kernel_rfl
def ty105 : TI := ⟨4, 32, true, (.struct [(0, 3), (1, 3), (2, 43), (3, 43)]), (some (.agg [.int .i64 0, .int .i64 0, .int .i64 0, .int .i64 0])), true⟩
theorem ok105 : tiOf Tryz.prog 105 = some ty105 := by kernel_rfl
def ty107 : TI := ⟨1, 8, false, .func, (some (.nilfn)), true⟩
theorem ok107 : tiOf Tryz.prog 107 = some ty107 := by kernel_rfl
def ty112 : TI := ⟨2, 16, true, (.struct [(0, 3), (1, 2)]), (some (.agg [.int .i64 0, .int .i64 0])), true⟩
theorem ok112 : tiOf Tryz.prog 112 = some ty112 := by kernel_rfl
def ty113 : TI := ⟨2, 16, true, (.struct [(0, 3), (1, 2)]), (some (.agg [.int .i64 0, .int .i64 0])), true⟩
theorem ok113 : tiOf Tryz.prog 113 = some ty113 := by kernel_rfl
def ty114 : TI := ⟨1, 8, false, .func, (some (.nilfn)), true⟩
theorem ok114 : tiOf Tryz.prog 114 = some ty114 := by kernel_rfl
def ty115 : TI := ⟨1, 24, false, (.slice 43), (some (.nilsl)), true⟩
theorem ok115 : tiOf Tryz.prog 115 = some ty115 := by kernel_rfl
def ty116 : TI := ⟨1, 0, false, .other, (some (.any)), true⟩
theorem ok116 : tiOf Tryz.prog 116 = some ty116 := by kernel_rfl
def ty120 : TI := ⟨1, 8, false, (.map 21 125), (some (.nilmap)), true⟩
theorem ok120 : tiOf Tryz.prog 120 = some ty120 := by kernel_rfl
def ty123 : TI := ⟨1, 8, false, .func, (some (.nilfn)), true⟩
theorem ok123 : tiOf Tryz.prog 123 = some ty123 := by kernel_rfl
def ty124 : TI := ⟨2, 16, true, (.struct [(0, 58), (1, 123)]), (some (.agg [.nilfn, .nilfn])), true⟩
theorem ok124 : tiOf Tryz.prog 124 = some ty124 := by kernel_rfl
def ty125 : TI := ⟨2, 16, true, (.struct [(0, 58), (1, 123)]), (some (.agg [.nilfn, .nilfn])), true⟩
theorem ok125 : tiOf Tryz.prog 125 = some ty125 := by kernel_rfl
def ty130 : TI := ⟨1, 8, false, (.ptr 56), (some (.nilp)), true⟩
theorem ok130 : tiOf Tryz.prog 130 = some ty130 := by kernel_rfl
def ty135 : TI := ⟨1, 0, false, .other, (some (.any)), true⟩
theorem ok135 : tiOf Tryz.prog 135 = some ty135 := by kernel_rfl
def ty141 : TI := ⟨1, 0, false, .other, (some (.any)), true⟩
theorem ok141 : tiOf Tryz.prog 141 = some ty141 := by kernel_rfl
def ty143 : TI := ⟨1, 0, false, .other, (some (.any)), true⟩
theorem ok143 : tiOf Tryz.prog 143 = some ty143 := by kernel_rfl
def ty147 : TI := ⟨1, 16, true, (.struct [(0, 9)]), (some (.agg [.str []])), true⟩
theorem ok147 : tiOf Tryz.prog 147 = some ty147 := by kernel_rfl
def ty148 : TI := ⟨1, 8, false, (.map 4 147), (some (.nilmap)), true⟩
theorem ok148 : tiOf Tryz.prog 148 = some ty148 := by kernel_rfl
def ty149 : TI := ⟨1, 8, false, (.ptr 152), (some (.nilp)), true⟩
theorem ok149 : tiOf Tryz.prog 149 = some ty149 := by kernel_rfl
def ty150 : TI := ⟨1, 24, false, (.slice 5), (some (.nilsl)), true⟩
theorem ok150 : tiOf Tryz.prog 150 = some ty150 := by kernel_rfl
def ty151 : TI := ⟨2, 32, true, (.struct [(0, 149), (1, 150)]), (some (.agg [.nilp, .nilsl])), true⟩
theorem ok151 : tiOf Tryz.prog 151 = some ty151 := by kernel_rfl
def ty152 : TI := ⟨2, 32, true, (.struct [(0, 149), (1, 150)]), (some (.agg [.nilp, .nilsl])), true⟩
theorem ok152 : tiOf Tryz.prog 152 = some ty152 := by kernel_rfl
def ty153 : TI := ⟨1, 16, false, .iface, (some (.nilif)), false⟩
theorem ok153 : tiOf Tryz.prog 153 = some ty153 := by kernel_rfl
def ty154 : TI := ⟨1, 16, false, .iface, (some (.nilif)), false⟩
theorem ok154 : tiOf Tryz.prog 154 = some ty154 := by kernel_rfl
def ty155 : TI := ⟨1, 0, false, .other, (some (.any)), true⟩
theorem ok155 : tiOf Tryz.prog 155 = some ty155 := by kernel_rfl
def ty157 : TI := ⟨1, 8, false, .func, (some (.nilfn)), true⟩
theorem ok157 : tiOf Tryz.prog 157 = some ty157 := by kernel_rfl
def ty158 : TI := ⟨3, 24, true, (.struct [(0, 3), (1, 3), (2, 3)]), (some (.agg [.int .i64 0, .int .i64 0, .int .i64 0])), true⟩
theorem ok158 : tiOf Tryz.prog 158 = some ty158 := by kernel_rfl
def ty159 : TI := ⟨3, 24, true, (.struct [(0, 3), (1, 3), (2, 3)]), (some (.agg [.int .i64 0, .int .i64 0, .int .i64 0])), true⟩
theorem ok159 : tiOf Tryz.prog 159 = some ty159 := by kernel_rfl
def ty160 : TI := ⟨6, 48, true, (.struct [(0, 159), (3, 3), (4, 3), (5, 3)]), (some (.agg [.int .i64 0, .int .i64 0, .int .i64 0, .int .i64 0, .int .i64 0, .int .i64 0])), true⟩
theorem ok160 : tiOf Tryz.prog 160 = some ty160 := by kernel_rfl
def ty161 : TI := ⟨6, 48, true, (.struct [(0, 159), (3, 3), (4, 3), (5, 3)]), (some (.agg [.int .i64 0, .int .i64 0, .int .i64 0, .int .i64 0, .int .i64 0, .int .i64 0])), true⟩
theorem ok161 : tiOf Tryz.prog 161 = some ty161 := by kernel_rfl
def ty163 : TI := ⟨1, 0, false, .other, (some (.any)), true⟩
theorem ok163 : tiOf Tryz.prog 163 = some ty163 := by kernel_rfl
def ty167 : TI := ⟨1, 0, false, .other, (some (.any)), true⟩
theorem ok167 : tiOf Tryz.prog 167 = some ty167 := by kernel_rfl
def ty169 : TI := ⟨6, 48, true, (.arr 6 2), (some (.agg [.int .i64 0, .int .i64 0, .int .i64 0, .int .i64 0, .int .i64 0, .int .i64 0])), true⟩
theorem ok169 : tiOf Tryz.prog 169 = some ty169 := by kernel_rfl
def ty170 : TI := ⟨6, 48, true, (.arr 6 2), (some (.agg [.int .i64 0, .int .i64 0, .int .i64 0, .int .i64 0, .int .i64 0, .int .i64 0])), true⟩
theorem ok170 : tiOf Tryz.prog 170 = some ty170 := by kernel_rfl
def ty173 : TI := ⟨1, 24, false, (.slice 2), (some (.nilsl)), true⟩
theorem ok173 : tiOf Tryz.prog 173 = some ty173 := by kernel_rfl
def ty178 : TI := ⟨1, 8, false, .func, (some (.nilfn)), true⟩
theorem ok178 : tiOf Tryz.prog 178 = some ty178 := by kernel_rfl
def ty180 : TI := ⟨1, 24, false, (.slice 21), (some (.nilsl)), true⟩
theorem ok180 : tiOf Tryz.prog 180 = some ty180 := by kernel_rfl
def ty182 : TI := ⟨1, 8, false, .func, (some (.nilfn)), true⟩
theorem ok182 : tiOf Tryz.prog 182 = some ty182 := by kernel_rfl
def ty187 : TI := ⟨1, 8, false, (.ptr 193), (some (.nilp)), true⟩
theorem ok187 : tiOf Tryz.prog 187 = some ty187 := by kernel_rfl
def ty188 : TI := ⟨1, 8, false, (.ptr 327), (some (.nilp)), true⟩
theorem ok188 : tiOf Tryz.prog 188 = some ty188 := by kernel_rfl
def ty189 : TI := ⟨1, 8, false, (.ptr 322), (some (.nilp)), true⟩
theorem ok189 : tiOf Tryz.prog 189 = some ty189 := by kernel_rfl
def ty190 : TI := ⟨3, 24, true, (.struct [(0, 188), (1, 189), (2, 4)]), (some (.agg [.nilp, .nilp, .bool false])), true⟩
theorem ok190 : tiOf Tryz.prog 190 = some ty190 := by kernel_rfl
def ty191 : TI := ⟨3, 24, true, (.struct [(0, 188), (1, 189), (2, 4)]), (some (.agg [.nilp, .nilp, .bool false])), true⟩
theorem ok191 : tiOf Tryz.prog 191 = some ty191 := by kernel_rfl
def ty192 : TI := ⟨4, 32, true, (.struct [(0, 191), (3, 130)]), (some (.agg [.nilp, .nilp, .bool false, .nilp])), true⟩
theorem ok192 : tiOf Tryz.prog 192 = some ty192 := by kernel_rfl
def ty193 : TI := ⟨4, 32, true, (.struct [(0, 191), (3, 130)]), (some (.agg [.nilp, .nilp, .bool false, .nilp])), true⟩
theorem ok193 : tiOf Tryz.prog 193 = some ty193 := by kernel_rfl
def ty195 : TI := ⟨1, 8, false, (.ptr 9), (some (.nilp)), true⟩
theorem ok195 : tiOf Tryz.prog 195 = some ty195 := by kernel_rfl
def ty196 : TI := ⟨1, 8, false, .func, (some (.nilfn)), true⟩
theorem ok196 : tiOf Tryz.prog 196 = some ty196 := by kernel_rfl
def ty198 : TI := ⟨1, 8, false, (.ptr 3), (some (.nilp)), true⟩
theorem ok198 : tiOf Tryz.prog 198 = some ty198 := by kernel_rfl
def ty199 : TI := ⟨1, 8, false, .func, (some (.nilfn)), true⟩
theorem ok199 : tiOf Tryz.prog 199 = some ty199 := by kernel_rfl
def ty200 : TI := ⟨1, 0, false, .other, (some (.any)), true⟩
theorem ok200 : tiOf Tryz.prog 200 = some ty200 := by kernel_rfl
def ty202 : TI := ⟨1, 0, false, .other, (some (.any)), true⟩
theorem ok202 : tiOf Tryz.prog 202 = some ty202 := by kernel_rfl
def ty204 : TI := ⟨1, 0, false, .other, (some (.any)), true⟩
theorem ok204 : tiOf Tryz.prog 204 = some ty204 := by kernel_rfl
def ty206 : TI := ⟨1, 24, false, (.slice 242), (some (.nilsl)), true⟩
theorem ok206 : tiOf Tryz.prog 206 = some ty206 := by kernel_rfl
def ty207 : TI := ⟨1, 0, false, .other, (some (.any)), true⟩
theorem ok207 : tiOf Tryz.prog 207 = some ty207 := by kernel_rfl
def ty214 : TI := ⟨1, 0, false, .other, (some (.any)), true⟩
theorem ok214 : tiOf Tryz.prog 214 = some ty214 := by kernel_rfl
def ty218 : TI := ⟨1, 8, false, (.map 3 220), (some (.nilmap)), true⟩
theorem ok218 : tiOf Tryz.prog 218 = some ty218 := by kernel_rfl
def ty220 : TI := ⟨1, 1, true, (.struct [(0, 4)]), (some (.agg [.bool false])), true⟩
theorem ok220 : tiOf Tryz.prog 220 = some ty220 := by kernel_rfl
def ty221 : TI := ⟨1, 8, false, (.ptr 5), (some (.nilp)), true⟩
theorem ok221 : tiOf Tryz.prog 221 = some ty221 := by kernel_rfl
def ty222 : TI := ⟨1, 24, false, (.slice 198), (some (.nilsl)), true⟩
theorem ok222 : tiOf Tryz.prog 222 = some ty222 := by kernel_rfl
def ty225 : TI := ⟨1, 8, false, (.ptr 191), (some (.nilp)), true⟩
theorem ok225 : tiOf Tryz.prog 225 = some ty225 := by kernel_rfl
def ty227 : TI := ⟨1, 8, false, (.ptr 47), (some (.nilp)), true⟩
theorem ok227 : tiOf Tryz.prog 227 = some ty227 := by kernel_rfl
def ty232 : TI := ⟨1, 8, false, .func, (some (.nilfn)), true⟩
theorem ok232 : tiOf Tryz.prog 232 = some ty232 := by kernel_rfl
def ty233 : TI := ⟨24, 24, true, (.arr 24 5), (some (.agg [.int .u8 0, .int .u8 0, .int .u8 0, .int .u8 0, .int .u8 0, .int .u8 0, .int .u8 0, .int .u8 0, .int .u8 0, .int .u8 0, .int .u8 0, .int .u8 0, .int .u8 0, .int .u8 0, .int .u8 0, .int .u8 0, .int .u8 0, .int .u8 0, .int .u8 0, .int .u8 0, .int .u8 0, .int .u8 0, .int .u8 0, .int .u8 0])), true⟩
theorem ok233 : tiOf Tryz.prog 233 = some ty233 := by kernel_rfl
def ty235 : TI := ⟨1, 0, false, .other, (some (.any)), true⟩
theorem ok235 : tiOf Tryz.prog 235 = some ty235 := by kernel_rfl
def ty238 : TI := ⟨1, 0, false, .other, (some (.any)), true⟩
theorem ok238 : tiOf Tryz.prog 238 = some ty238 := by kernel_rfl
def ty242 : TI := ⟨1, 8, false, .func, (some (.nilfn)), true⟩
theorem ok242 : tiOf Tryz.prog 242 = some ty242 := by kernel_rfl
def ty243 : TI := ⟨10, 96, true, (.struct [(0, 54), (1, 9), (2, 9), (3, 3), (4, 3), (5, 37), (6, 43), (7, 2), (8, 3), (9, 3)]), (some (.agg [.int .i64 0, .str [], .str [], .int .i64 0, .int .i64 0, .int .u64 0, .int .i64 0, .int .i64 0, .int .i64 0, .int .i64 0])), true⟩
theorem ok243 : tiOf Tryz.prog 243 = some ty243 := by kernel_rfl
def ty244 : TI := ⟨10, 96, true, (.struct [(0, 54), (1, 9), (2, 9), (3, 3), (4, 3), (5, 37), (6, 43), (7, 2), (8, 3), (9, 3)]), (some (.agg [.int .i64 0, .str [], .str [], .int .i64 0, .int .i64 0, .int .u64 0, .int .i64 0, .int .i64 0, .int .i64 0, .int .i64 0])), true⟩
theorem ok244 : tiOf Tryz.prog 244 = some ty244 := by kernel_rfl
def ty245 : TI := ⟨1, 8, false, .func, (some (.nilfn)), true⟩
theorem ok245 : tiOf Tryz.prog 245 = some ty245 := by kernel_rfl
def ty249 : TI := ⟨1, 0, false, .other, (some (.any)), true⟩
theorem ok249 : tiOf Tryz.prog 249 = some ty249 := by kernel_rfl
def ty251 : TI := ⟨1, 0, false, .other, (some (.any)), true⟩
theorem ok251 : tiOf Tryz.prog 251 = some ty251 := by kernel_rfl
def ty253 : TI := ⟨1, 0, false, .other, (some (.any)), true⟩
theorem ok253 : tiOf Tryz.prog 253 = some ty253 := by kernel_rfl
def ty255 : TI := ⟨1, 0, false, .other, (some (.any)), true⟩
theorem ok255 : tiOf Tryz.prog 255 = some ty255 := by kernel_rfl
def ty264 : TI := ⟨1, 8, false, .other, (some (.nilp)), true⟩
theorem ok264 : tiOf Tryz.prog 264 = some ty264 := by kernel_rfl
def ty268 : TI := ⟨1, 8, false, (.ptr 37), (some (.nilp)), true⟩
theorem ok268 : tiOf Tryz.prog 268 = some ty268 := by kernel_rfl
def ty272 : TI := ⟨1, 8, false, (.ptr 45), (some (.nilp)), true⟩
theorem ok272 : tiOf Tryz.prog 272 = some ty272 := by kernel_rfl
def ty274 : TI := ⟨1, 8, false, (.ptr 43), (some (.nilp)), true⟩
theorem ok274 : tiOf Tryz.prog 274 = some ty274 := by kernel_rfl
def ty275 : TI := ⟨1, 24, false, (.slice 4), (some (.nilsl)), true⟩
theorem ok275 : tiOf Tryz.prog 275 = some ty275 := by kernel_rfl
def ty281 : TI := ⟨20, 160, true, (.arr 20 37), (some (.agg [.int .u64 0, .int .u64 0, .int .u64 0, .int .u64 0, .int .u64 0, .int .u64 0, .int .u64 0, .int .u64 0, .int .u64 0, .int .u64 0, .int .u64 0, .int .u64 0, .int .u64 0, .int .u64 0, .int .u64 0, .int .u64 0, .int .u64 0, .int .u64 0, .int .u64 0, .int .u64 0])), true⟩
theorem ok281 : tiOf Tryz.prog 281 = some ty281 := by kernel_rfl
def ty282 : TI := ⟨1, 4, false, (.int .u32), (some (.int .u32 0)), true⟩
theorem ok282 : tiOf Tryz.prog 282 = some ty282 := by kernel_rfl
def ty283 : TI := ⟨65, 65, true, (.arr 65 5), (some (.agg [.int .u8 0, .int .u8 0, .int .u8 0, .int .u8 0, .int .u8 0, .int .u8 0, .int .u8 0, .int .u8 0, .int .u8 0, .int .u8 0, .int .u8 0, .int .u8 0, .int .u8 0, .int .u8 0, .int .u8 0, .int .u8 0, .int .u8 0, .int .u8 0, .int .u8 0, .int .u8 0, .int .u8 0, .int .u8 0, .int .u8 0, .int .u8 0, .int .u8 0, .int .u8 0, .int .u8 0, .int .u8 0, .int .u8 0, .int .u8 0, .int .u8 0, .int .u8 0, .int .u8 0, .int .u8 0, .int .u8 0, .int .u8 0, .int .u8 0, .int .u8 0, .int .u8 0, .int .u8 0, .int .u8 0, .int .u8 0, .int .u8 0, .int .u8 0, .int .u8 0, .int .u8 0, .int .u8 0, .int .u8 0, .int .u8 0, .int .u8 0, .int .u8 0, .int .u8 0, .int .u8 0, .int .u8 0, .int .u8 0, .int .u8 0, .int .u8 0, .int .u8 0, .int .u8 0, .int .u8 0, .int .u8 0, .int .u8 0, .int .u8 0, .int .u8 0, .int .u8 0])), true⟩
theorem ok283 : tiOf Tryz.prog 283 = some ty283 := by kernel_rfl
def ty284 : TI := ⟨1, 8, false, (.int .u64), (some (.int .u64 0)), true⟩
theorem ok284 : tiOf Tryz.prog 284 = some ty284 := by kernel_rfl
def ty290 : TI := ⟨1, 8, false, (.ptr 113), (some (.nilp)), true⟩
theorem ok290 : tiOf Tryz.prog 290 = some ty290 := by kernel_rfl
def ty292 : TI := ⟨1, 8, false, (.ptr 2), (some (.nilp)), true⟩
theorem ok292 : tiOf Tryz.prog 292 = some ty292 := by kernel_rfl
def ty293 : TI := ⟨1, 0, false, .other, (some (.any)), true⟩
theorem ok293 : tiOf Tryz.prog 293 = some ty293 := by kernel_rfl
def ty296 : TI := ⟨1, 8, false, (.int .i64), (some (.int .i64 0)), true⟩
theorem ok296 : tiOf Tryz.prog 296 = some ty296 := by kernel_rfl
def ty297 : TI := ⟨1, 0, false, .other, (some (.any)), true⟩
theorem ok297 : tiOf Tryz.prog 297 = some ty297 := by kernel_rfl
def ty299 : TI := ⟨1, 8, false, (.ptr 316), (some (.nilp)), true⟩
theorem ok299 : tiOf Tryz.prog 299 = some ty299 := by kernel_rfl
def ty306 : TI := ⟨1, 24, false, (.slice 275), (some (.nilsl)), true⟩
theorem ok306 : tiOf Tryz.prog 306 = some ty306 := by kernel_rfl
def ty310 : TI := ⟨1, 0, false, .other, (some (.any)), true⟩
theorem ok310 : tiOf Tryz.prog 310 = some ty310 := by kernel_rfl
def ty312 : TI := ⟨1, 0, false, .other, (some (.any)), true⟩
theorem ok312 : tiOf Tryz.prog 312 = some ty312 := by kernel_rfl
def ty315 : TI := ⟨3, 48, true, (.struct [(0, 9), (1, 9), (2, 154)]), (some (.agg [.str [], .str [], .nilif])), false⟩
theorem ok315 : tiOf Tryz.prog 315 = some ty315 := by kernel_rfl
def ty316 : TI := ⟨3, 48, true, (.struct [(0, 9), (1, 9), (2, 154)]), (some (.agg [.str [], .str [], .nilif])), false⟩
theorem ok316 : tiOf Tryz.prog 316 = some ty316 := by kernel_rfl
def ty318 : TI := ⟨8, 8, true, (.arr 8 5), (some (.agg [.int .u8 0, .int .u8 0, .int .u8 0, .int .u8 0, .int .u8 0, .int .u8 0, .int .u8 0, .int .u8 0])), true⟩
theorem ok318 : tiOf Tryz.prog 318 = some ty318 := by kernel_rfl
def ty321 : TI := ⟨3, 40, true, (.struct [(0, 150), (1, 3), (2, 4)]), (some (.agg [.nilsl, .int .i64 0, .bool false])), true⟩
theorem ok321 : tiOf Tryz.prog 321 = some ty321 := by kernel_rfl
def ty322 : TI := ⟨3, 40, true, (.struct [(0, 150), (1, 3), (2, 4)]), (some (.agg [.nilsl, .int .i64 0, .bool false])), true⟩
theorem ok322 : tiOf Tryz.prog 322 = some ty322 := by kernel_rfl
def ty323 : TI := ⟨32, 32, true, (.arr 32 5), (some (.agg [.int .u8 0, .int .u8 0, .int .u8 0, .int .u8 0, .int .u8 0, .int .u8 0, .int .u8 0, .int .u8 0, .int .u8 0, .int .u8 0, .int .u8 0, .int .u8 0, .int .u8 0, .int .u8 0, .int .u8 0, .int .u8 0, .int .u8 0, .int .u8 0, .int .u8 0, .int .u8 0, .int .u8 0, .int .u8 0, .int .u8 0, .int .u8 0, .int .u8 0, .int .u8 0, .int .u8 0, .int .u8 0, .int .u8 0, .int .u8 0, .int .u8 0, .int .u8 0])), true⟩
theorem ok323 : tiOf Tryz.prog 323 = some ty323 := by kernel_rfl
def ty324 : TI := ⟨64, 64, true, (.arr 64 5), (some (.agg [.int .u8 0, .int .u8 0, .int .u8 0, .int .u8 0, .int .u8 0, .int .u8 0, .int .u8 0, .int .u8 0, .int .u8 0, .int .u8 0, .int .u8 0, .int .u8 0, .int .u8 0, .int .u8 0, .int .u8 0, .int .u8 0, .int .u8 0, .int .u8 0, .int .u8 0, .int .u8 0, .int .u8 0, .int .u8 0, .int .u8 0, .int .u8 0, .int .u8 0, .int .u8 0, .int .u8 0, .int .u8 0, .int .u8 0, .int .u8 0, .int .u8 0, .int .u8 0, .int .u8 0, .int .u8 0, .int .u8 0, .int .u8 0, .int .u8 0, .int .u8 0, .int .u8 0, .int .u8 0, .int .u8 0, .int .u8 0, .int .u8 0, .int .u8 0, .int .u8 0, .int .u8 0, .int .u8 0, .int .u8 0, .int .u8 0, .int .u8 0, .int .u8 0, .int .u8 0, .int .u8 0, .int .u8 0, .int .u8 0, .int .u8 0, .int .u8 0, .int .u8 0, .int .u8 0, .int .u8 0, .int .u8 0, .int .u8 0, .int .u8 0, .int .u8 0])), true⟩
theorem ok324 : tiOf Tryz.prog 324 = some ty324 := by kernel_rfl
def ty325 : TI := ⟨1, 24, false, (.slice 150), (some (.nilsl)), true⟩
theorem ok325 : tiOf Tryz.prog 325 = some ty325 := by kernel_rfl
def ty326 : TI := ⟨3, 40, true, (.struct [(0, 325), (1, 3), (2, 4)]), (some (.agg [.nilsl, .int .i64 0, .bool false])), true⟩
theorem ok326 : tiOf Tryz.prog 326 = some ty326 := by kernel_rfl
def ty327 : TI := ⟨3, 40, true, (.struct [(0, 325), (1, 3), (2, 4)]), (some (.agg [.nilsl, .int .i64 0, .bool false])), true⟩
theorem ok327 : tiOf Tryz.prog 327 = some ty327 := by kernel_rfl
def ty330 : TI := ⟨256, 256, true, (.arr 256 5), (some (.agg [.int .u8 0, .int .u8 0, .int .u8 0, .int .u8 0, .int .u8 0, .int .u8 0, .int .u8 0, .int .u8 0, .int .u8 0, .int .u8 0, .int .u8 0, .int .u8 0, .int .u8 0, .int .u8 0, .int .u8 0, .int .u8 0, .int .u8 0, .int .u8 0, .int .u8 0, .int .u8 0, .int .u8 0, .int .u8 0, .int .u8 0, .int .u8 0, .int .u8 0, .int .u8 0, .int .u8 0, .int .u8 0, .int .u8 0, .int .u8 0, .int .u8 0, .int .u8 0, .int .u8 0, .int .u8 0, .int .u8 0, .int .u8 0, .int .u8 0, .int .u8 0, .int .u8 0, .int .u8 0, .int .u8 0, .int .u8 0, .int .u8 0, .int .u8 0, .int .u8 0, .int .u8 0, .int .u8 0, .int .u8 0, .int .u8 0, .int .u8 0, .int .u8 0, .int .u8 0, .int .u8 0, .int .u8 0, .int .u8 0, .int .u8 0, .int .u8 0, .int .u8 0, .int .u8 0, .int .u8 0, .int .u8 0, .int .u8 0, .int .u8 0, .int .u8 0, .int .u8 0, .int .u8 0, .int .u8 0, .int .u8 0, .int .u8 0, .int .u8 0, .int .u8 0, .int .u8 0, .int .u8 0, .int .u8 0, .int .u8 0, .int .u8 0, .int .u8 0, .int .u8 0, .int .u8 0, .int .u8 0, .int .u8 0, .int .u8 0, .int .u8 0, .int .u8 0, .int .u8 0, .int .u8 0, .int .u8 0, .int .u8 0, .int .u8 0, .int .u8 0, .int .u8 0, .int .u8 0, .int .u8 0, .int .u8 0, .int .u8 0, .int .u8 0, .int .u8 0, .int .u8 0, .int .u8 0, .int .u8 0, .int .u8 0, .int .u8 0, .int .u8 0, .int .u8 0, .int .u8 0, .int .u8 0, .int .u8 0, .int .u8 0, .int .u8 0, .int .u8 0, .int .u8 0, .int .u8 0, .int .u8 0, .int .u8 0, .int .u8 0, .int .u8 0, .int .u8 0, .int .u8 0, .int .u8 0, .int .u8 0, .int .u8 0, .int .u8 0, .int .u8 0, .int .u8 0, .int .u8 0, .int .u8 0, .int .u8 0, .int .u8 0, .int .u8 0, .int .u8 0, .int .u8 0, .int .u8 0, .int .u8 0, .int .u8 0, .int .u8 0, .int .u8 0, .int .u8 0, .int .u8 0, .int .u8 0, .int .u8 0, .int .u8 0, .int .u8 0, .int .u8 0, .int .u8 0, .int .u8 0, .int .u8 0, .int .u8 0, .int .u8 0, .int .u8 0, .int .u8 0, .int .u8 0, .int .u8 0, .int .u8 0, .int .u8 0, .int .u8 0, .int .u8 0, .int .u8 0, .int .u8 0, .int .u8 0, .int .u8 0, .int .u8 0, .int .u8 0, .int .u8 0, .int .u8 0, .int .u8 0, .int .u8 0, .int .u8 0, .int .u8 0, .int .u8 0, .int .u8 0, .int .u8 0, .int .u8 0, .int .u8 0, .int .u8 0, .int .u8 0, .int .u8 0, .int .u8 0, .int .u8 0, .int .u8 0, .int .u8 0, .int .u8 0, .int .u8 0, .int .u8 0, .int .u8 0, .int .u8 0, .int .u8 0, .int .u8 0, .int .u8 0, .int .u8 0, .int .u8 0, .int .u8 0, .int .u8 0, .int .u8 0, .int .u8 0, .int .u8 0, .int .u8 0, .int .u8 0, .int .u8 0, .int .u8 0, .int .u8 0, .int .u8 0, .int .u8 0, .int .u8 0, .int .u8 0, .int .u8 0, .int .u8 0, .int .u8 0, .int .u8 0, .int .u8 0, .int .u8 0, .int .u8 0, .int .u8 0, .int .u8 0, .int .u8 0, .int .u8 0, .int .u8 0, .int .u8 0, .int .u8 0, .int .u8 0, .int .u8 0, .int .u8 0, .int .u8 0, .int .u8 0, .int .u8 0, .int .u8 0, .int .u8 0, .int .u8 0, .int .u8 0, .int .u8 0, .int .u8 0, .int .u8 0, .int .u8 0, .int .u8 0, .int .u8 0, .int .u8 0, .int .u8 0, .int .u8 0, .int .u8 0, .int .u8 0, .int .u8 0, .int .u8 0, .int .u8 0, .int .u8 0, .int .u8 0, .int .u8 0, .int .u8 0, .int .u8 0, .int .u8 0, .int .u8 0, .int .u8 0, .int .u8 0, .int .u8 0, .int .u8 0, .int .u8 0, .int .u8 0, .int .u8 0])), true⟩
theorem ok330 : tiOf Tryz.prog 330 = some ty330 := by kernel_rfl
def ty331 : TI := ⟨2, 2, true, (.struct [(0, 5), (1, 5)]), (some (.agg [.int .u8 0, .int .u8 0])), true⟩
theorem ok331 : tiOf Tryz.prog 331 = some ty331 := by kernel_rfl
def ty332 : TI := ⟨2, 2, true, (.struct [(0, 5), (1, 5)]), (some (.agg [.int .u8 0, .int .u8 0])), true⟩
theorem ok332 : tiOf Tryz.prog 332 = some ty332 := by kernel_rfl
def ty333 : TI := ⟨32, 32, true, (.arr 16 332), (some (.agg [.int .u8 0, .int .u8 0, .int .u8 0, .int .u8 0, .int .u8 0, .int .u8 0, .int .u8 0, .int .u8 0, .int .u8 0, .int .u8 0, .int .u8 0, .int .u8 0, .int .u8 0, .int .u8 0, .int .u8 0, .int .u8 0, .int .u8 0, .int .u8 0, .int .u8 0, .int .u8 0, .int .u8 0, .int .u8 0, .int .u8 0, .int .u8 0, .int .u8 0, .int .u8 0, .int .u8 0, .int .u8 0, .int .u8 0, .int .u8 0, .int .u8 0, .int .u8 0])), true⟩
theorem ok333 : tiOf Tryz.prog 333 = some ty333 := by kernel_rfl
def ty335 : TI := ⟨1, 8, false, (.ptr 337), (some (.nilp)), true⟩
theorem ok335 : tiOf Tryz.prog 335 = some ty335 := by kernel_rfl
def ty336 : TI := ⟨1, 16, true, (.struct [(0, 9)]), (some (.agg [.str []])), true⟩
theorem ok336 : tiOf Tryz.prog 336 = some ty336 := by kernel_rfl
def ty337 : TI := ⟨1, 16, true, (.struct [(0, 9)]), (some (.agg [.str []])), true⟩
theorem ok337 : tiOf Tryz.prog 337 = some ty337 := by kernel_rfl
def tree : TT := (.node 159 (.node 70 (.node 40 (.node 24 (.node 9 (.node 3 (.node 2 (.leaf 0 (some ty0)) (.leaf 2 (some ty2))) (.node 4 (.leaf 3 (some ty3)) (.node 5 (.leaf 4 (some ty4)) (.leaf 5 (some ty5))))) (.node 21 (.node 20 (.leaf 9 (some ty9)) (.leaf 20 (some ty20))) (.node 22 (.leaf 21 (some ty21)) (.node 23 (.leaf 22 (some ty22)) (.leaf 23 (some ty23)))))) (.node 29 (.node 26 (.node 25 (.leaf 24 (some ty24)) (.leaf 25 (some ty25))) (.node 27 (.leaf 26 (some ty26)) (.node 28 (.leaf 27 (some ty27)) (.leaf 28 (some ty28))))) (.node 37 (.node 32 (.leaf 29 (some ty29)) (.leaf 32 (some ty32))) (.node 38 (.leaf 37 (some ty37)) (.node 39 (.leaf 38 (some ty38)) (.leaf 39 (some ty39))))))) (.node 55 (.node 45 (.node 42 (.node 41 (.leaf 40 (some ty40)) (.leaf 41 (some ty41))) (.node 43 (.leaf 42 (some ty42)) (.node 44 (.leaf 43 (some ty43)) (.leaf 44 (some ty44))))) (.node 47 (.node 46 (.leaf 45 (some ty45)) (.leaf 46 (some ty46))) (.node 52 (.leaf 47 (some ty47)) (.node 54 (.leaf 52 (some ty52)) (.leaf 54 (some ty54)))))) (.node 64 (.node 58 (.node 56 (.leaf 55 (some ty55)) (.leaf 56 (some ty56))) (.node 59 (.leaf 58 (some ty58)) (.node 62 (.leaf 59 (some ty59)) (.leaf 62 (some ty62))))) (.node 66 (.node 65 (.leaf 64 (some ty64)) (.leaf 65 (some ty65))) (.node 67 (.leaf 66 (some ty66)) (.node 68 (.leaf 67 (some ty67)) (.leaf 68 (some ty68)))))))) (.node 115 (.node 94 (.node 79 (.node 76 (.node 73 (.leaf 70 (some ty70)) (.leaf 73 (some ty73))) (.node 77 (.leaf 76 (some ty76)) (.node 78 (.leaf 77 (some ty77)) (.leaf 78 (some ty78))))) (.node 84 (.node 81 (.leaf 79 (some ty79)) (.leaf 81 (some ty81))) (.node 90 (.leaf 84 (some ty84)) (.node 93 (.leaf 90 (some ty90)) (.leaf 93 (some ty93)))))) (.node 105 (.node 98 (.node 95 (.leaf 94 (some ty94)) (.leaf 95 (some ty95))) (.node 101 (.leaf 98 (some ty98)) (.node 104 (.leaf 101 (some ty101)) (.leaf 104 (some ty104))))) (.node 112 (.node 107 (.leaf 105 (some ty105)) (.leaf 107 (some ty107))) (.node 113 (.leaf 112 (some ty112)) (.node 114 (.leaf 113 (some ty113)) (.leaf 114 (some ty114))))))) (.node 147 (.node 125 (.node 120 (.node 116 (.leaf 115 (some ty115)) (.leaf 116 (some ty116))) (.node 123 (.leaf 120 (some ty120)) (.node 124 (.leaf 123 (some ty123)) (.leaf 124 (some ty124))))) (.node 135 (.node 130 (.leaf 125 (some ty125)) (.leaf 130 (some ty130))) (.node 141 (.leaf 135 (some ty135)) (.node 143 (.leaf 141 (some ty141)) (.leaf 143 (some ty143)))))) (.node 152 (.node 149 (.node 148 (.leaf 147 (some ty147)) (.leaf 148 (some ty148))) (.node 150 (.leaf 149 (some ty149)) (.node 151 (.leaf 150 (some ty150)) (.leaf 151 (some ty151))))) (.node 155 (.node 153 (.leaf 152 (some ty152)) (.node 154 (.leaf 153 (some ty153)) (.leaf 154 (some ty154)))) (.node 157 (.leaf 155 (some ty155)) (.node 158 (.leaf 157 (some ty157)) (.leaf 158 (some ty158))))))))) (.node 244 (.node 198 (.node 182 (.node 169 (.node 161 (.node 160 (.leaf 159 (some ty159)) (.leaf 160 (some ty160))) (.node 163 (.leaf 161 (some ty161)) (.node 167 (.leaf 163 (some ty163)) (.leaf 167 (some ty167))))) (.node 173 (.node 170 (.leaf 169 (some ty169)) (.leaf 170 (some ty170))) (.node 178 (.leaf 173 (some ty173)) (.node 180 (.leaf 178 (some ty178)) (.leaf 180 (some ty180)))))) (.node 191 (.node 188 (.node 187 (.leaf 182 (some ty182)) (.leaf 187 (some ty187))) (.node 189 (.leaf 188 (some ty188)) (.node 190 (.leaf 189 (some ty189)) (.leaf 190 (some ty190))))) (.node 193 (.node 192 (.leaf 191 (some ty191)) (.leaf 192 (some ty192))) (.node 195 (.leaf 193 (some ty193)) (.node 196 (.leaf 195 (some ty195)) (.leaf 196 (some ty196))))))) (.node 221 (.node 206 (.node 200 (.node 199 (.leaf 198 (some ty198)) (.leaf 199 (some ty199))) (.node 202 (.leaf 200 (some ty200)) (.node 204 (.leaf 202 (some ty202)) (.leaf 204 (some ty204))))) (.node 214 (.node 207 (.leaf 206 (some ty206)) (.leaf 207 (some ty207))) (.node 218 (.leaf 214 (some ty214)) (.node 220 (.leaf 218 (some ty218)) (.leaf 220 (some ty220)))))) (.node 233 (.node 225 (.node 222 (.leaf 221 (some ty221)) (.leaf 222 (some ty222))) (.node 227 (.leaf 225 (some ty225)) (.node 232 (.leaf 227 (some ty227)) (.leaf 232 (some ty232))))) (.node 238 (.node 235 (.leaf 233 (some ty233)) (.leaf 235 (some ty235))) (.node 242 (.leaf 238 (some ty238)) (.node 243 (.leaf 242 (some ty242)) (.leaf 243 (some ty243)))))))) (.node 299 (.node 275 (.node 255 (.node 249 (.node 245 (.leaf 244 (some ty244)) (.leaf 245 (some ty245))) (.node 251 (.leaf 249 (some ty249)) (.node 253 (.leaf 251 (some ty251)) (.leaf 253 (some ty253))))) (.node 268 (.node 264 (.leaf 255 (some ty255)) (.leaf 264 (some ty264))) (.node 272 (.leaf 268 (some ty268)) (.node 274 (.leaf 272 (some ty272)) (.leaf 274 (some ty274)))))) (.node 290 (.node 282 (.node 281 (.leaf 275 (some ty275)) (.leaf 281 (some ty281))) (.node 283 (.leaf 282 (some ty282)) (.node 284 (.leaf 283 (some ty283)) (.leaf 284 (some ty284))))) (.node 293 (.node 292 (.leaf 290 (some ty290)) (.leaf 292 (some ty292))) (.node 296 (.leaf 293 (some ty293)) (.node 297 (.leaf 296 (some ty296)) (.leaf 297 (some ty297))))))) (.node 324 (.node 316 (.node 310 (.node 306 (.leaf 299 (some ty299)) (.leaf 306 (some ty306))) (.node 312 (.leaf 310 (some ty310)) (.node 315 (.leaf 312 (some ty312)) (.leaf 315 (some ty315))))) (.node 321 (.node 318 (.leaf 316 (some ty316)) (.leaf 318 (some ty318))) (.node 322 (.leaf 321 (some ty321)) (.node 323 (.leaf 322 (some ty322)) (.leaf 323 (some ty323)))))) (.node 331 (.node 326 (.node 325 (.leaf 324 (some ty324)) (.leaf 325 (some ty325))) (.node 327 (.leaf 326 (some ty326)) (.node 330 (.leaf 327 (some ty327)) (.leaf 330 (some ty330))))) (.node 335 (.node 332 (.leaf 331 (some ty331)) (.node 333 (.leaf 332 (some ty332)) (.leaf 333 (some ty333)))) (.node 336 (.leaf 335 (some ty335)) (.node 337 (.leaf 336 (some ty336)) (.leaf 337 (some ty337))))))))))
def TY : TypeId → Option TI := tree.look
theorem tyOk : TyOk Tryz.prog TY := TT.ok (t := tree) ⟨⟨⟨⟨⟨⟨⟨ok0, ok2⟩, ⟨ok3, ⟨ok4, ok5⟩⟩⟩, ⟨⟨ok9, ok20⟩, ⟨ok21, ⟨ok22, ok23⟩⟩⟩⟩, ⟨⟨⟨ok24, ok25⟩, ⟨ok26, ⟨ok27, ok28⟩⟩⟩, ⟨⟨ok29, ok32⟩, ⟨ok37, ⟨ok38, ok39⟩⟩⟩⟩⟩, ⟨⟨⟨⟨ok40, ok41⟩, ⟨ok42, ⟨ok43, ok44⟩⟩⟩, ⟨⟨ok45, ok46⟩, ⟨ok47, ⟨ok52, ok54⟩⟩⟩⟩, ⟨⟨⟨ok55, ok56⟩, ⟨ok58, ⟨ok59, ok62⟩⟩⟩, ⟨⟨ok64, ok65⟩, ⟨ok66, ⟨ok67, ok68⟩⟩⟩⟩⟩⟩, ⟨⟨⟨⟨⟨ok70, ok73⟩, ⟨ok76, ⟨ok77, ok78⟩⟩⟩, ⟨⟨ok79, ok81⟩, ⟨ok84, ⟨ok90, ok93⟩⟩⟩⟩, ⟨⟨⟨ok94, ok95⟩, ⟨ok98, ⟨ok101, ok104⟩⟩⟩, ⟨⟨ok105, ok107⟩, ⟨ok112, ⟨ok113, ok114⟩⟩⟩⟩⟩, ⟨⟨⟨⟨ok115, ok116⟩, ⟨ok120, ⟨ok123, ok124⟩⟩⟩, ⟨⟨ok125, ok130⟩, ⟨ok135, ⟨ok141, ok143⟩⟩⟩⟩, ⟨⟨⟨ok147, ok148⟩, ⟨ok149, ⟨ok150, ok151⟩⟩⟩, ⟨⟨ok152, ⟨ok153, ok154⟩⟩, ⟨ok155, ⟨ok157, ok158⟩⟩⟩⟩⟩⟩⟩, ⟨⟨⟨⟨⟨⟨ok159, ok160⟩, ⟨ok161, ⟨ok163, ok167⟩⟩⟩, ⟨⟨ok169, ok170⟩, ⟨ok173, ⟨ok178, ok180⟩⟩⟩⟩, ⟨⟨⟨ok182, ok187⟩, ⟨ok188, ⟨ok189, ok190⟩⟩⟩, ⟨⟨ok191, ok192⟩, ⟨ok193, ⟨ok195, ok196⟩⟩⟩⟩⟩, ⟨⟨⟨⟨ok198, ok199⟩, ⟨ok200, ⟨ok202, ok204⟩⟩⟩, ⟨⟨ok206, ok207⟩, ⟨ok214, ⟨ok218, ok220⟩⟩⟩⟩, ⟨⟨⟨ok221, ok222⟩, ⟨ok225, ⟨ok227, ok232⟩⟩⟩, ⟨⟨ok233, ok235⟩, ⟨ok238, ⟨ok242, ok243⟩⟩⟩⟩⟩⟩, ⟨⟨⟨⟨⟨ok244, ok245⟩, ⟨ok249, ⟨ok251, ok253⟩⟩⟩, ⟨⟨ok255, ok264⟩, ⟨ok268, ⟨ok272, ok274⟩⟩⟩⟩, ⟨⟨⟨ok275, ok281⟩, ⟨ok282, ⟨ok283, ok284⟩⟩⟩, ⟨⟨ok290, ok292⟩, ⟨ok293, ⟨ok296, ok297⟩⟩⟩⟩⟩, ⟨⟨⟨⟨ok299, ok306⟩, ⟨ok310, ⟨ok312, ok315⟩⟩⟩, ⟨⟨ok316, ok318⟩, ⟨ok321, ⟨ok322, ok323⟩⟩⟩⟩, ⟨⟨⟨ok324, ok325⟩, ⟨ok326, ⟨ok327, ok330⟩⟩⟩, ⟨⟨ok331, ⟨ok332, ok333⟩⟩, ⟨ok335, ⟨ok336, ok337⟩⟩⟩⟩⟩⟩⟩⟩
end Go.Vc.Z
namespace Go.Vc.Z
open Go Go.Vc Go.Proofs
theorem inK_def {k : IntKind} {n : Int} : inK k n ↔ Go.Vc.lo k ≤ n ∧ n ≤ Go.Vc.hi k := Iff.rfl
abbrev slE {α : Type} [Inhabited α] (sz : Nat) (enc : α → List AV) (l : List α) : AV := .sl false sz l.length (fun e => enc (l.getD e default))
structure Coupon where
 flight : Int
 day : Int
 value : Int
 status : Int
 holder : Int
 next : Int
deriving Inhabited
abbrev Coupon.enc (c : Coupon) : List AV := [.int .i64 c.flight, .int .i64 c.day, .int .i64 c.value, .int .i64 c.status, .int .i64 c.holder, .int .u64 c.next]
structure Tax where
 code : Int
 amount : Int
deriving Inhabited
abbrev Tax.enc (c : Tax) : List AV := [.int .i64 c.code, .int .i64 c.amount]
structure Event where
 day : Int
 coupon : Int
 src : Int
 dst : Int
deriving Inhabited
abbrev Event.enc (c : Event) : List AV := [.int .i64 c.day, .int .i64 c.coupon, .int .i64 c.src, .int .i64 c.dst]
structure Ticket where
 number : Int
 locator : List UInt8
 issued : Int
 coupons : List Coupon
 taxes : List Tax
 prev : Int
 origin : Int
 first : Int
 voucher : Int
 posts : Int
 history : List Event
deriving Inhabited
abbrev Ticket.enc (t : Ticket) : List AV := [.int .u64 t.number, .str t.locator, .int .i64 t.issued, slE 6 Coupon.enc t.coupons, slE 2 Tax.enc t.taxes, .int .u64 t.prev, .int .u64 t.origin, .int .u64 t.first, .int .i64 t.voucher, .int .i64 t.posts, slE 4 Event.enc t.history]
structure Posting where
 day : Int
 ticket : Int
 seq : Int
 kind : Int
 cash : Int
 liability : Int
 revenue : Int
 tax : Int
 penalty : Int
 voucher : Int
deriving Inhabited
abbrev Posting.enc (p : Posting) : List AV := [.int .i64 p.day, .int .u64 p.ticket, .int .i64 p.seq, .int .i64 p.kind, .int .i64 p.cash, .int .i64 p.liability, .int .i64 p.revenue, .int .i64 p.tax, .int .i64 p.penalty, .int .i64 p.voucher]
structure Loan where
 ticket : Int
 coupon : Int
 held : Bool
 what : Coupon
deriving Inhabited
abbrev Loan.enc (l : Loan) : List AV := [.int .u64 l.ticket, .int .i64 l.coupon, .bool l.held, .int .i64 l.what.flight, .int .i64 l.what.day, .int .i64 l.what.value, .int .i64 l.what.status, .int .i64 l.what.holder, .int .u64 l.what.next]
structure Answer where
 code : Int
 tickets : List Ticket
 postings : List Posting
 loans : List Loan
deriving Inhabited
abbrev Answer.enc (a : Answer) : List AV := [.int .i64 a.code, slE 11 Ticket.enc a.tickets, slE 10 Posting.enc a.postings, slE 9 Loan.enc a.loans]
structure Told where
 answer : Answer
 code : Int
 came : Int
deriving Inhabited
abbrev Told.enc (t : Told) : List AV := t.answer.enc ++ [.int .i64 t.code, .int .i64 t.came]
end Go.Vc.Z
namespace Go.Vc
open Go
theorem ble_false {a b : Nat} : Nat.ble a b = false ↔ b < a := by
 rw [← Bool.not_eq_true, Nat.ble_eq]; omega
theorem ble_true {a b : Nat} : Nat.ble a b = true ↔ a ≤ b := by rw [Nat.ble_eq]
theorem beq_true {a b : Nat} : Nat.beq a b = true ↔ a = b := by rw [Nat.beq_eq]
theorem beq_false {a b : Nat} : Nat.beq a b = false ↔ ¬ a = b := by rw [← Bool.not_eq_true, Nat.beq_eq]
theorem bytesOf_length (n : Nat) (g : Nat → List AV) : (bytesOf n g).length = n := by simp [bytesOf]
noncomputable def sI : Int → Int := Classical.choose (⟨id, rfl⟩ : ∃ f : Int → Int, f = id)
theorem sI_eq (n : Int) : sI n = n := congrFun (Classical.choose_spec (⟨id, rfl⟩ : ∃ f : Int → Int, f = id)) n
noncomputable def sB : Bool → Bool := Classical.choose (⟨id, rfl⟩ : ∃ f : Bool → Bool, f = id)
theorem sB_eq (n : Bool) : sB n = n := congrFun (Classical.choose_spec (⟨id, rfl⟩ : ∃ f : Bool → Bool, f = id)) n
noncomputable def sS : List UInt8 → List UInt8 := Classical.choose (⟨id, rfl⟩ : ∃ f : List UInt8 → List UInt8, f = id)
theorem sS_eq (n : List UInt8) : sS n = n := congrFun (Classical.choose_spec (⟨id, rfl⟩ : ∃ f : List UInt8 → List UInt8, f = id)) n
noncomputable def sN : Nat → Nat := Classical.choose (⟨id, rfl⟩ : ∃ f : Nat → Nat, f = id)
theorem sN_eq (n : Nat) : sN n = n := congrFun (Classical.choose_spec (⟨id, rfl⟩ : ∃ f : Nat → Nat, f = id)) n
noncomputable def sL : List (List UInt8) → List (List UInt8) := Classical.choose (⟨id, rfl⟩ : ∃ f : List (List UInt8) → List (List UInt8), f = id)
theorem sL_eq (n : List (List UInt8)) : sL n = n := congrFun (Classical.choose_spec (⟨id, rfl⟩ : ∃ f : List (List UInt8) → List (List UInt8), f = id)) n
def PC.fun (f : List AV → Option (Prop × AV)) : PC := {
 T cs Q := match f cs with | some (p, r) => p ∧ Q r | none => False
 det cs N h := by
  cases hf : f cs with
  | none => rw [hf] at h; exact h.elim
  | some pr => obtain ⟨p, r⟩ := pr; rw [hf] at h; exact ⟨r, h.2, h.1, rfl⟩ }
theorem goodP_fun {F : Nat → Obj → Prop} {P : Program} {TY : TypeId → Option TI} {C : FuncId → Option Ctr} {D : PT} {wr : Tmp → Bool}
  (hm : P.follows .mixedOrders = true) (hTY : TyOk P TY) (hD : PTOk F P D) (hC : CtrOk F P C) {f : FuncId} {fn : Func} (hf : P.funcs[f]? = some fn) {g : List AV → Option (Prop × AV)} (L : List AV → Nat → Option LR)
  (h : ∀ cs p r, g cs = some (p, r) → factL cs → p → fnE TY C D wr (L cs) fn cs [] (fun c H' => expE H' c (isA r))) : GoodP F P f (PC.fun g) := by
 refine goodP_of_fnE (wr := wr) hm hTY hD hC hf L fun cs Q hfl hT => ?_
 simp only [PC.fun] at hT
 cases hg : g cs with
 | none => rw [hg] at hT; exact hT.elim
 | some pr => obtain ⟨p, r⟩ := pr; rw [hg] at hT; exact ⟨r, hT.2, h cs p r hg hfl hT.1⟩
theorem goodP_ofC {F : Nat → Obj → Prop} {P : Program} {TY : TypeId → Option TI} {D : PT} {wr : Tmp → Bool} {α : Type} {C : α → FuncId → Option Ctr} {args : α → List AV} {pre : α → Prop} {res : α → AV} (hm : P.follows .mixedOrders = true) (hTY : TyOk P TY) (hD : PTOk F P D) (hC : ∀ x, CtrOk F P (C x)) {f : FuncId} {fn : Func} (hf : P.funcs[f]? = some fn) (L : α → Nat → Option LR)
  (hu : ∀ x, underL 0 (args x) = true)
  (h : ∀ x, factL (args x) → pre x → fnE TY (C x) D wr (L x) fn (args x) [] (fun c H' => expE H' c (isA (res x)))) : GoodP F P f (PC.of args pre res) := by
 intro S w cs vs Q hs hv hpre
 obtain ⟨x, h1, h2, h3⟩ := hpre
 have hl := leL_length h2
 have hv' : VL (fun _ => none) S w (args x) vs := by
  refine ⟨by rw [← hl]; exact hv.1, fun i c v hc hv' => ?_⟩
  have hi : i < cs.length := by
   rcases Nat.lt_or_ge i (args x).length with h' | h'
   ·omega
   ·rw [List.getElem?_eq_none h'] at hc; cases hc
  exact (hv.2 i cs[i] v (List.getElem?_eq_getElem hi) hv').le (σ := fun i => i) (n := 0) (fun i b hi => by omega) (leL_get h2 i _ _ (List.getElem?_eq_getElem hi) hc) (underL_get (hu x) i c hc)
 have hH : HRel (fun _ => none) S w [] := ⟨fun i j bi bj b hi => by simp at hi, fun i b hi => by simp at hi, fun i b hi => by cases hi⟩
 refine (fnE_calls hm hTY hD (hC x) hf hs hH hv' (h x hv'.fact h1)).mono ?_
 rintro e w' ⟨v, c, H', ρ', S', rfl, h1, h2, h3', h4, h5⟩
 obtain ⟨c', ids, h6, h7, h8⟩ := frzE_spec h3' h1 h2
 unfold isA at h6
 split at h6
 ·rename_i hu
  refine ⟨v, res x, addS ρ' S' ids, rfl, h3, h7.le (σ := fun i => i) (n := 0) (fun i b hi => by omega) h6 hu, ⟨fun _ _ h => (by cases h), fun b hb => .inl (h4.st b hb), h4.same, h4.size, h4.shp, fun _ _ h => (by cases h), fun b hb => ?_, h4.os, h4.tape, h4.output⟩, addS_sok h3' h5 ids⟩
  rcases hb with hb | ⟨i, _, hb⟩
  ·rcases h4.stf b hb with h9 | ⟨j, h9⟩ | h9
   ·exact .inl h9
   ·cases h9
   ·exact .inr (.inr h9)
  ·rcases h4.fresh i b hb with ⟨j, h9⟩ | h9
   ·cases h9
   ·exact .inr (.inr h9)
 ·exact h6.elim
def inlC0 (TY : TypeId → Option TI) (C : FuncId → Option Ctr) (D : PT) (wr : Tmp → Bool) (L : List AV → List Blk → Nat → Option LR) (fn : Func) : Ctr := fun cs H Q => ∃ Q0 : AV → List Blk → Prop, fnE TY C D wr (L cs H) fn cs H Q0 ∧ ∀ c H', Q0 c H' → Q c H'
noncomputable def inlC : (TypeId → Option TI) → (FuncId → Option Ctr) → PT → (Tmp → Bool) → (List AV → List Blk → Nat → Option LR) → Func → Ctr := Classical.choose (⟨inlC0, rfl⟩ : ∃ f, f = inlC0)
theorem inlC_eq : inlC = inlC0 := Classical.choose_spec (⟨inlC0, rfl⟩ : ∃ f, f = inlC0)
attribute [irreducible] inlC
theorem inlC_intro {TY : TypeId → Option TI} {C : FuncId → Option Ctr} {D : PT} {wr : Tmp → Bool} {L : List AV → List Blk → Nat → Option LR} {fn : Func} {cs : List AV} {H : List Blk} {Q : AV → List Blk → Prop} (Q0 : AV → List Blk → Prop) (h1 : fnE TY C D wr (L cs H) fn cs H Q0) (h2 : ∀ c H', Q0 c H' → Q c H') : inlC TY C D wr L fn cs H Q := by
 rw [inlC_eq]; exact ⟨Q0, h1, h2⟩
def setCell (H : List Blk) (p k : Nat) (c : AV) : List Blk := match H[p]? with | some (.var cs T) => H.set p (.var (cs.set k c) T) | _ => H
theorem inlC_num {TY : TypeId → Option TI} {C : FuncId → Option Ctr} {D : PT} {wr : Tmp → Bool} {L : List AV → List Blk → Nat → Option LR} {fn : Func} {cs : List AV} {H : List Blk} {Q : AV → List Blk → Prop} (r : AV) (p k q j : Nat) (v : AV) (B : Bool) (h1 : fnE TY C D wr (L cs H) fn cs H (fun c H' => c = r ∧ ∃ b, b = B ∧ H' = setCell (setCell H p k (.bool b)) q j v)) (h2 : Q r (setCell (setCell H p k (.bool (sB B))) q j v)) : inlC TY C D wr L fn cs H Q := by
 refine inlC_intro _ h1 ?_
 rintro c H' ⟨rfl, b, rfl, rfl⟩
 rw [← sB_eq b]; exact h2
theorem good_inlC {F : Nat → Obj → Prop} {P : Program} {TY : TypeId → Option TI} {C : FuncId → Option Ctr} {D : PT} {wr : Tmp → Bool} (hm : P.follows .mixedOrders = true) (hTY : TyOk P TY) (hD : PTOk F P D) (hC : CtrOk F P C) {f : FuncId} {fn : Func} (hf : P.funcs[f]? = some fn) (L : List AV → List Blk → Nat → Option LR) :
  Good F P f (inlC TY C D wr L fn) := by
 intro ρ S w H cs vs Q hs hH hv hK
 rw [inlC_eq] at hK
 obtain ⟨Q0, h1, h2⟩ := hK
 refine (fnE_calls hm hTY hD hC hf hs hH hv h1).mono ?_
 rintro e w' ⟨v, c, H', ρ', S', he, h3, h4⟩
 exact ⟨v, c, H', ρ', S', he, h2 _ _ h3, h4⟩
end Go.Vc
namespace Go.Vc
open Go
theorem wS : (∀ {a b : Nat}, Nat.ble a b = true ↔ a ≤ b) ∧ (∀ {a b : Nat}, Nat.ble a b = false ↔ b < a) ∧ (∀ {a b : Nat}, Nat.beq a b = true ↔ a = b) ∧ (∀ {a b : Nat}, Nat.beq a b = false ↔ ¬ a = b) ∧
  (∀ n : Int, sI n = n) ∧ (∀ n : Bool, sB n = n) ∧ (∀ n : List UInt8, sS n = n) ∧ (∀ n : Nat, sN n = n) ∧ (∀ a b : Int, ltI a b = decide (a < b)) ∧ (∀ a b : Int, leI a b = decide (a ≤ b)) ∧ (∀ a b : Int, eqI a b = (a == b)) ∧
  (∀ {p : Prop} [Decidable p], (decide p = true) = p) ∧ (∀ {p : Prop} {x : Decidable p}, decide p = false ↔ ¬ p) ∧ (∀ {α : Type} [BEq α] [LawfulBEq α] {a b : α}, (a == b) = true ↔ a = b) ∧ (∀ {α : Type} [BEq α] [LawfulBEq α] {a b : α}, (a != b) = true ↔ a ≠ b) ∧
  (∀ {α : Type} (a b : α), (a ≠ b) = ¬ a = b) ∧ (∀ {α : Type} [BEq α] [LawfulBEq α] {a b : α}, (a == b) = false ↔ a ≠ b) ∧ (∀ {α : Type} [BEq α] [LawfulBEq α] {a b : α}, (a != b) = false ↔ a = b) ∧
  (∀ b : Bool, (¬ b = true) = (b = false)) ∧ (∀ b : Bool, (¬ b = false) = (b = true)) ∧ (∀ {a b : Int}, ¬ a < b ↔ b ≤ a) ∧ (∀ {a b : Int}, ¬ a ≤ b ↔ b < a) ∧ (∀ {α : Type} [LT α] {x y : α}, x > y ↔ y < x) ∧ (∀ {α : Type} [LE α] {x y : α}, x ≥ y ↔ y ≤ x) ∧
  (∀ {a b : Nat}, ¬ a < b ↔ b ≤ a) ∧ (∀ {a b : Nat}, ¬ a ≤ b ↔ b < a) ∧ (∀ {p : Prop} [Decidable p], ¬ ¬ p ↔ p) ∧ (∀ {a b : Bool}, (!a) = b ↔ a = !b) ∧ ((!true) = false) ∧ ((!false) = true) ∧
  (∀ {α : Type} (a b : α), (bif true then a else b) = a) ∧ (∀ {α : Type} (a b : α), (bif false then a else b) = b) ∧ (∀ a b : Bool, ((a || b) = true) = (a = true ∨ b = true)) ∧ (∀ a b : Bool, ((a && b) = true) = (a = true ∧ b = true)) ∧
  (∀ {x y : Bool}, (x || y) = false ↔ x = false ∧ y = false) ∧ (∀ {x y : Bool}, (x && y) = false ↔ x = false ∨ y = false) :=
 ⟨ble_true, ble_false, beq_true, beq_false, sI_eq, sB_eq, sS_eq, sN_eq, ltI_eq, leI_eq, eqI_eq, decide_eq_true_eq, decide_eq_false_iff_not, beq_iff_eq, bne_iff_ne, ne_eq, beq_eq_false_iff_ne, bne_eq_false_iff_eq, Bool.not_eq_true, Bool.not_eq_false, Int.not_lt, Int.not_le, gt_iff_lt, ge_iff_le,
  Nat.not_lt, Nat.not_le, Decidable.not_not, Bool.not_eq_eq_eq_not, Bool.not_true, Bool.not_false, cond_true, cond_false, Bool.or_eq_true, Bool.and_eq_true, Bool.or_eq_false_iff, Bool.and_eq_false_iff⟩
theorem wQ : (∀ n : Int, sI n = n) ∧ (∀ n : Bool, sB n = n) ∧ (∀ n : List UInt8, sS n = n) ∧ (∀ n : Nat, sN n = n) := ⟨sI_eq, sB_eq, sS_eq, sN_eq⟩
theorem wT : (∀ {a b : Int}, 0 ≤ a → a.tdiv b = a / b) ∧ (∀ {a b : Int}, 0 ≤ a → a.tmod b = a % b) := ⟨Int.tdiv_eq_ediv_of_nonneg, Int.tmod_eq_emod_of_nonneg⟩
mutual
theorem leA_rfl : ∀ a : AV, leA (fun i => i) a a
 | .agg cs => by simpa [leA] using leL_rfl cs
 | .tup cs => by simpa [leA] using leL_rfl cs
 | .fn f cs => by simpa [leA] using leL_rfl cs
 | .iface t v => by simpa [leA] using leA_rfl v
 | .rptr cs j => by simp [leA]
 | .sl c z l g => by simp [leA]
 | .nilsl => by simp [leA]
 | .osl id z o l cap => by simp [leA]
 | .ptr id j => by simp [leA]
 | .eptr id sz e j => by simp [leA]
 | .map id => by simp [leA]
 | .iter id => by simp [leA]
 | .int k n => by simp [leA]
 | .str l => by simp [leA]
 | .bool b => by simp [leA]
 | .any => by simp [leA]
 | .nilp => by simp [leA]
 | .nilfn => by simp [leA]
 | .nilmap => by simp [leA]
 | .nilif => by simp [leA]
theorem leL_rfl : ∀ l : List AV, leL (fun i => i) l l
 | [] => by simp [leL]
 | c :: cs => by simpa [leL] using ⟨leA_rfl c, leL_rfl cs⟩
end
end Go.Vc
namespace Go.Vc
open Go
def CV (W : World) (al : List AV) (cs : List Value) : Prop :=
 al.length = cs.length ∧ ∀ (i : Nat) (c : AV) (v : Value), al[i]? = some c → cs[i]? = some v → V (fun _ => none) (fun b => b < W.heap.size) W c v
theorem CV.nil {W : World} {cs : List Value} {n : Nat} (h : cs.length = n) : CV W [] (cs.drop n) := by
 refine ⟨by simp [h], fun i c v h1 => by simp at h1⟩
theorem CV.app {W : World} {a b : List AV} {x y : List Value} (h : CV W a x) (k : CV W b y) : CV W (a ++ b) (x ++ y) := by
 refine ⟨by simp [h.1, k.1], fun i c v hc hv => ?_⟩
 by_cases hi : i < a.length
 ·rw [List.getElem?_append_left hi] at hc
  rw [List.getElem?_append_left (by rw [← h.1]; exact hi)] at hv
  exact h.2 i c v hc hv
 ·rw [List.getElem?_append_right (by omega)] at hc
  rw [List.getElem?_append_right (by rw [← h.1]; omega)] at hv
  rw [← h.1] at hv
  exact k.2 _ c v hc hv
theorem CV.step {W : World} {a b : List AV} {cs : List Value} {o s : Nat} (h : CV W a ((cs.drop o).take s)) (k : CV W b (cs.drop (o + s))) : CV W (a ++ b) (cs.drop o) := by
 have := h.app k
 rw [← List.drop_drop, List.take_append_drop] at this
 exact this
theorem CV.one {W : World} {a : AV} {v : Value} (h : V (fun _ => none) (fun b => b < W.heap.size) W a v) : CV W [a] [v] := by
 refine ⟨rfl, fun i c v' hc hv => ?_⟩
 cases i with
 | zero => simp at hc hv; rw [← hc, ← hv]; exact h
 | succ i => simp at hc
def Dec (P : Program) (t : TypeId) {α : Type} (ec : α → List AV) : Prop :=
 ∀ {H : Type} (enc : TypeId × Value → H) (W : World) (fuel : Nat) (cs : List Value) (x : DataW H × List MemPlace), DataW.trod enc P W 0 (fun _ => true) true fuel t cs = some x → ∃ a, CV W (ec a) cs
section
variable {P : Program}
theorem und_of {t : TypeId} {i : TI} (h : tiOf P t = some i) : ∃ d, P.underlying t = some d ∧ TK.of d = i.kind ∧ P.cellsOf t = i.size := by
 unfold tiOf at h
 split at h
 ·rename_i info d h1 h2
  cases h
  exact ⟨d, h2, rfl, by simp [Program.cellsOf, h1]⟩
 ·cases h
theorem und_int {t : TypeId} {i : TI} {k : IntKind} (h : tiOf P t = some i) (hk : i.kind = .int k) : P.underlying t = some (.int k) := by
 obtain ⟨d, h1, h2, _⟩ := und_of h
 rw [hk] at h2
 cases d <;> simp [TK.of] at h2
 ·rw [h1, h2]
 ·split at h2 <;> cases h2
theorem und_str {t : TypeId} {i : TI} (h : tiOf P t = some i) (hk : i.kind = .str) : P.underlying t = some .string := by
 obtain ⟨d, h1, h2, _⟩ := und_of h
 rw [hk] at h2
 cases d <;> simp [TK.of] at h2
 ·exact h1
 ·split at h2 <;> cases h2
theorem und_slice {t e : TypeId} {i : TI} (h : tiOf P t = some i) (hk : i.kind = .slice e) : P.underlying t = some (.slice e) := by
 obtain ⟨d, h1, h2, _⟩ := und_of h
 rw [hk] at h2
 cases d <;> simp [TK.of] at h2
 ·rw [h1, h2]
 ·split at h2 <;> cases h2
theorem und_struct {t : TypeId} {i : TI} {fs : List (Nat × TypeId)} (h : tiOf P t = some i) (hk : i.kind = .struct fs) :
  ∃ gs : Array Field, P.underlying t = some (.struct gs) ∧ (gs.toList.map fun f => (f.offset, f.type)) = fs := by
 obtain ⟨d, h1, h2, _⟩ := und_of h
 rw [hk] at h2
 cases d <;> simp only [TK.of] at h2 <;> try (cases h2; done)
 rename_i gs
 split at h2
 ·cases h2
 ·simp only [TK.struct.injEq] at h2
  exact ⟨gs, h1, h2⟩
theorem dec_int {t : TypeId} {i : TI} {k : IntKind} (h : tiOf P t = some i) (hk : i.kind = .int k) : Dec P t (fun n : Int => [.int k n]) := by
 intro H enc W fuel cs x hx
 obtain ⟨n, rfl, _, hw⟩ := DataW.trod_int (und_int h hk) hx
 simp only [Lit.wf, Bool.and_eq_true, decide_eq_true_eq] at hw
 exact ⟨n, CV.one (.int k n hw.1 hw.2)⟩
theorem dec_str {t : TypeId} {i : TI} (h : tiOf P t = some i) (hk : i.kind = .str) : Dec P t (fun s : List UInt8 => [.str s]) := by
 intro H enc W fuel cs x hx
 obtain ⟨s, rfl, _, hs⟩ := DataW.trod_string (und_str h hk) hx
 exact ⟨s.data.toList, CV.one (.str _ s rfl (by simpa using hs))⟩
theorem cells_get {W : World} {a : Addr} {n : Nat} {cs : List Value} (h : W.cells? 0 a n = some cs) : cs.length = n ∧ ∀ j, j < n → W.cell? (a.add j) = cs[j]? := by
 unfold World.cells? at h
 rw [if_pos (Nat.zero_le _)] at h
 exact ⟨by simpa using mapM_some_length h, fun j hj => mapM_some_get h j j (by simp [hj])⟩
theorem spot_none {W : World} {a : Addr} {v : Value} (h : W.cell? a = some v) : a.spot = none := by
 cases hsp : a.spot with
 | none => rfl
 | some s =>
  simp only [World.cell?] at h
  split at h
  ·simp [hsp] at h
  ·cases h
theorem add_add {b o i j : Nat} : ((⟨b, o, none⟩ : Addr).add i).add j = ⟨b, o + i + j, none⟩ := by
 unfold Addr.add
 by_cases hi : i = 0 <;> by_cases hj : j = 0 <;> simp [hi, hj] <;> omega
theorem lt_of_get {l : List AV} {q : Nat} {c : AV} (h : l[q]? = some c) : q < l.length := by
 rcases Nat.lt_or_ge q l.length with h' | h'
 ·exact h'
 ·rw [List.getElem?_eq_none h'] at h; cases h
theorem dec_slice {t e : TypeId} {i j : TI} {sz : Nat} {α : Type} [Inhabited α] {ec : α → List AV} (h : tiOf P t = some i) (hk : i.kind = .slice e) (hj : tiOf P e = some j) (hsz : j.size = sz) (h0 : 0 < sz) (hd : Dec P e ec) :
  Dec P t (fun l : List α => [.sl false sz l.length (fun n => ec (l.getD n default))]) := by
 intro H enc W fuel cs x hx
 obtain ⟨_, _, _, hcells⟩ := und_of hj
 rw [hsz] at hcells
 rcases DataW.trod_slice (und_slice h hk) hx with ⟨rfl, _⟩ | ⟨a, len, cap, elems, rest, n, rfl, rfl, rfl, _, hl, hm, hel, he, hr, _⟩
 ·exact ⟨[], CV.one (.sln false sz _ none)⟩
 rw [hcells] at he hr
 have hr := hr rfl
 rcases Nat.eq_zero_or_pos cap with hc0 | hc0
 ·subst hc0
  obtain rfl : len = 0 := by omega
  exact ⟨[], CV.one (.sln false sz _ (some a))⟩
 have hspot : a.spot = none := by
  have : ∃ y, (W.cells? 0 (a.add (0 * sz)) sz).bind (DataW.trod enc P W 0 (fun _ => true) true n e) = some y := by
   rcases Nat.eq_zero_or_pos len with hl0 | hl0
   ·subst hl0
    have h1 := hr.2 0 (by omega)
    rw [Nat.add_zero] at h1
    rw [h1]
    exact ⟨_, List.getElem?_eq_getElem (by rw [hr.1]; omega)⟩
   ·rw [he 0 hl0]
    exact ⟨_, List.getElem?_eq_getElem (by rw [hel]; omega)⟩
  obtain ⟨y, hy⟩ := this
  rw [Option.bind_eq_some_iff] at hy
  obtain ⟨cs', hcs', _⟩ := hy
  obtain ⟨h1, h2⟩ := cells_get hcs'
  have h3 := h2 0 h0
  rw [List.getElem?_eq_getElem (by omega)] at h3
  have h4 := spot_none h3
  simpa [Addr.add] using h4
 obtain ⟨b, o, sp⟩ := a
 obtain rfl : sp = none := hspot
 have each : ∀ m, ∃ a : α, m < len → b < W.heap.size ∧ ∃ csm : List Value, csm.length = sz ∧ (∀ q, q < sz → W.cell? ⟨b, o + m * sz + q, none⟩ = csm[q]?) ∧ CV W (ec a) csm := by
  intro m
  by_cases hm : m < len
  ·have h1 := he m hm
   rw [List.getElem?_eq_getElem (by omega)] at h1
   rw [Option.bind_eq_some_iff] at h1
   obtain ⟨csm, h2, h3⟩ := h1
   obtain ⟨h4, h5⟩ := cells_get h2
   obtain ⟨a, ha⟩ := hd enc W n csm _ h3
   have hb := World.cells?_block h2 h0
   refine ⟨a, fun _ => ⟨?_, csm, h4, fun q hq => ?_, ha⟩⟩
   ·unfold Addr.add at hb
    split at hb <;> exact hb
   ·rw [← h5 q hq, add_add]
  ·exact ⟨default, fun h => absurd h hm⟩
 obtain ⟨f, hf⟩ := Classical.axiomOfChoice each
 refine ⟨(List.range len).map f, CV.one ?_⟩
 have hget : ∀ m, m < len → ((List.range len).map f).getD m default = f m := by
  intro m hm
  simp [List.getD, List.getElem?_map, List.getElem?_range hm]
 have hlen : ((List.range len).map f).length = len := by simp
 rw [hlen]
 refine .sl false sz len _ b o cap (fun m q => (W.cell? ⟨b, o + m * sz + q, none⟩).getD .nilIface) (fun hp => ?_) hl hm (fun h => by cases h) (fun m hm => ?_) (fun m q hm hq => ?_) (fun m q c hm hc => ?_)
 ·exact ⟨(hf 0 hp).1, (hf 0 hp).1⟩
 ·obtain ⟨_, csm, h1, _, h2⟩ := hf m hm
  show (ec (((List.range len).map f).getD m default)).length = sz
  rw [hget m hm, h2.1, h1]
 ·obtain ⟨_, csm, h1, h2, _⟩ := hf m hm
  rw [h2 q hq, List.getElem?_eq_getElem (by omega)]
  rfl
 ·obtain ⟨_, csm, h1, h2, h3⟩ := hf m hm
  have hc : (ec (f m))[q]? = some c := by rw [← hget m hm]; exact hc
  have hq : q < sz := by
   have := lt_of_get hc
   rw [h3.1, h1] at this
   exact this
  rw [h2 q hq, List.getElem?_eq_getElem (by omega)]
  exact h3.2 q c _ hc (List.getElem?_eq_getElem (by omega))
theorem dec_fields {t : TypeId} {i : TI} {fs : List (Nat × TypeId)} (h : tiOf P t = some i) (hk : i.kind = .struct fs) {H : Type} {enc : TypeId × Value → H} {W : World} {fuel : Nat} {cs : List Value} {x : DataW H × List MemPlace}
  (hx : DataW.trod enc P W 0 (fun _ => true) true fuel t cs = some x) :
  cs.length = i.size ∧ ∀ (n o s : Nat) (ft : TypeId) (j : TI) {α : Type} {ec : α → List AV}, fs[n]? = some (o, ft) → tiOf P ft = some j → j.size = s → Dec P ft ec → ∃ a, CV W (ec a) ((cs.drop o).take s) := by
 obtain ⟨gs, h1, h2⟩ := und_struct h hk
 obtain ⟨_, _, _, hcells⟩ := und_of h
 obtain ⟨xs, m, rfl, rfl, hl, hlen, hf⟩ := DataW.trod_struct h1 hx
 refine ⟨hl.trans hcells, fun n o s ft j α ec hn hj hs hd => ?_⟩
 obtain ⟨_, _, _, hcj⟩ := und_of hj
 subst h2
 rw [List.getElem?_map, Option.map_eq_some_iff] at hn
 obtain ⟨f, hf1, hf2⟩ := hn
 cases hf2
 rw [Array.getElem?_toList] at hf1
 have h3 := hf n f hf1
 have hn : n < gs.size := by
  rcases Nat.lt_or_ge n gs.size with h' | h'
  ·exact h'
  ·rw [Array.getElem?_eq_none h'] at hf1; cases hf1
 rw [List.getElem?_eq_getElem (by omega), hcj, hs] at h3
 exact hd enc W m _ _ h3
end
structure Kept (W W' : World) : Prop where
 same : ∀ b, b < W.heap.size → W'.heap[b]? = W.heap[b]?
 size : W.heap.size ≤ W'.heap.size
 os : W'.os = W.os
 output : W'.output = W.output
theorem Kept.but {W W' : World} (h : Kept W W') (may : MemPlace → Prop) : W.keptBut W' may := by
 refine ⟨h.os, h.output, fun i hi => ?_⟩
 rw [h.same i hi]
 exact (World.keptBut_refl W may).2.2 i hi
theorem Kept.frozen {W W' : World} (h : Kept W W') {a : Addr} (ha : a.block < W.heap.size) : W'.frozen? a = W.frozen? a := by
 simp only [World.frozen?, h.same _ ha]
theorem Kept.at_ {W W' : World} (h : Kept W W') {p : MemPlace} (hp : p.block < W.heap.size) : W.sameAt W' p := by
 cases p with
 | cell b off => exact cell_same (h.same b hp)
 | map b => exact h.same b hp
def slicesRowed (P : Program) : Bool := (List.range P.types.size).all fun t => match P.underlying t with
 | some (.slice e) => decide (0 < P.cellsOf e)
 | _ => true
theorem slices_of {P : Program} (h : slicesRowed P = true) : ∀ {t e : TypeId}, t < P.types.size → P.underlying t = some (.slice e) → 0 < P.cellsOf e := by
 intro t e ht hu
 have := List.all_eq_true.1 h t (by simpa using ht)
 rw [hu] at this
 simpa using this
section
variable {P : Program} {H : Type} {enc : TypeId × Value → H} {W W' : World}
theorem trodAll_kept (K : Kids P (· < P.types.size)) (hz : slicesRowed P = true) (hk : Kept W W') {sp : Nat → Bool} :
  ∀ {ts : List TypeId} {vs : List Value} {ds : List (DataW H)} {p : List MemPlace}, (∀ t ∈ ts, t < P.types.size) → DataW.TrodAll enc P W 0 (fun _ => true) true ts vs ds p → (∀ q ∈ p, sp q.block = true) →
   DataW.TrodAll enc P W' 0 sp true ts vs ds p
 | [], vs, ds, p, _, h, _ => by
  obtain ⟨rfl, rfl, rfl⟩ := ChangeShapes.trodAll_nil h
  exact ChangeShapes.trodAll_mk0
 | t :: ts, vs, ds, p, ht, h, hs => by
  obtain ⟨v, vs', d, ds', a, b, rfl, rfl, rfl, ⟨fuel, h1⟩, h2⟩ := ChangeShapes.trodAll_cons h
  refine ⟨a, b, ⟨fuel, ?_⟩, trodAll_kept K hz hk (fun t h => ht t (List.mem_cons_of_mem _ h)) h2 (fun q hq => hs q (List.mem_append_right _ hq)), rfl⟩
  exact DataW.trod_stays K (fun h1 h2 => slices_of hz h1 h2) (fun h => by cases h) (ht t (List.mem_cons_self ..)) h1
   (fun q hq => hk.at_ (DataW.trod_lt fuel t _ _ h1 q hq)) (fun q hq => hs q (List.mem_append_left _ hq))
theorem post_law {f : Func} {s : ChangeSpec} {args : Array Value} {ds gs : List (DataW H)} {before : List MemPlace} {fresh handsOn again : Bool} {t : TypeId}
  (K : Kids P (· < P.types.size)) (hz : slicesRowed P = true) (hv0 : s.vars = []) (hp : ∀ t ∈ f.params.toList, t < P.types.size) (hr : f.resultTypes = #[t]) (ht : P.underlying t = some .bool)
  (hW : DataW.Whole enc P f.params.toList s.vars false W args.toList ds gs before) (hfn : s.fn H (ds ++ gs) = { results := [.lit (.bool true)], args := ds, vars := gs })
  (hk : Kept W W') : s.post enc P f false fresh handsOn again W args (.bool true) W' := by
 obtain ⟨p, q, hA, hV, rfl, hfz, _⟩ := id hW
 rw [hv0] at hV
 obtain ⟨rfl, rfl⟩ := ChangeShapes.trodVars_none hV
 have hlt := hW.lt
 simp only [List.append_nil] at hlt hfz
 have hargs : ∀ sp : Nat → Bool, (∀ q ∈ p, sp q.block = true) → DataW.TrodAll enc P W' 0 sp true f.params.toList args.toList ds p := fun sp hs => trodAll_kept K hz hk hp hA hs
 have hres : ∀ (b : Nat) (sp : Nat → Bool) (hd : Bool), DataW.TrodAll enc P W' b sp hd f.resultTypes.toList ((Value.bool true).resultList f.resultTypes.size) [.lit (.bool true)] [] := by
  intro b sp hd
  rw [hr]
  exact ChangeShapes.trodAll_mk1 (RowKit.shut_bool ht true)
 have hvars : ∀ sp : Nat → Bool, DataW.TrodVars enc P W' sp s.vars [] [] := by
  intro sp
  rw [hv0]
  rfl
 have h0 : ∀ q ∈ p, decide (q.block < W.heap.size) = true := fun q hq => by simpa using hlt q hq
 refine ⟨ds, [], p ++ [], [], p, [], hW, ?_, ?_, ?_, ?_, fun _ => ⟨RowKit.ok_one hr rfl (RowKit.okWide_bool_mk ht true), .lit (.bool true) :: ds, [], p, ⟨p, [], ?_, hvars _, by simp, ?_, fun h => by cases h⟩, ?_⟩⟩
 ·rw [hfn]; exact hres _ _ _
 ·rw [hfn]; exact hargs _ h0
 ·rw [hfn]; exact hvars _
 ·exact World.keptBut_mono (fun _ f => f.elim) (hk.but fun _ => False)
 ·exact ChangeShapes.trodAll_append (hargs _ fun _ _ => rfl) (hres _ _ _)
 ·intro b off hb
  rw [hk.frozen (a := ⟨b, off, none⟩) (hlt _ hb)]
  exact hfz b off hb
 ·intro q hq _
  simpa using hq
theorem law_calls {F : Nat → Obj → Prop} {f : FuncId} {α : Type} {args : α → List AV} {pre : α → Prop} {res : α → AV} (hF : ∀ b o, F b o → W.heap[b]? = some o) (hG : GoodP F P f (PC.of args pre res)) {vs : Array Value} {x : α} (hx : pre x)
  (hv : CV W (args x) vs.toList) : Calls P f vs W fun e w' => ∃ v S', e = .returned v ∧ V (fun _ => none) S' w' (res x) v ∧ Kept W w' := by
 have hs : Sok F (fun b => b < W.heap.size) W := ⟨fun b h => h, fun b o h => ⟨lt_of_some (hF b o h), hF b o h⟩⟩
 have hv' : VL (fun _ => none) (fun b => b < W.heap.size) W (args x) vs := ⟨by simpa using hv.1, fun i c v hc hi => hv.2 i c v hc (by simpa using hi)⟩
 refine (hG _ W (args x) vs (fun c => c = res x) hs hv' ⟨x, hx, leL_rfl _, rfl⟩).mono ?_
 rintro e w' ⟨v, c, S', rfl, rfl, h1, h2, _⟩
 exact ⟨v, S', rfl, h1, fun b hb => h2.same b hb (.inl hb), h2.size, h2.os, h2.output⟩
theorem arg_struct {r : Go.Reach} {b0 : Nat} {t : TypeId} {i : TI} {fs : List (Nat × TypeId)} {v : Value} {d : DataW H} {ps : List MemPlace} {α : Type} {ec : α → List AV} (h : tiOf P t = some i) (hk : i.kind = .struct fs) (hdc : Dec P t ec)
  (hval : Value.okWide P W r b0 t v) (hd : DataW.Trod enc P W 0 (fun _ => true) true t v d ps) : ∃ a : α, V (fun _ => none) (fun b => b < W.heap.size) W (.agg (ec a)) v := by
 obtain ⟨gs, h1, _⟩ := und_struct h hk
 obtain ⟨cs, rfl, _⟩ := WideShapes.okWide_struct h1 hval
 obtain ⟨fuel, hf⟩ := hd
 obtain ⟨a, ha⟩ := hdc enc W fuel _ _ hf
 exact ⟨a, .agg _ cs (by simpa [Value.cells] using ha.1) fun i c v hc hv => ha.2 i c v hc (by simpa [Value.cells] using hv)⟩
theorem CV.cons {a : AV} {al : List AV} {v : Value} {vs : List Value} (h : V (fun _ => none) (fun b => b < W.heap.size) W a v) (k : CV W al vs) : CV W (a :: al) (v :: vs) := (CV.one h).app k
theorem CV.none : CV W [] [] := ⟨rfl, fun i c v h => by simp at h⟩
end
end Go.Vc
namespace Go.Vc.Z
open Go Go.Vc Go.Proofs
theorem dCoupon : Dec Tryz.prog 45 Coupon.enc := by
 intro H enc W fuel cs x hx
 obtain ⟨hl, hf⟩ := dec_fields ok45 rfl hx
 obtain ⟨a0, h0⟩ := hf 0 0 1 3 ty3 rfl ok3 rfl (dec_int ok3 rfl)
 obtain ⟨a1, h1⟩ := hf 1 1 1 3 ty3 rfl ok3 rfl (dec_int ok3 rfl)
 obtain ⟨a2, h2⟩ := hf 2 2 1 2 ty2 rfl ok2 rfl (dec_int ok2 rfl)
 obtain ⟨a3, h3⟩ := hf 3 3 1 43 ty43 rfl ok43 rfl (dec_int ok43 rfl)
 obtain ⟨a4, h4⟩ := hf 4 4 1 3 ty3 rfl ok3 rfl (dec_int ok3 rfl)
 obtain ⟨a5, h5⟩ := hf 5 5 1 37 ty37 rfl ok37 rfl (dec_int ok37 rfl)
 exact ⟨⟨a0, a1, a2, a3, a4, a5⟩, h0.step (h1.step (h2.step (h3.step (h4.step (h5.step (CV.nil hl))))))⟩
theorem dTax : Dec Tryz.prog 113 Tax.enc := by
 intro H enc W fuel cs x hx
 obtain ⟨hl, hf⟩ := dec_fields ok113 rfl hx
 obtain ⟨a0, h0⟩ := hf 0 0 1 3 ty3 rfl ok3 rfl (dec_int ok3 rfl)
 obtain ⟨a1, h1⟩ := hf 1 1 1 2 ty2 rfl ok2 rfl (dec_int ok2 rfl)
 exact ⟨⟨a0, a1⟩, h0.step (h1.step (CV.nil hl))⟩
end Go.Vc.Z
namespace Go.Vc
open Go Go.Proofs
noncomputable def gPow : Nat := (Tryz.prog.globalNamed "internal/strconv.uint64pow10").getD 0
def Fw (W : World) : Nat → Obj → Prop := fun b o => W.heap[b]? = some o
def Tabs (W : World) : Prop := Lib.TabIs Tryz.prog W "internal/strconv.uint64pow10" .u64 Lib.pow10Tab ∧ W.ShapedOpen Tryz.prog
theorem globPow : Tryz.prog.globalNamed "internal/strconv.uint64pow10" = some gPow := by
 have h : (Tryz.prog.globalNamed "internal/strconv.uint64pow10").isSome = true := by kernel_rfl
 unfold gPow
 cases hg : Tryz.prog.globalNamed "internal/strconv.uint64pow10" with
 | none => rw [hg] at h; cases h
 | some g => rfl
theorem Tabs.pow {W : World} (hW : Tabs W) {S : Nat → Prop} {w : World} (hs : Sok (Fw W) S w) : Lib.TabIs Tryz.prog w "internal/strconv.uint64pow10" .u64 Lib.pow10Tab := by
 replace hW := hW.1
 unfold Lib.TabIs World.var? at hW
 unfold Lib.TabIs World.var?
 rw [globPow] at hW ⊢
 simp only [Option.bind_some] at hW ⊢
 cases hg : W.heap[gPow]? with
 | none => rw [hg] at hW; cases hW
 | some o =>
  rw [(hs.st gPow o hg).2]
  rw [hg] at hW
  exact hW
theorem Fw.cell {W : World} {S : Nat → Prop} {w : World} (hs : Sok (Fw W) S w) {b o : Nat} {v : Value} (h : W.cell? ⟨b, o, none⟩ = some v) : w.cell? ⟨b, o, none⟩ = some v := by
 cases hg : W.heap[b]? with
 | none => simp only [World.cell?, hg] at h; cases h
 | some ob =>
  have := (hs.st b ob hg).2
  simp only [World.cell?, this]
  simpa only [World.cell?, hg] using h
end Go.Vc
namespace Go.Pl
open Go Go.Lib
theorem snocInd {α : Type} {P : List α → Prop} (h0 : P []) (h1 : ∀ s c, P s → P (s ++ [c])) (s : List α) : P s := by
 have : ∀ t : List α, P t.reverse := by
  intro t
  induction t with
  | nil => exact h0
  | cons c t ih => rw [List.reverse_cons]; exact h1 _ _ ih
 have h := this s.reverse
 rwa [List.reverse_reverse] at h
def worth (s : List UInt8) : Nat := s.foldl (fun n c => 10 * n + (c.toNat - 48)) 0
def isDig (c : UInt8) : Bool := decide (48 ≤ c.toNat) && decide (c.toNat ≤ 57)
def allDig (s : List UInt8) : Bool := s.all isDig
theorem isDig_iff {c : UInt8} : isDig c = true ↔ 48 ≤ c.toNat ∧ c.toNat ≤ 57 := by simp [isDig]
theorem allDig_iff {s : List UInt8} : allDig s = true ↔ ∀ c ∈ s, 48 ≤ c.toNat ∧ c.toNat ≤ 57 := by simp [allDig, isDig]
theorem worth_nil : worth [] = 0 := rfl
theorem worth_snoc (s : List UInt8) (c : UInt8) : worth (s ++ [c]) = 10 * worth s + (c.toNat - 48) := by simp [worth]
theorem worth_from (s : List UInt8) : ∀ n, s.foldl (fun n c => 10 * n + (c.toNat - 48)) n = n * 10 ^ s.length + worth s := by
 induction s using snocInd with
 | h0 => intro n; simp [worth]
 | h1 s c ih =>
  intro n
  rw [List.foldl_append, ih, worth_snoc]
  simp only [List.foldl_cons, List.foldl_nil, List.length_append, List.length_singleton, Nat.pow_succ]
  rw [Nat.mul_add, Nat.mul_comm 10 (n * 10 ^ s.length), Nat.mul_assoc]
  omega
theorem worth_append (s t : List UInt8) : worth (s ++ t) = worth s * 10 ^ t.length + worth t := by
 rw [← worth_from t (worth s)]
 simp [worth]
theorem worth_cons (c : UInt8) (t : List UInt8) : worth (c :: t) = (c.toNat - 48) * 10 ^ t.length + worth t := by
 have := worth_append [c] t
 simpa [worth] using this
theorem worth_lt {s : List UInt8} (h : allDig s = true) : worth s < 10 ^ s.length := by
 induction s using snocInd with
 | h0 => simp [worth]
 | h1 s c ih =>
  simp only [allDig, List.all_append, Bool.and_eq_true] at h
  have h1 := ih h.1
  have h2 := isDig_iff.1 (by simpa using h.2)
  rw [worth_snoc, List.length_append, List.length_singleton, Nat.pow_succ]
  omega
theorem dig_toNat (u : Nat) : (UInt8.ofNat (48 + u % 10)).toNat = 48 + u % 10 := by
 rw [UInt8.toNat_ofNat']
 have : u % 10 < 10 := Nat.mod_lt _ (by omega)
 omega
theorem dec_small {u : Nat} (h : u < 10) : decDigits u = [UInt8.ofNat (48 + u % 10)] := by
 rw [decDigits, dif_pos h, Nat.mod_eq_of_lt h]
theorem dec_big {u : Nat} (h : 10 ≤ u) : decDigits u = decDigits (u / 10) ++ [UInt8.ofNat (48 + u % 10)] := by
 rw [decDigits, dif_neg (by omega)]
theorem dec_ne (u : Nat) : decDigits u ≠ [] := by
 rw [decDigits]; split <;> simp
theorem worth_dec (u : Nat) : worth (decDigits u) = u := by
 induction u using Nat.strongRecOn with
 | _ u ih =>
  by_cases h : u < 10
  ·rw [dec_small h]
   have := worth_snoc [] (UInt8.ofNat (48 + u % 10))
   rw [List.nil_append] at this
   rw [this, dig_toNat, worth_nil]; omega
  ·rw [dec_big (by omega), worth_snoc, ih (u / 10) (by omega), dig_toNat]; omega
theorem allDig_snoc (s : List UInt8) (u : Nat) : allDig (s ++ [UInt8.ofNat (48 + u % 10)]) = allDig s := by
 simp only [allDig, List.all_append, List.all_cons, List.all_nil, Bool.and_true]
 have : isDig (UInt8.ofNat (48 + u % 10)) = true := isDig_iff.2 (by rw [dig_toNat]; omega)
 rw [this, Bool.and_true]
theorem allDig_dec (u : Nat) : allDig (decDigits u) = true := by
 induction u using Nat.strongRecOn with
 | _ u ih =>
  by_cases h : u < 10
  ·rw [dec_small h]; exact allDig_snoc [] u
  ·rw [dec_big (by omega), allDig_snoc]; exact ih _ (by omega)
theorem dec_head (u : Nat) (h : 0 < u) : ∃ c t, decDigits u = c :: t ∧ 49 ≤ c.toNat ∧ c.toNat ≤ 57 := by
 induction u using Nat.strongRecOn with
 | _ u ih =>
  by_cases h1 : u < 10
  ·rw [dec_small h1]; exact ⟨_, _, rfl, by rw [dig_toNat]; omega, by rw [dig_toNat]; omega⟩
  ·obtain ⟨c, t, h2, h3⟩ := ih (u / 10) (by omega) (by omega)
   rw [dec_big (by omega), h2]; exact ⟨c, _, rfl, h3⟩
theorem dec_len_iff (u k : Nat) (hk : 0 < k) : (decDigits u).length = k + 1 ↔ 10 ^ k ≤ u ∧ u < 10 ^ (k + 1) := by
 constructor
 ·intro h
  have h1 := worth_lt (allDig_dec u)
  rw [worth_dec, h] at h1
  refine ⟨?_, h1⟩
  rcases Nat.lt_or_ge u (10 ^ k) with h2 | h2
  ·exfalso
   rw [decDigits_length] at h
   have h3 : ∀ (j v : Nat), v < 10 ^ (j + 1) → nDigits v ≤ j + 1 := by
    intro j
    induction j with
    | zero => intro v hv; rw [nDigits_small (by simpa using hv)]; omega
    | succ j ih =>
     intro v hv
     by_cases hv1 : v < 10
     ·rw [nDigits_small hv1]; omega
     ·rw [nDigits_big hv1]
      have := ih (v / 10) (by rw [Nat.pow_succ] at hv; omega)
      omega
   have := h3 (k - 1) u (by rw [show k - 1 + 1 = k by omega]; exact h2)
   omega
  ·exact h2
 ·rintro ⟨h1, h2⟩
  rw [decDigits_length, nDigits_unique k u h1 h2]
theorem nDigits_le : ∀ (k u : Nat), u < 10 ^ (k + 1) → nDigits u ≤ k + 1
 | 0, u, h => by rw [nDigits_small (by simpa using h)]; omega
 | k + 1, u, h => by
  by_cases h1 : u < 10
  ·rw [nDigits_small h1]; omega
  ·rw [nDigits_big h1]
   have := nDigits_le k (u / 10) (by rw [Nat.pow_succ] at h; omega)
   omega
theorem dec_len_le (u : Nat) (h : u < 18446744073709551616) : (decDigits u).length ≤ 20 := by
 rw [decDigits_length]; exact nDigits_le 19 u (by omega)
end Go.Pl
namespace Go.Vc.Z
open Go Go.Vc Go.Proofs Go.RowKit Go.Pl Go.Lib
noncomputable section
set_option maxRecDepth 100000
set_option linter.unusedSimpArgs false
set_option linter.unusedVariables false
attribute [local irreducible] inK Utf8.decode Utf8.encode Lib.itoa Pl.worth Pl.allDig
@[irreducible] def checkN (n : Int) : Int := if n < 1000000000000 ∨ 9999999999999 < n then 2 else if n / 10 % 7 = n % 10 then 0 else 11
theorem checkN_zero {n : Int} (h : checkN n = 0) : 1000000000000 ≤ n ∧ n ≤ 9999999999999 := by
 unfold checkN at h
 split at h
 ·cases h
 ·omega
def pcCheck : PC := PC.fun fun | [.int .u64 n] => some (True, .int .i64 (sI (checkN n))) | _ => none
def D_number_Check : PT := tabD []
theorem d_number_Check {W : World} (hW : Tabs W) : PTOk (Fw W) Tryz.prog D_number_Check := tabD_nil
def C_number_Check : FuncId → Option Ctr := tabC D_number_Check []
theorem c_number_Check {W : World} (hW : Tabs W) : CtrOk (Fw W) Tryz.prog C_number_Check := (tabC_nil (d_number_Check hW))
theorem g_number_Check {W : World} (hW : Tabs W) : GoodP (Fw W) Tryz.prog 127 pcCheck := by
 have hD := d_number_Check hW
 have hC0 : CtrOk (Fw W) Tryz.prog C_number_Check := (c_number_Check hW)
 refine goodP_fun (D := D_number_Check) (C := C_number_Check) (wr := (fun _ => false)) rfl tyOk hD hC0 Tryz.func127 (fun _ _ => none) ?_
 clear hC0 hD hW
 intro cs p r h hf hp
 split at h
 case h_2 => cases h
 rename_i n
 cases h
 try simp only [factL, factA, inK_def, Go.Vc.lo, Go.Vc.hi, and_true] at hf
 (conv => whnf)
 (repeat' ((first
  | ((with_reducible refine And.intro ?_ ?_); focus (first | with_reducible rfl | (simp only [inK_def, Go.Vc.lo, Go.Vc.hi]; omega)))
  | (split <;> rename_i hh <;> (try simp only [wS] at hh) <;> (try simp (disch := omega) only [wT] at hh))
  | fail) <;> (conv => whnf)))
 all_goals (try (show _ = _; simp only [wQ]))
 all_goals (unfold checkN; repeat' split) <;> omega
def D_number_parts : PT := tabD [(127, pcCheck)]
theorem d_number_parts {W : World} (hW : Tabs W) : PTOk (Fw W) Tryz.prog D_number_parts := (tabD_cons Tryz.call127 (g_number_Check hW) tabD_nil)
def C_number_parts : FuncId → Option Ctr := tabC D_number_parts []
theorem c_number_parts {W : World} (hW : Tabs W) : CtrOk (Fw W) Tryz.prog C_number_parts := (tabC_nil (d_number_parts hW))
@[irreducible] def numText (n : Int) : List UInt8 := if checkN n = 0 then decDigits n.toNat else []
def pcNText : PC := PC.fun fun | [.int .u64 n] => some (True, .str (sS (numText n))) | _ => none
def LText (n : Int) : LoopSpec := {
 α := Nat
 keep := [0, 3, 10, 11]
 vals i := [.int .u64 (n / 10 ^ i), .osl 0 1 0 13 (some 13), .int .i64 13, .int .i64 i]
 heap i := [.row 1 13 (fun e => [.int .i32 (if 13 ≤ e + i then 48 + n / 10 ^ (12 - e) % 10 else 0)])]
 ok i := i ≤ 13
 μ i := 13 - i }
theorem pow_pos10 (i : Nat) : (0 : Int) < 10 ^ i := Int.pow_pos (by decide)
theorem ediv_pow (n : Int) (i : Nat) : n / 10 ^ i / 10 = n / 10 ^ (i + 1) := by
 rw [Int.pow_succ, Int.ediv_ediv, if_neg (fun h => by have := pow_pos10 i; omega), Int.sub_zero]
theorem encode_ascii {n : Int} (h0 : 0 ≤ n) (h1 : n < 128) : (Utf8.encode n).data.toList = [UInt8.ofNat n.toNat] := by
 obtain ⟨k, rfl⟩ : ∃ k : Nat, n = k := ⟨n.toNat, by omega⟩
 have v : Utf8.valid (k : Int) = true := by simp [Utf8.valid]; omega
 have c1 : k < 128 := by omega
 simp [Utf8.encode, v, c1]
theorem numText_runes {n : Int} (h : checkN n = 0) : ((List.range 13).flatMap fun e => (Utf8.encode (48 + n / 10 ^ (12 - e) % 10)).data.toList) = numText n := by
 obtain ⟨h0, h1⟩ := checkN_zero h
 obtain ⟨u, rfl⟩ : ∃ u : Nat, n = u := ⟨n.toNat, by omega⟩
 have hd : nDigits u = 13 := nDigits_unique 12 u (by omega) (by omega)
 rw [numText, if_pos h, Int.toNat_natCast, decDigits_eq, hd]
 have e : ∀ l : List Nat, (l.flatMap fun e => (Utf8.encode (48 + (u : Int) / 10 ^ (12 - e) % 10)).data.toList) = l.map fun t => dg u (13 - 1 - t) := by
  intro l
  induction l with
  | nil => rfl
  | cons e l ih =>
   rw [List.flatMap_cons, List.map_cons, ih]
   have h2 : (48 + (u : Int) / 10 ^ (12 - e) % 10) = ((48 + u / 10 ^ (12 - e) % 10 : Nat) : Int) := by simp
   rw [h2, encode_ascii (by omega) (by have := Nat.mod_lt (u / 10 ^ (12 - e)) (show 10 > 0 by omega); omega)]
   rfl
 exact e _
def L_number_Text : List AV → Nat → Option LR := fun cs i => match cs with | [.int _ n] => cond (Nat.beq i 5) (some (.inv (LText n))) (none) | _ => none
theorem g_number_Text {W : World} (hW : Tabs W) : GoodP (Fw W) Tryz.prog 54 pcNText := by
 have hD := d_number_parts hW
 have hC0 : CtrOk (Fw W) Tryz.prog C_number_parts := (c_number_parts hW)
 refine goodP_fun (D := D_number_parts) (C := C_number_parts) (wr := (fun _ => false)) rfl tyOk hD hC0 Tryz.func54 (L_number_Text) ?_
 clear hC0 hD hW
 intro cs p r h hf hp
 split at h
 case h_2 => cases h
 rename_i n
 cases h
 try simp only [factL, factA, inK_def, Go.Vc.lo, Go.Vc.hi, and_true] at hf
 (conv => whnf)
 (repeat' ((first
  | ((with_reducible refine And.intro ?_ ?_); focus (first | with_reducible exact True.intro | (simp only [growOk, ty2, ty3, ty4, ty5, ty9, ty21, ty37, ty42, ty43, ty45, ty47, ty67, ty95, ty105, ty113, ty150, ty161, ty198, ty242, ty275]; first | omega | (refine ⟨?_, ?_⟩ <;> omega))))
  | (split <;> rename_i hh <;> (try simp only [wS] at hh) <;> (try simp (disch := omega) only [wT] at hh))
  | with_reducible refine (fun (hln : (_ : Int) ≤ 9223372036854775807) => ?_)
  | fail) <;> (conv => whnf)))
 all_goals (try (show _ = _; simp only [wQ]))
 ·simp [numText, hh]
 ·refine ⟨?_, fun (i : Nat) (hi : i ≤ 13) => ?_⟩
  ·(conv => whnf)
   refine ⟨(0 : Nat), [], ?_, ⟨⟨rfl, Nat.le_of_ble_eq_true rfl, rfl⟩, ?_, ?_⟩⟩
   ·exact Nat.zero_le _
   ·(conv => whnf)
    (repeat' ((first | with_reducible exact True.intro | ((with_reducible refine Or.inr ?_); rfl) | ((with_reducible refine And.intro ?_ ?_); focus (first | with_reducible rfl | omega | exact Nat.le_of_ble_eq_true rfl | rfl)) | with_reducible refine And.intro (?_ : leA _ _ _) ?_ | fail) <;> (conv => whnf)))
    all_goals (try simp only [wQ])
    all_goals (try first | omega)
   ·(conv => whnf)
    (repeat' ((first | with_reducible exact True.intro | ((with_reducible refine And.intro ?_ ?_); focus (first | with_reducible rfl | omega | exact Nat.le_of_ble_eq_true rfl | rfl)) | with_reducible refine And.intro (?_ : leBlk _ _ _ _) ?_ | fail) <;> (conv => whnf)))
    all_goals (try simp only [wQ])
    intro e he
    refine ⟨?_, rfl⟩
    simp only [AV.cells]
    rw [if_neg (by omega)]
  ·have h10 : 0 ≤ n / 10 ^ i := Int.ediv_nonneg hf.1 (Int.le_of_lt (pow_pos10 i))
   have h11 : n / 10 ^ i ≤ 18446744073709551615 := Int.le_trans (Int.ediv_le_self _ hf.1) hf.2
   have hm := Int.emod_nonneg (n / 10 ^ i) (show (10 : Int) ≠ 0 by decide)
   have hm2 := Int.emod_lt_of_pos (n / 10 ^ i) (show (0 : Int) < 10 by decide)
   (conv => whnf)
   (repeat' ((first
    | ((with_reducible refine And.intro ?_ ?_); focus (first | omega | (simp only [inK_def, Go.Vc.lo, Go.Vc.hi]; omega)))
    | (split <;> rename_i hh <;> (try simp only [wS] at hh) <;> (try simp (disch := omega) only [wT] at hh))
    | fail) <;> (conv => whnf)))
   all_goals (try (show _ = _; simp only [wQ]))
   ·(conv => whnf)
    refine ⟨(i + 1 : Nat), [], ?_, ⟨⟨rfl, Nat.le_of_ble_eq_true rfl, rfl⟩, ?_, ?_⟩⟩
    ·exact ⟨show i + 1 ≤ 13 by omega, show 13 - (i + 1) < 13 - i by omega⟩
    ·(conv => whnf)
     (repeat' ((first | with_reducible exact True.intro | ((with_reducible refine Or.inr ?_); rfl) | ((with_reducible refine And.intro ?_ ?_); focus (first | with_reducible rfl | omega | exact Nat.le_of_ble_eq_true rfl | rfl)) | with_reducible refine And.intro (?_ : leA _ _ _) ?_ | fail) <;> (conv => whnf)))
     all_goals (try simp only [wQ])
     all_goals (try first | omega)
     ·rw [ediv_pow]
    ·(conv => whnf)
     (repeat' ((first | with_reducible exact True.intro | ((with_reducible refine And.intro ?_ ?_); focus (first | with_reducible rfl | omega | exact Nat.le_of_ble_eq_true rfl | rfl)) | with_reducible refine And.intro (?_ : leBlk _ _ _ _) ?_ | fail) <;> (conv => whnf)))
     all_goals (try simp only [wQ])
     intro e he
     refine ⟨?_, rfl⟩
     simp only [mergeL_eq, decide_eq_true_eq]
     by_cases h1 : e = 12 - i
     ·rw [if_pos (by omega)]
      show [AV.int IntKind.i32 (48 + (n / 10 ^ i) % 10)] = [AV.int IntKind.i32 _]
      rw [if_pos (by omega), h1, show 12 - (12 - i) = i by omega]
     ·rw [if_neg (by omega)]
      by_cases h2 : 13 ≤ e + i
      ·rw [if_pos h2, if_pos (by omega)]
      ·rw [if_neg h2, if_neg (by omega)]
   ·have h13 : i = 13 := by omega
    subst h13
    have hr := numText_runes (n := n) (by assumption)
    have hrr : (runesOf 13 fun e => (fun e => [AV.int IntKind.i32 (if 13 ≤ e + 13 then 48 + n / 10 ^ (12 - e) % 10 else 0)]) (0 + e)) = numText n := by
     rw [← hr]
     unfold runesOf
     congr 1
     funext e
     simp [runeCell]
    refine ⟨⟨fun e _ => rfl, ?_⟩, ?_⟩
    ·refine Nat.le_trans (Nat.le_of_eq (congrArg List.length hrr)) ?_
     unfold numText; rw [if_pos (by assumption)]; have := dec_len_le n.toNat (by omega); omega
    ·(conv => whnf)
     all_goals (try (show _ = _; simp only [wQ]))
     exact hrr
end
end Go.Vc.Z
namespace Go.Pl
open Go Go.Lib
theorem get!_list (l : List UInt8) (i : Nat) (h : i < l.length) : (ByteArray.get! ⟨l.toArray⟩ i) = l.getD i 0 := by
 show (l.toArray)[i]! = _
 simp [h, List.getD_eq_getElem?_getD]
theorem decode_lo {l : List UInt8} {p : Nat} (h : p < l.length) (hb : (l.getD p 0).toNat < 128) : Utf8.decode ⟨l.toArray⟩ p = ((l.getD p 0).toNat, 1) := by
 unfold Utf8.decode
 simp only [Nat.add_zero, get!_list l p h]
 rw [if_pos hb]
theorem decode_hi {l : List UInt8} {p : Nat} (h : p < l.length) (hb : ¬ (l.getD p 0).toNat < 128) : 128 ≤ (Utf8.decode ⟨l.toArray⟩ p).1 := by
 unfold Utf8.decode
 simp only [Nat.add_zero, get!_list l p h]
 rw [if_neg hb]
 have hr : Utf8.runeError = 65533 := rfl
 split
 ·split <;> (simp only [] at *; omega)
 ·split
  ·split
   ·rename_i hc; simp only [Bool.and_eq_true, decide_eq_true_eq] at hc; simp only []; omega
   ·simp only []; omega
  ·split
   ·split
    ·rename_i hc; simp only [Bool.and_eq_true, decide_eq_true_eq] at hc; simp only []; omega
    ·simp only []; omega
   ·simp only []; omega
theorem decode_cases {l : List UInt8} {p : Nat} (h : p < l.length) : (Utf8.decode ⟨l.toArray⟩ p = ((l.getD p 0).toNat, 1) ∧ (l.getD p 0).toNat < 128) ∨ (128 ≤ (Utf8.decode ⟨l.toArray⟩ p).1 ∧ 128 ≤ (l.getD p 0).toNat) := by
 by_cases hb : (l.getD p 0).toNat < 128
 ·exact .inl ⟨decode_lo h hb, hb⟩
 ·exact .inr ⟨decode_hi h hb, by omega⟩
theorem take_succ_getD {l : List UInt8} {i : Nat} (h : i < l.length) : l.take (i + 1) = l.take i ++ [l.getD i 0] := by
 rw [List.take_add_one, List.getD_eq_getElem?_getD, List.getElem?_eq_getElem h]; rfl
theorem all_take_succ {p : UInt8 → Bool} {l : List UInt8} {i : Nat} (h : i < l.length) : (l.take (i + 1)).all p = ((l.take i).all p && p (l.getD i 0)) := by
 rw [take_succ_getD h, List.all_append]; simp
theorem not_all_of {p : UInt8 → Bool} {l : List UInt8} {i : Nat} (h : i < l.length) (hp : p (l.getD i 0) = false) : l.all p = false := by
 rw [List.all_eq_false]
 refine ⟨l.getD i 0, ?_, by rw [hp]; decide⟩
 rw [List.getD_eq_getElem?_getD, List.getElem?_eq_getElem h]; exact List.getElem_mem h
theorem worth_take_succ {l : List UInt8} {i : Nat} (h : i < l.length) : worth (l.take (i + 1)) = 10 * worth (l.take i) + ((l.getD i 0).toNat - 48) := by
 rw [take_succ_getD h, worth_snoc]
theorem dig_at {l : List UInt8} {i : Nat} (h : i < l.length) (hd : allDig l = true) : 48 ≤ (l.getD i 0).toNat ∧ (l.getD i 0).toNat ≤ 57 := by
 refine allDig_iff.1 hd _ ?_
 rw [List.getD_eq_getElem?_getD, List.getElem?_eq_getElem h]; exact List.getElem_mem h
theorem allDig_take {l : List UInt8} (h : allDig l = true) (i : Nat) : allDig (l.take i) = true :=
 allDig_iff.2 fun c hc => allDig_iff.1 h c (List.mem_of_mem_take hc)
theorem allDig_drop {l : List UInt8} (h : allDig l = true) (i : Nat) : allDig (l.drop i) = true :=
 allDig_iff.2 fun c hc => allDig_iff.1 h c (List.mem_of_mem_drop hc)
theorem worth_take_lt {l : List UInt8} (h : allDig l = true) (i : Nat) : worth (l.take i) < 10 ^ i := by
 refine Nat.lt_of_lt_of_le (worth_lt (allDig_take h i)) (Nat.pow_le_pow_right (by omega) ?_)
 rw [List.length_take]; omega
theorem worth_take_le {l : List UInt8} (h : allDig l = true) {i n : Nat} (hi : i ≤ n) : worth (l.take i) < 10 ^ n :=
 Nat.lt_of_lt_of_le (worth_take_lt h i) (Nat.pow_le_pow_right (by omega) hi)
theorem worth_take_lt' {l : List UInt8} {i n : Nat} (h : allDig (l.take i) = true) (hi : i ≤ n) : worth (l.take i) < 10 ^ n := by
 refine Nat.lt_of_lt_of_le (worth_lt h) (Nat.pow_le_pow_right (by omega) ?_)
 rw [List.length_take]; omega
theorem allDig_take_succ {l : List UInt8} {i : Nat} (h : i < l.length) (hd : allDig (l.take i) = true) (h1 : 48 ≤ (l.getD i 0).toNat) (h2 : (l.getD i 0).toNat ≤ 57) : allDig (l.take (i + 1)) = true := by
 unfold allDig at hd ⊢
 rw [all_take_succ h, hd, Bool.true_and, isDig_iff]; exact ⟨h1, h2⟩
theorem not_allDig {l : List UInt8} {i : Nat} (h : i < l.length) (h1 : ¬ (48 ≤ (l.getD i 0).toNat ∧ (l.getD i 0).toNat ≤ 57)) : allDig l = false :=
 not_all_of h (by cases hb : isDig (l.getD i 0) with | false => rfl | true => exact absurd (isDig_iff.1 hb) h1)
end Go.Pl
namespace Go.Vc.Z
open Go Go.Vc Go.Proofs Go.Pl
theorem rune_cases {l : List UInt8} {p : Nat} (h : p < l.length) : (runeAt l p = ((l.getD p 0).toNat : Int) ∧ runeW l p = 1 ∧ (l.getD p 0).toNat < 128) ∨ (128 ≤ runeAt l p ∧ 128 ≤ (l.getD p 0).toNat) := by
 rcases decode_cases h with ⟨h1, h2⟩ | ⟨h1, h2⟩
 ·exact .inl ⟨by rw [runeAt_eq, h1], by rw [runeW_eq, h1], h2⟩
 ·exact .inr ⟨by rw [runeAt_eq]; omega, h2⟩
theorem eqI_byte (c d : UInt8) : eqI (c.toNat : Int) (d.toNat : Int) = (c == d) := by
 rw [eqI_eq, Bool.eq_iff_iff, beq_iff_eq, beq_iff_eq]
 constructor
 ·intro h; exact UInt8.toNat_inj.1 (Int.ofNat.inj h)
 ·rintro rfl; rfl
end Go.Vc.Z
namespace Go.Vc.Z
open Go Go.Vc Go.Proofs Go.RowKit Go.Pl Go.Lib
noncomputable section
set_option maxRecDepth 100000
set_option linter.unusedSimpArgs false
set_option linter.unusedVariables false
attribute [local irreducible] inK Utf8.decode Utf8.encode Lib.itoa Pl.worth Pl.allDig
@[irreducible] def numOf (s : List UInt8) : Int × Int :=
 if s.length = 13 ∧ allDig s = true then (if checkN (worth s) = 0 then ((worth s : Int), 0) else (0, checkN (worth s))) else (0, 4)
def pcNOf : PC := PC.fun fun | [.str s] => some (True, .tup [.int .u64 (sI (numOf s).1), .int .i64 (sI (numOf s).2)]) | _ => none
def LNOf (s : List UInt8) : LoopSpec := {
 α := Nat
 keep := [4, 5, 10]
 vals i := [.int .u64 (worth (s.take i)), .int .i64 i, .iter 0]
 heap i := [.iter s i]
 ok i := i ≤ 13 ∧ i ≤ s.length ∧ allDig (s.take i) = true
 μ i := s.length - i }
def L_number_Of : List AV → Nat → Option LR := fun cs i => match cs with | [.str s] => cond (Nat.beq i 3) (some (.inv (LNOf s))) (none) | _ => none
theorem g_number_Of {W : World} (hW : Tabs W) : GoodP (Fw W) Tryz.prog 153 pcNOf := by
 have hD := d_number_parts hW
 have hC0 : CtrOk (Fw W) Tryz.prog C_number_parts := (c_number_parts hW)
 refine goodP_fun (D := D_number_parts) (C := C_number_parts) (wr := (fun _ => false)) rfl tyOk hD hC0 Tryz.func153 (L_number_Of) ?_
 clear hC0 hD hW
 intro cs p r h hf hp
 split at h
 case h_2 => cases h
 rename_i s
 cases h
 try simp only [factL, factA, inK_def, Go.Vc.lo, Go.Vc.hi, and_true] at hf
 (conv => whnf)
 all_goals (try (show _ = _; simp only [wQ]))
 refine ⟨?_, fun (i : Nat) (hi : i ≤ 13 ∧ i ≤ s.length ∧ allDig (s.take i) = true) => ?_⟩
 ·(conv => whnf)
  refine ⟨(0 : Nat), [], ?_, ⟨⟨rfl, Nat.le_of_ble_eq_true rfl, rfl⟩, ?_, ?_⟩⟩
  ·exact ⟨Nat.zero_le _, Nat.zero_le _, by simp [allDig]⟩
  ·(conv => whnf)
   (repeat' ((first | with_reducible exact True.intro | ((with_reducible refine And.intro ?_ ?_); focus (first | with_reducible rfl | omega | exact Nat.le_of_ble_eq_true rfl | rfl)) | with_reducible refine And.intro (?_ : leA _ _ _) ?_ | fail) <;> (conv => whnf)))
   all_goals (try simp only [wQ])
   all_goals (try first | omega)
   simp [worth]
  ·(conv => whnf)
   (repeat' ((first | with_reducible exact True.intro | ((with_reducible refine And.intro ?_ ?_); focus (first | with_reducible rfl | omega | exact Nat.le_of_ble_eq_true rfl | rfl)) | with_reducible refine And.intro (?_ : leBlk _ _ _ _) ?_ | fail) <;> (conv => whnf)))
   all_goals (try simp only [wQ])
 ·obtain ⟨h1, h2, h3⟩ := hi
  have hw := worth_take_lt' h3 h1
  have hbad : i < s.length → 13 ≤ i ∨ ¬ (48 ≤ runeAt s i ∧ runeAt s i ≤ 57) → numOf s = (0, 4) := fun h hc => by
   unfold numOf
   rw [if_neg]
   rintro ⟨h4, h5⟩
   have := dig_at h h5
   rcases rune_cases h with h6 | h6 <;> omega
  have hlen : s.length ≤ i → ¬ (i : Int) = 13 → numOf s = (0, 4) := fun h hc => by
   unfold numOf
   rw [if_neg]
   rintro ⟨h4, h5⟩
   omega
  have hok : s.length ≤ i → (i : Int) = 13 → numOf s = if checkN (worth (s.take i)) = 0 then ((worth (s.take i) : Int), 0) else (0, checkN (worth (s.take i))) := fun h hc => by
   rw [List.take_of_length_le h] at h3 ⊢
   unfold numOf
   rw [if_pos ⟨by omega, h3⟩]
  (conv => whnf)
  (repeat' ((first
   | with_reducible exact True.intro
   | ((with_reducible refine And.intro ?_ ?_); focus (first | with_reducible exact True.intro | with_reducible rfl | (simp only [inK_def, Go.Vc.lo, Go.Vc.hi]; omega)))
   | (split <;> rename_i hh <;> (try simp only [wS] at hh) <;> (try simp (disch := omega) only [wT] at hh))
   | with_reducible refine And.intro (?_ : leA _ _ _) ?_
   | fail) <;> (conv => whnf)))
  all_goals (try (show _ = _; simp only [wQ]))
  all_goals try (rw [hbad (by omega) (by omega)]; done)
  ·obtain ⟨h6, h7, h8⟩ : runeAt s i = ((s.getD i 0).toNat : Int) ∧ runeW s i = 1 ∧ (s.getD i 0).toNat < 128 := by
    rcases rune_cases (l := s) (p := i) (by omega) with h6 | h6 <;> omega
   (conv => whnf)
   refine ⟨(i + 1 : Nat), [], ?_, ⟨⟨rfl, Nat.le_of_ble_eq_true rfl, rfl⟩, ?_, ?_⟩⟩
   ·exact ⟨⟨show i + 1 ≤ 13 by omega, show i + 1 ≤ s.length by omega, allDig_take_succ (by omega) h3 (by omega) (by omega)⟩, show s.length - (i + 1) < s.length - i by omega⟩
   ·(conv => whnf)
    (repeat' ((first | with_reducible exact True.intro | ((with_reducible refine And.intro ?_ ?_); focus (first | with_reducible rfl | omega | exact Nat.le_of_ble_eq_true rfl | rfl)) | with_reducible refine And.intro (?_ : leA _ _ _) ?_ | fail) <;> (conv => whnf)))
    all_goals (try simp only [wQ])
    all_goals (try first | omega)
    rw [worth_take_succ (by omega)]; omega
   ·(conv => whnf)
    (repeat' ((first | with_reducible exact True.intro | ((with_reducible refine And.intro ?_ ?_); focus (first | with_reducible rfl | omega | exact Nat.le_of_ble_eq_true rfl | rfl)) | with_reducible refine And.intro (?_ : leBlk _ _ _ _) ?_ | fail) <;> (conv => whnf)))
    all_goals (try simp only [wQ])
    all_goals (try first | omega)
  all_goals first | (rw [hlen (by omega) (by assumption)]; done) | (rw [hok (by omega) (by assumption), if_pos (by assumption)]; done) | (rw [hok (by omega) (by assumption), if_neg (by assumption)]; done)
def pcDigits : PC := PC.fun fun | [.int .u64 n] => some (True, .str (sS (decDigits n.toNat))) | _ => none
def LDigits (n0 : Int) : LoopSpec := {
 α := Nat × List UInt8
 keep := [0, 3]
 vals x := [.int .u64 x.1, .str x.2]
 heap _ := []
 ok x := x.1 ≤ n0.toNat ∧ (if x.1 = 0 ∧ x.2 ≠ [] then x.2 else decDigits x.1 ++ x.2) = decDigits n0.toNat
 μ x := 2 * x.1 + if x.2 = [] then 1 else 0 }
theorem digits_step {n : Nat} {s : List UInt8} (h : 0 < n ∨ s = []) : (if n / 10 = 0 ∧ UInt8.ofNat (48 + n % 10) :: s ≠ [] then UInt8.ofNat (48 + n % 10) :: s else decDigits (n / 10) ++ (UInt8.ofNat (48 + n % 10) :: s)) = if n = 0 ∧ s ≠ [] then s else decDigits n ++ s := by
 by_cases hn : n < 10
 ·rw [if_pos ⟨by omega, by simp⟩, if_neg, dec_small hn]
  ·rfl
  ·rintro ⟨h1, h2⟩
   rcases h with h | h
   ·omega
   ·exact h2 h
 ·rw [if_neg (fun h => by omega), if_neg (fun h => by omega), dec_big (u := n) (by omega), List.append_assoc]; rfl
def L_couponref10_Digits : List AV → Nat → Option LR := fun cs i => match cs with | [.int .u64 n] => cond (Nat.beq i 2) (some (.inv (LDigits n))) (none) | _ => none
theorem g_couponref10_Digits {W : World} (hW : Tabs W) : GoodP (Fw W) Tryz.prog 81 pcDigits := by
 have hD := d_number_Check hW
 have hC0 : CtrOk (Fw W) Tryz.prog C_number_Check := (c_number_Check hW)
 refine goodP_fun (D := D_number_Check) (C := C_number_Check) (wr := (fun _ => false)) rfl tyOk hD hC0 Tryz.func81 (L_couponref10_Digits) ?_
 clear hC0 hD hW
 intro cs p r h hf hp
 split at h
 case h_2 => cases h
 rename_i n
 cases h
 try simp only [factL, factA, inK_def, Go.Vc.lo, Go.Vc.hi, and_true] at hf
 (conv => whnf)
 all_goals (try (show _ = _; simp only [wQ]))
 refine ⟨?_, fun (x : Nat × List UInt8) (hx : x.1 ≤ n.toNat ∧ (if x.1 = 0 ∧ x.2 ≠ [] then x.2 else decDigits x.1 ++ x.2) = decDigits n.toNat) => ?_⟩
 ·(conv => whnf)
  refine ⟨((n.toNat, []) : Nat × List UInt8), [], ?_, ⟨⟨rfl, Nat.le_of_ble_eq_true rfl, rfl⟩, ?_, ?_⟩⟩
  ·exact ⟨Nat.le_refl _, by simp⟩
  ·(conv => whnf)
   (repeat' ((first | with_reducible exact True.intro | ((with_reducible refine And.intro ?_ ?_); focus (first | with_reducible rfl | omega | exact Nat.le_of_ble_eq_true rfl | rfl)) | with_reducible refine And.intro (?_ : leA _ _ _) ?_ | fail) <;> (conv => whnf)))
   all_goals (try simp only [wQ])
   all_goals (try first | omega)
  ·(conv => whnf)
   (repeat' ((first | with_reducible exact True.intro | fail) <;> (conv => whnf)))
   all_goals (try simp only [wQ])
 ·obtain ⟨h1, h2⟩ := hx
  have hl : x.2.length ≤ 30 := by
   have := congrArg List.length h2
   have h20 : (decDigits n.toNat).length ≤ 30 := by rw [decDigits_length]; exact Nat.le_trans (nDigits_le 29 _ (by omega)) (by omega)
   split at this <;> (try simp at this) <;> omega
  (conv => whnf)
  (repeat' ((first
   | ((with_reducible refine And.intro ?_ ?_); focus (first | omega | (intro e he; rcases (by omega : e = 0 ∨ e = 1 ∨ e = 2) with rfl | rfl | rfl <;> first | rfl | (exfalso; omega)) | (simp only [inK_def, Go.Vc.lo, Go.Vc.hi]; omega) | (simp only [List.length_append, bytesOf_length, List.toList_toArray, List.length_cons, List.length_nil, List.length_take, List.length_drop, sS_eq]; omega)))
   | (split <;> rename_i hh <;> (try simp only [wS] at hh) <;> (try simp (disch := omega) only [wT] at hh))
   | fail) <;> (conv => whnf)))
  all_goals (try (show _ = _; simp only [wQ]))
  ·(conv => whnf)
   refine ⟨((x.1 / 10, UInt8.ofNat (48 + x.1 % 10) :: x.2) : Nat × List UInt8), [], ?_, ⟨⟨rfl, Nat.le_of_ble_eq_true rfl, rfl⟩, ?_, ?_⟩⟩
   ·refine ⟨⟨show x.1 / 10 ≤ n.toNat by omega, (digits_step (n := x.1) (s := x.2) (.inl (by omega))).trans h2⟩, ?_⟩
    show 2 * (x.1 / 10) + (if UInt8.ofNat (48 + x.1 % 10) :: x.2 = [] then 1 else 0) < 2 * x.1 + (if x.2 = [] then 1 else 0)
    rw [if_neg (by simp)]; omega
   ·exact leL_rfl _
   ·(conv => whnf)
    (repeat' ((first | with_reducible exact True.intro | fail) <;> (conv => whnf)))
    all_goals (try simp only [wQ])
  ·(conv => whnf)
   refine ⟨((x.1 / 10, UInt8.ofNat (48 + x.1 % 10) :: x.2) : Nat × List UInt8), [], ?_, ⟨⟨rfl, Nat.le_of_ble_eq_true rfl, rfl⟩, ?_, ?_⟩⟩
   ·refine ⟨⟨show x.1 / 10 ≤ n.toNat by omega, (digits_step (n := x.1) (s := x.2) (.inr (by assumption))).trans h2⟩, ?_⟩
    show 2 * (x.1 / 10) + (if UInt8.ofNat (48 + x.1 % 10) :: x.2 = [] then 1 else 0) < 2 * x.1 + (if x.2 = [] then 1 else 0)
    rw [if_neg (by simp), if_pos (by assumption)]; omega
   ·exact leL_rfl _
   ·(conv => whnf)
    (repeat' ((first | with_reducible exact True.intro | fail) <;> (conv => whnf)))
    all_goals (try simp only [wQ])
  ·have h0 : x.1 = 0 := by omega
   rw [← h2, if_pos ⟨h0, by assumption⟩]
end
end Go.Vc.Z
namespace Go.Vc.Z
open Go Go.Vc Go.Proofs Go.RowKit Go.Pl Go.Lib
noncomputable section
set_option maxRecDepth 100000
set_option linter.unusedSimpArgs false
set_option linter.unusedVariables false
attribute [local irreducible] inK Utf8.decode Utf8.encode Lib.itoa Pl.worth Pl.allDig
def pcWorth : PC := PC.fun fun | [.str s] => some (allDig s = true ∧ s.length ≤ 19, .int .u64 (sI (worth s))) | _ => none
def LWorth (s : List UInt8) : LoopSpec := {
 α := Nat
 keep := [0, 3, 4]
 vals i := [.str s, .int .u64 (sI (worth (s.take i))), .int .i64 i]
 heap _ := []
 ok i := i ≤ s.length
 μ i := s.length - i }
def L_couponref10_worth : List AV → Nat → Option LR := fun cs i => match cs with | [.str s] => cond (Nat.beq i 3) (some (.inv (LWorth s))) (none) | _ => none
theorem g_couponref10_worth {W : World} (hW : Tabs W) : GoodP (Fw W) Tryz.prog 174 pcWorth := by
 have hD := d_number_Check hW
 have hC0 : CtrOk (Fw W) Tryz.prog C_number_Check := (c_number_Check hW)
 refine goodP_fun (D := D_number_Check) (C := C_number_Check) (wr := (fun _ => false)) rfl tyOk hD hC0 Tryz.func174 (L_couponref10_worth) ?_
 clear hC0 hD hW
 intro cs p r h hf hp
 split at h
 case h_2 => cases h
 rename_i s
 cases h
 try simp only [factL, factA, inK_def, Go.Vc.lo, Go.Vc.hi, and_true] at hf
 obtain ⟨hd, hl⟩ := hp
 (conv => whnf)
 all_goals (try (show _ = _; simp only [wQ]))
 refine ⟨?_, fun (i : Nat) (hi : i ≤ s.length) => ?_⟩
 ·(conv => whnf)
  refine ⟨(0 : Nat), [], ?_, ⟨⟨rfl, Nat.le_of_ble_eq_true rfl, rfl⟩, ?_, ?_⟩⟩
  ·exact Nat.zero_le _
  ·(conv => whnf)
   (repeat' ((first | with_reducible exact True.intro | ((with_reducible refine And.intro ?_ ?_); focus (first | with_reducible rfl | omega | exact Nat.le_of_ble_eq_true rfl | rfl)) | with_reducible refine And.intro (?_ : leA _ _ _) ?_ | fail) <;> (conv => whnf)))
   all_goals (try simp only [wQ])
   all_goals (try first | omega)
   simp [worth]
  ·(conv => whnf)
   (repeat' ((first | with_reducible exact True.intro | fail) <;> (conv => whnf)))
   all_goals (try simp only [wQ])
 ·have hw := worth_take_le hd hi
  have hw2 : 10 ^ s.length ≤ 10 ^ 19 := Nat.pow_le_pow_right (by omega) hl
  have hdig : i < s.length → 48 ≤ (s.getD (Int.toNat (i : Int)) 0).toNat ∧ (s.getD (Int.toNat (i : Int)) 0).toNat ≤ 57 := fun h => dig_at h hd
  have hw3 : i < s.length → worth (s.take (i + 1)) = 10 * worth (s.take i) + ((s.getD (Int.toNat (i : Int)) 0).toNat - 48) := fun h => worth_take_succ h
  have hw5 : i < s.length → worth (s.take (i + 1)) < 10 ^ s.length := fun h => worth_take_le hd (by omega)
  have hsi := sI_eq (worth (s.take i))
  (conv => whnf)
  (repeat' ((first
   | ((with_reducible refine And.intro ?_ ?_); focus (first | with_reducible rfl | omega | (simp only [inK_def, Go.Vc.lo, Go.Vc.hi]; omega)))
   | (split <;> rename_i hh <;> (try simp only [wS] at hh) <;> (try simp (disch := omega) only [wT] at hh))
   | with_reducible refine (fun (hln : (_ : Int) ≤ 9223372036854775807) => ?_)
   | fail) <;> (conv => whnf)))
  all_goals (try (show _ = _; simp only [wQ]))
  ·(conv => whnf)
   refine ⟨(i + 1 : Nat), [], ?_, ⟨⟨rfl, Nat.le_of_ble_eq_true rfl, rfl⟩, ?_, ?_⟩⟩
   ·exact ⟨show i + 1 ≤ s.length by omega, show s.length - (i + 1) < s.length - i by omega⟩
   ·(conv => whnf)
    (repeat' ((first | with_reducible exact True.intro | ((with_reducible refine And.intro ?_ ?_); focus (first | with_reducible rfl | omega | exact Nat.le_of_ble_eq_true rfl | rfl)) | with_reducible refine And.intro (?_ : leA _ _ _) ?_ | fail) <;> (conv => whnf)))
    all_goals (try simp only [wQ])
    all_goals (try first | omega)
   ·(conv => whnf)
    (repeat' ((first | with_reducible exact True.intro | fail) <;> (conv => whnf)))
    all_goals (try simp only [wQ])
  ·rw [List.take_of_length_le (by omega)]
def pcDigit : PC := PC.fun fun | [.str s] => some (allDig s = true, .int .u8 (sI ((48 + worth s % 7 : Nat) : Int))) | _ => none
def LDigit (s : List UInt8) : LoopSpec := {
 α := Nat
 keep := [0, 3, 4]
 vals i := [.str s, .int .i64 (sI ((worth (s.take i) % 7 : Nat) : Int)), .int .i64 i]
 heap _ := []
 ok i := i ≤ s.length
 μ i := s.length - i }
def L_couponref10_digit : List AV → Nat → Option LR := fun cs i => match cs with | [.str s] => cond (Nat.beq i 3) (some (.inv (LDigit s))) (none) | _ => none
theorem g_couponref10_digit {W : World} (hW : Tabs W) : GoodP (Fw W) Tryz.prog 173 pcDigit := by
 have hD := d_number_Check hW
 have hC0 : CtrOk (Fw W) Tryz.prog C_number_Check := (c_number_Check hW)
 refine goodP_fun (D := D_number_Check) (C := C_number_Check) (wr := (fun _ => false)) rfl tyOk hD hC0 Tryz.func173 (L_couponref10_digit) ?_
 clear hC0 hD hW
 intro cs p r h hf hp
 split at h
 case h_2 => cases h
 rename_i s
 cases h
 try simp only [factL, factA, inK_def, Go.Vc.lo, Go.Vc.hi, and_true] at hf
 (conv => whnf)
 all_goals (try (show _ = _; simp only [wQ]))
 refine ⟨?_, fun (i : Nat) (hi : i ≤ s.length) => ?_⟩
 ·(conv => whnf)
  refine ⟨(0 : Nat), [], ?_, ⟨⟨rfl, Nat.le_of_ble_eq_true rfl, rfl⟩, ?_, ?_⟩⟩
  ·exact Nat.zero_le _
  ·(conv => whnf)
   (repeat' ((first | with_reducible exact True.intro | ((with_reducible refine And.intro ?_ ?_); focus (first | with_reducible rfl | omega | exact Nat.le_of_ble_eq_true rfl | rfl)) | with_reducible refine And.intro (?_ : leA _ _ _) ?_ | fail) <;> (conv => whnf)))
   all_goals (try simp only [wQ])
   all_goals (try first | omega)
   simp [worth]
  ·(conv => whnf)
   (repeat' ((first | with_reducible exact True.intro | fail) <;> (conv => whnf)))
   all_goals (try simp only [wQ])
 ·have hdig : i < s.length → 48 ≤ (s.getD (Int.toNat (i : Int)) 0).toNat ∧ (s.getD (Int.toNat (i : Int)) 0).toNat ≤ 57 := fun h => dig_at h hp
  have hw3 : i < s.length → worth (s.take (i + 1)) = 10 * worth (s.take i) + ((s.getD (Int.toNat (i : Int)) 0).toNat - 48) := fun h => worth_take_succ h
  have hsi := sI_eq ((worth (s.take i) % 7 : Nat) : Int)
  (conv => whnf)
  (repeat' ((first
   | ((with_reducible refine And.intro ?_ ?_); focus (first | with_reducible rfl | omega | (simp only [inK_def, Go.Vc.lo, Go.Vc.hi]; omega)))
   | (split <;> rename_i hh <;> (try simp only [wS] at hh) <;> (try simp (disch := omega) only [wT] at hh))
   | with_reducible refine (fun (hln : (_ : Int) ≤ 9223372036854775807) => ?_)
   | fail) <;> (conv => whnf)))
  all_goals (try (show _ = _; simp only [wQ]))
  ·(conv => whnf)
   refine ⟨(i + 1 : Nat), [], ?_, ⟨⟨rfl, Nat.le_of_ble_eq_true rfl, rfl⟩, ?_, ?_⟩⟩
   ·exact ⟨show i + 1 ≤ s.length by omega, show s.length - (i + 1) < s.length - i by omega⟩
   ·(conv => whnf)
    (repeat' ((first | with_reducible exact True.intro | ((with_reducible refine And.intro ?_ ?_); focus (first | with_reducible rfl | omega | exact Nat.le_of_ble_eq_true rfl | rfl)) | with_reducible refine And.intro (?_ : leA _ _ _) ?_ | fail) <;> (conv => whnf)))
    all_goals (try simp only [wQ])
    all_goals (try first | omega)
    rw [hw3 (by omega)]
    rw [Int.tmod_eq_emod_of_nonneg (by omega)]
    omega
   ·(conv => whnf)
    (repeat' ((first | with_reducible exact True.intro | fail) <;> (conv => whnf)))
    all_goals (try simp only [wQ])
  ·rw [List.take_of_length_le (by omega)]; omega
theorem worth_split13 {s : List UInt8} (h : s.length = 13) : worth s = 10 * worth (s.take 12) + ((s.getD 12 0).toNat - 48) := by
 rw [← worth_take_succ (by omega), List.take_of_length_le (by omega)]
theorem checkN_ne2 {n : Int} (h0 : 1000000000000 ≤ n) (h1 : n ≤ 9999999999999) : checkN n = if n / 10 % 7 = n % 10 then 0 else 11 := by
 unfold checkN; rw [if_neg (by omega)]
theorem checkN_lo {n : Int} (h0 : n < 1000000000000) : checkN n = 2 := by
 unfold checkN; rw [if_pos (.inl h0)]
theorem worth_head {s : List UInt8} (h : s.length = 13) (hd : allDig s = true) : worth s = ((s.getD 0 0).toNat - 48) * 1000000000000 + worth (s.drop 1) ∧ worth (s.drop 1) < 1000000000000 := by
 match s, h with
 | c :: t, h =>
  have ht : t.length = 12 := by simpa using h
  have h1 := worth_lt (allDig_drop hd 1)
  have h2 := worth_cons c t
  simp only [List.drop_succ_cons, List.drop_zero, ht] at h1 ⊢
  rw [ht] at h2
  exact ⟨h2, h1⟩
def LROf (s : List UInt8) : LoopSpec := {
 α := Nat
 keep := [0, 4]
 vals i := [.str s, .int .i64 i]
 heap _ := []
 ok i := i ≤ 13 ∧ allDig (s.take i) = true
 μ i := 13 - i }
def pcROf : PC := PC.fun fun | [.str s] => some (True, .tup [.int .u64 (sI (numOf s).1), .int .i64 (sI (numOf s).2)]) | _ => none
def D_couponref10_Of : PT := tabD [(173, pcDigit), (174, pcWorth)]
theorem d_couponref10_Of {W : World} (hW : Tabs W) : PTOk (Fw W) Tryz.prog D_couponref10_Of := (tabD_cons Tryz.call173 (g_couponref10_digit hW) (tabD_cons Tryz.call174 (g_couponref10_worth hW) tabD_nil))
def C_couponref10_Of : FuncId → Option Ctr := tabC D_couponref10_Of []
theorem c_couponref10_Of {W : World} (hW : Tabs W) : CtrOk (Fw W) Tryz.prog C_couponref10_Of := (tabC_nil (d_couponref10_Of hW))
def L_couponref10_Of : List AV → Nat → Option LR := fun cs i => match cs with | [.str s] => cond (Nat.beq i 4) (some (.inv (LROf s))) (none) | _ => none
theorem g_couponref10_Of {W : World} (hW : Tabs W) : GoodP (Fw W) Tryz.prog 88 pcROf := by
 have hD := d_couponref10_Of hW
 have hC0 : CtrOk (Fw W) Tryz.prog C_couponref10_Of := (c_couponref10_Of hW)
 refine goodP_fun (D := D_couponref10_Of) (C := C_couponref10_Of) (wr := (fun _ => false)) rfl tyOk hD hC0 Tryz.func88 (L_couponref10_Of) ?_
 clear hC0 hD hW
 intro cs p r h hf hp
 split at h
 case h_2 => cases h
 rename_i s
 cases h
 try simp only [factL, factA, inK_def, Go.Vc.lo, Go.Vc.hi, and_true] at hf
 (conv => whnf)
 (repeat' ((first
  | with_reducible exact True.intro
  | ((with_reducible refine And.intro ?_ ?_); focus (with_reducible rfl))
  | (split <;> rename_i hh <;> (try simp only [wS] at hh) <;> (try simp (disch := omega) only [wT] at hh))
  | with_reducible refine (fun (hln : (_ : Int) ≤ 9223372036854775807) => ?_)
  | with_reducible refine And.intro (?_ : leA _ _ _) ?_
  | fail) <;> (conv => whnf)))
 all_goals (try (show _ = _; simp only [wQ]))
 ·have hx : numOf s = (0, 4) := by
   unfold numOf; rw [if_neg]; rintro ⟨h1, _⟩; omega
  rw [hx]
 ·have hx : numOf s = (0, 4) := by
   unfold numOf; rw [if_neg]; rintro ⟨h1, _⟩; omega
  rw [hx]
 ·have hl : s.length = 13 := by omega
  refine ⟨?_, fun (i : Nat) (hi : i ≤ 13 ∧ allDig (s.take i) = true) => ?_⟩
  ·(conv => whnf)
   refine ⟨(0 : Nat), [], ?_, ⟨⟨rfl, Nat.le_of_ble_eq_true rfl, rfl⟩, ?_, ?_⟩⟩
   ·exact ⟨Nat.zero_le _, by simp [allDig]⟩
   ·exact leL_rfl _
   ·(conv => whnf)
    (repeat' ((first | with_reducible exact True.intro | fail) <;> (conv => whnf)))
    all_goals (try simp only [wQ])
  ·obtain ⟨h1, h2⟩ := hi
   have ei : (s.getD (Int.toNat (i : Int)) 0).toNat = (s.getD i 0).toNat := rfl
   have hbad : i < 13 → ¬ (48 ≤ (s.getD (Int.toNat (i : Int)) 0).toNat ∧ (s.getD (Int.toNat (i : Int)) 0).toNat ≤ 57) → numOf s = (0, 4) := fun h hc => by
    unfold numOf; rw [if_neg]; rintro ⟨_, h3⟩
    exact hc (dig_at (by omega) h3)
   have hdg : 13 ≤ i → allDig s = true := fun h => by rwa [List.take_of_length_le (by omega)] at h2
   have hdd : 13 ≤ i → allDig ((s.drop 0).take (Int.toNat 12 - 0)) = true := fun h => allDig_take (hdg h) 12
   have hh0 : 13 ≤ i → ((s.getD (Int.toNat 0) 0).toNat : Int) = 48 → numOf s = (0, 2) := fun h h3 => by
    obtain ⟨h4, h5⟩ := worth_head hl (hdg h)
    have h3 : (s.getD 0 0).toNat = 48 := Int.ofNat.inj h3
    have h6 : checkN (worth s) = 2 := checkN_lo (by rw [h3] at h4; omega)
    unfold numOf; rw [if_pos ⟨hl, hdg h⟩, h6]; rfl
   have hfin : 13 ≤ i → ¬ ((s.getD (Int.toNat 0) 0).toNat : Int) = 48 → numOf s = if (48 + (worth ((s.drop 0).take (Int.toNat 12 - 0)) : Int) % 7) = ((s.getD (Int.toNat 12) 0).toNat : Int) then ((worth s : Int), 0) else (0, 11) := fun h h3 => by
    obtain ⟨h4, h5⟩ := worth_head hl (hdg h)
    have h3 : ¬ (s.getD 0 0).toNat = 48 := fun h => h3 (congrArg Int.ofNat h)
    have h7 := dig_at (l := s) (i := 0) (by omega) (hdg h)
    have h8 := worth_split13 hl
    have h9 := dig_at (l := s) (i := 12) (by omega) (hdg h)
    have h10 := worth_lt (hdg h)
    rw [hl] at h10
    have e : (s.drop 0).take (Int.toNat 12 - 0) = s.take 12 := rfl
    have e2 : s.getD (Int.toNat 12) 0 = s.getD 12 0 := rfl
    rw [e, e2]
    have a1 : (worth s : Int) / 10 = worth (s.take 12) := by omega
    have a2 : (worth s : Int) % 10 = (s.getD 12 0).toNat - 48 := by omega
    unfold numOf; rw [if_pos ⟨hl, hdg h⟩, checkN_ne2 (by omega) (by omega), a1, a2]
    by_cases hc : (48 + (worth (s.take 12) : Int) % 7) = ((s.getD 12 0).toNat : Int)
    ·rw [if_pos (by omega), if_pos hc]
    ·rw [if_neg (by omega), if_neg hc, if_neg (by omega)]
   (conv => whnf)
   (repeat' ((first
    | with_reducible exact True.intro
    | ((with_reducible refine And.intro ?_ ?_); focus (first | with_reducible rfl | omega | (simp only [inK_def, Go.Vc.lo, Go.Vc.hi]; omega)))
    | (split <;> rename_i hh <;> (try simp only [wS] at hh) <;> (try simp (disch := omega) only [wT] at hh))
    | with_reducible refine And.intro (?_ : leA _ _ _) ?_
    | fail) <;> (conv => whnf)))
   all_goals (try (show _ = _; simp only [wQ]))
   all_goals try (rw [hbad (by omega) (by omega)]; done)
   all_goals try (rw [hh0 (by omega) (by assumption)]; done)
   ·(conv => whnf)
    refine ⟨(i + 1 : Nat), [], ?_, ⟨⟨rfl, Nat.le_of_ble_eq_true rfl, rfl⟩, ?_, ?_⟩⟩
    ·exact ⟨⟨show i + 1 ≤ 13 by omega, allDig_take_succ (by omega) h2 (by omega) (by omega)⟩, show 13 - (i + 1) < 13 - i by omega⟩
    ·exact leL_rfl _
    ·(conv => whnf)
     (repeat' ((first | with_reducible exact True.intro | fail) <;> (conv => whnf)))
     all_goals (try simp only [wQ])
   refine ⟨hdd (by omega), ?_⟩
   have hda := hdg (by omega)
   (conv => whnf)
   (repeat' ((first
    | with_reducible exact True.intro
    | ((with_reducible refine And.intro ?_ ?_); focus (first | ((with_reducible show okB _ _ _ = true); rfl) | with_reducible rfl | omega | ((with_reducible refine ⟨?_, ?_⟩) <;> first | with_reducible assumption | omega)))
    | (split <;> rename_i hh <;> (try simp only [wS] at hh) <;> (try simp (disch := omega) only [wT] at hh))
    | with_reducible refine And.intro (?_ : leA _ _ _) ?_
    | fail) <;> (conv => whnf)))
   all_goals (try (show _ = _; simp only [wQ]))
   all_goals have hfi := hfin (by omega) (by assumption)
   all_goals first | (rw [hfi, if_neg (by omega)]; done) | (rw [hfi, if_pos (by omega)]; done) | trace_state
end
end Go.Vc.Z
