/- Printed by PrintTY: what the program's types are. -/
import Derived.Test.YtmfamcjilhjncaaGreatV7
import Derived.Test.YtmfamcjilhjncaaGreatProg
set_option linter.all false
namespace Go.Vc.Y
open Go Go.Vc Go.Proofs
set_option maxRecDepth 100000
noncomputable section
def ty0 : TI := ⟨1, 0, false, .other, (some (.any)), true⟩
theorem ok0 : tiOf Tryz.prog 0 = some ty0 := by kernel_rfl
def ty1 : TI := ⟨1, 8, false, .func, (some (.nilfn)), true⟩
theorem ok1 : tiOf Tryz.prog 1 = some ty1 := by kernel_rfl
def ty2 : TI := ⟨1, 8, false, (.int .i64), (some (.int .i64 0)), true⟩
theorem ok2 : tiOf Tryz.prog 2 = some ty2 := by kernel_rfl
def ty3 : TI := ⟨1, 8, false, (.int .i64), (some (.int .i64 0)), true⟩
theorem ok3 : tiOf Tryz.prog 3 = some ty3 := by kernel_rfl
def ty4 : TI := ⟨1, 1, false, .bool, (some (.bool false)), true⟩
theorem ok4 : tiOf Tryz.prog 4 = some ty4 := by kernel_rfl
def ty5 : TI := ⟨1, 1, false, (.int .u8), (some (.int .u8 0)), true⟩
theorem ok5 : tiOf Tryz.prog 5 = some ty5 := by kernel_rfl
def ty6 : TI := ⟨1, 1, false, (.int .u8), (some (.int .u8 0)), true⟩
theorem ok6 : tiOf Tryz.prog 6 = some ty6 := by kernel_rfl
def ty7 : TI := ⟨4, 24, true, (.struct [(0, 2), (1, 3), (2, 4), (3, 6)]), (some (.agg [.int .i64 0, .int .i64 0, .bool false, .int .u8 0])), true⟩
theorem ok7 : tiOf Tryz.prog 7 = some ty7 := by kernel_rfl
def ty8 : TI := ⟨4, 24, true, (.struct [(0, 2), (1, 3), (2, 4), (3, 6)]), (some (.agg [.int .i64 0, .int .i64 0, .bool false, .int .u8 0])), true⟩
theorem ok8 : tiOf Tryz.prog 8 = some ty8 := by kernel_rfl
def ty9 : TI := ⟨1, 16, false, .str, (some (.str [])), true⟩
theorem ok9 : tiOf Tryz.prog 9 = some ty9 := by kernel_rfl
def ty10 : TI := ⟨1, 16, false, .str, (some (.str [])), true⟩
theorem ok10 : tiOf Tryz.prog 10 = some ty10 := by kernel_rfl
def ty11 : TI := ⟨1, 16, false, .str, (some (.str [])), true⟩
theorem ok11 : tiOf Tryz.prog 11 = some ty11 := by kernel_rfl
def ty12 : TI := ⟨1, 8, false, (.int .u64), (some (.int .u64 0)), true⟩
theorem ok12 : tiOf Tryz.prog 12 = some ty12 := by kernel_rfl
def ty13 : TI := ⟨2, 24, true, (.struct [(0, 9), (1, 12)]), (some (.agg [.str [], .int .u64 0])), false⟩
theorem ok13 : tiOf Tryz.prog 13 = some ty13 := by kernel_rfl
def ty14 : TI := ⟨2, 24, true, (.struct [(0, 9), (1, 12)]), (some (.agg [.str [], .int .u64 0])), false⟩
theorem ok14 : tiOf Tryz.prog 14 = some ty14 := by kernel_rfl
def ty15 : TI := ⟨1, 8, false, (.ptr 393), (some (.nilp)), true⟩
theorem ok15 : tiOf Tryz.prog 15 = some ty15 := by kernel_rfl
def ty16 : TI := ⟨1, 8, false, (.ptr 396), (some (.nilp)), true⟩
theorem ok16 : tiOf Tryz.prog 16 = some ty16 := by kernel_rfl
def ty17 : TI := ⟨1, 8, false, (.ptr 404), (some (.nilp)), true⟩
theorem ok17 : tiOf Tryz.prog 17 = some ty17 := by kernel_rfl
def ty18 : TI := ⟨1, 8, true, (.struct [(0, 17)]), (some (.agg [.nilp])), false⟩
theorem ok18 : tiOf Tryz.prog 18 = some ty18 := by kernel_rfl
def ty19 : TI := ⟨1, 8, true, (.struct [(0, 17)]), (some (.agg [.nilp])), false⟩
theorem ok19 : tiOf Tryz.prog 19 = some ty19 := by kernel_rfl
def ty20 : TI := ⟨1, 16, false, .iface, (some (.nilif)), true⟩
theorem ok20 : tiOf Tryz.prog 20 = some ty20 := by kernel_rfl
def ty21 : TI := ⟨1, 4, false, (.int .i32), (some (.int .i32 0)), true⟩
theorem ok21 : tiOf Tryz.prog 21 = some ty21 := by kernel_rfl
def ty22 : TI := ⟨1, 8, false, (.ptr 62), (some (.nilp)), true⟩
theorem ok22 : tiOf Tryz.prog 22 = some ty22 := by kernel_rfl
def ty23 : TI := ⟨1, 8, false, (.int .i64), (some (.int .i64 0)), true⟩
theorem ok23 : tiOf Tryz.prog 23 = some ty23 := by kernel_rfl
def ty24 : TI := ⟨1, 0, false, .other, (some (.any)), true⟩
theorem ok24 : tiOf Tryz.prog 24 = some ty24 := by kernel_rfl
def ty25 : TI := ⟨1, 8, false, .func, (some (.nilfn)), true⟩
theorem ok25 : tiOf Tryz.prog 25 = some ty25 := by kernel_rfl
def ty26 : TI := ⟨3, 24, true, (.struct [(0, 3), (1, 3), (2, 3)]), (some (.agg [.int .i64 0, .int .i64 0, .int .i64 0])), true⟩
theorem ok26 : tiOf Tryz.prog 26 = some ty26 := by kernel_rfl
def ty27 : TI := ⟨3, 24, true, (.struct [(0, 3), (1, 3), (2, 3)]), (some (.agg [.int .i64 0, .int .i64 0, .int .i64 0])), true⟩
theorem ok27 : tiOf Tryz.prog 27 = some ty27 := by kernel_rfl
def ty28 : TI := ⟨1, 8, false, (.int .i64), (some (.int .i64 0)), true⟩
theorem ok28 : tiOf Tryz.prog 28 = some ty28 := by kernel_rfl
def ty29 : TI := ⟨1, 8, false, (.int .u64), (some (.int .u64 0)), true⟩
theorem ok29 : tiOf Tryz.prog 29 = some ty29 := by kernel_rfl
def ty30 : TI := ⟨1, 8, false, (.int .i64), (some (.int .i64 0)), true⟩
theorem ok30 : tiOf Tryz.prog 30 = some ty30 := by kernel_rfl
def ty31 : TI := ⟨1, 24, false, (.slice 48), (some (.nilsl)), true⟩
theorem ok31 : tiOf Tryz.prog 31 = some ty31 := by kernel_rfl
def ty32 : TI := ⟨1, 24, false, (.slice 103), (some (.nilsl)), true⟩
theorem ok32 : tiOf Tryz.prog 32 = some ty32 := by kernel_rfl
def ty33 : TI := ⟨12, 144, true, (.struct [(0, 9), (1, 28), (2, 3), (3, 29), (4, 3), (5, 30), (6, 9), (7, 31), (8, 32), (9, 2), (10, 3), (11, 3)]), (some (.agg [.str [], .int .i64 0, .int .i64 0, .int .u64 0, .int .i64 0, .int .i64 0, .str [], .nilsl, .nilsl, .int .i64 0, .int .i64 0, .int .i64 0])), true⟩
theorem ok33 : tiOf Tryz.prog 33 = some ty33 := by kernel_rfl
def ty34 : TI := ⟨12, 144, true, (.struct [(0, 9), (1, 28), (2, 3), (3, 29), (4, 3), (5, 30), (6, 9), (7, 31), (8, 32), (9, 2), (10, 3), (11, 3)]), (some (.agg [.str [], .int .i64 0, .int .i64 0, .int .u64 0, .int .i64 0, .int .i64 0, .str [], .nilsl, .nilsl, .int .i64 0, .int .i64 0, .int .i64 0])), true⟩
theorem ok34 : tiOf Tryz.prog 34 = some ty34 := by kernel_rfl
def ty35 : TI := ⟨1, 24, false, (.slice 66), (some (.nilsl)), true⟩
theorem ok35 : tiOf Tryz.prog 35 = some ty35 := by kernel_rfl
def ty36 : TI := ⟨1, 24, false, (.slice 144), (some (.nilsl)), true⟩
theorem ok36 : tiOf Tryz.prog 36 = some ty36 := by kernel_rfl
def ty37 : TI := ⟨1, 24, false, (.slice 115), (some (.nilsl)), true⟩
theorem ok37 : tiOf Tryz.prog 37 = some ty37 := by kernel_rfl
def ty38 : TI := ⟨4, 80, true, (.struct [(0, 23), (1, 35), (2, 36), (3, 37)]), (some (.agg [.int .i64 0, .nilsl, .nilsl, .nilsl])), true⟩
theorem ok38 : tiOf Tryz.prog 38 = some ty38 := by kernel_rfl
def ty39 : TI := ⟨4, 80, true, (.struct [(0, 23), (1, 35), (2, 36), (3, 37)]), (some (.agg [.int .i64 0, .nilsl, .nilsl, .nilsl])), true⟩
theorem ok39 : tiOf Tryz.prog 39 = some ty39 := by kernel_rfl
def ty40 : TI := ⟨1, 0, false, .other, (some (.any)), true⟩
theorem ok40 : tiOf Tryz.prog 40 = some ty40 := by kernel_rfl
def ty41 : TI := ⟨1, 8, false, .func, (some (.nilfn)), true⟩
theorem ok41 : tiOf Tryz.prog 41 = some ty41 := by kernel_rfl
def ty42 : TI := ⟨1, 8, false, .func, (some (.nilfn)), true⟩
theorem ok42 : tiOf Tryz.prog 42 = some ty42 := by kernel_rfl
def ty43 : TI := ⟨1, 0, false, .other, (some (.any)), true⟩
theorem ok43 : tiOf Tryz.prog 43 = some ty43 := by kernel_rfl
def ty44 : TI := ⟨1, 8, false, .func, (some (.nilfn)), true⟩
theorem ok44 : tiOf Tryz.prog 44 = some ty44 := by kernel_rfl
def ty45 : TI := ⟨1, 8, false, .func, (some (.nilfn)), true⟩
theorem ok45 : tiOf Tryz.prog 45 = some ty45 := by kernel_rfl
def ty46 : TI := ⟨1, 8, false, (.int .i64), (some (.int .i64 0)), true⟩
theorem ok46 : tiOf Tryz.prog 46 = some ty46 := by kernel_rfl
def ty47 : TI := ⟨6, 48, true, (.struct [(0, 3), (1, 3), (2, 2), (3, 30), (4, 3), (5, 29)]), (some (.agg [.int .i64 0, .int .i64 0, .int .i64 0, .int .i64 0, .int .i64 0, .int .u64 0])), true⟩
theorem ok47 : tiOf Tryz.prog 47 = some ty47 := by kernel_rfl
def ty48 : TI := ⟨6, 48, true, (.struct [(0, 3), (1, 3), (2, 2), (3, 30), (4, 3), (5, 29)]), (some (.agg [.int .i64 0, .int .i64 0, .int .i64 0, .int .i64 0, .int .i64 0, .int .u64 0])), true⟩
theorem ok48 : tiOf Tryz.prog 48 = some ty48 := by kernel_rfl
def ty49 : TI := ⟨11, 88, true, (.struct [(0, 46), (1, 29), (2, 3), (3, 3), (4, 23), (5, 48)]), (some (.agg [.int .i64 0, .int .u64 0, .int .i64 0, .int .i64 0, .int .i64 0, .int .i64 0, .int .i64 0, .int .i64 0, .int .i64 0, .int .i64 0, .int .u64 0])), true⟩
theorem ok49 : tiOf Tryz.prog 49 = some ty49 := by kernel_rfl
def ty50 : TI := ⟨11, 88, true, (.struct [(0, 46), (1, 29), (2, 3), (3, 3), (4, 23), (5, 48)]), (some (.agg [.int .i64 0, .int .u64 0, .int .i64 0, .int .i64 0, .int .i64 0, .int .i64 0, .int .i64 0, .int .i64 0, .int .i64 0, .int .i64 0, .int .u64 0])), true⟩
theorem ok50 : tiOf Tryz.prog 50 = some ty50 := by kernel_rfl
def ty51 : TI := ⟨1, 8, false, .func, (some (.nilfn)), true⟩
theorem ok51 : tiOf Tryz.prog 51 = some ty51 := by kernel_rfl
def ty52 : TI := ⟨1, 8, false, .func, (some (.nilfn)), true⟩
theorem ok52 : tiOf Tryz.prog 52 = some ty52 := by kernel_rfl
def ty53 : TI := ⟨1, 8, false, .func, (some (.nilfn)), true⟩
theorem ok53 : tiOf Tryz.prog 53 = some ty53 := by kernel_rfl
def ty54 : TI := ⟨1, 8, false, .func, (some (.nilfn)), true⟩
theorem ok54 : tiOf Tryz.prog 54 = some ty54 := by kernel_rfl
def ty55 : TI := ⟨1, 8, false, .func, (some (.nilfn)), true⟩
theorem ok55 : tiOf Tryz.prog 55 = some ty55 := by kernel_rfl
def ty56 : TI := ⟨1, 8, false, (.map 29 66), (some (.nilmap)), true⟩
theorem ok56 : tiOf Tryz.prog 56 = some ty56 := by kernel_rfl
def ty57 : TI := ⟨1, 8, false, (.map 29 36), (some (.nilmap)), true⟩
theorem ok57 : tiOf Tryz.prog 57 = some ty57 := by kernel_rfl
def ty58 : TI := ⟨1, 8, false, (.map 113 115), (some (.nilmap)), true⟩
theorem ok58 : tiOf Tryz.prog 58 = some ty58 := by kernel_rfl
def ty59 : TI := ⟨1, 8, false, (.map 9 96), (some (.nilmap)), true⟩
theorem ok59 : tiOf Tryz.prog 59 = some ty59 := by kernel_rfl
def ty60 : TI := ⟨1, 8, false, (.map 3 111), (some (.nilmap)), true⟩
theorem ok60 : tiOf Tryz.prog 60 = some ty60 := by kernel_rfl
def ty61 : TI := ⟨10, 80, true, (.struct [(0, 27), (3, 3), (4, 3), (5, 56), (6, 57), (7, 58), (8, 59), (9, 60)]), (some (.agg [.int .i64 0, .int .i64 0, .int .i64 0, .int .i64 0, .int .i64 0, .nilmap, .nilmap, .nilmap, .nilmap, .nilmap])), true⟩
theorem ok61 : tiOf Tryz.prog 61 = some ty61 := by kernel_rfl
def ty62 : TI := ⟨10, 80, true, (.struct [(0, 27), (3, 3), (4, 3), (5, 56), (6, 57), (7, 58), (8, 59), (9, 60)]), (some (.agg [.int .i64 0, .int .i64 0, .int .i64 0, .int .i64 0, .int .i64 0, .nilmap, .nilmap, .nilmap, .nilmap, .nilmap])), true⟩
theorem ok62 : tiOf Tryz.prog 62 = some ty62 := by kernel_rfl
def ty63 : TI := ⟨1, 24, false, (.slice 22), (some (.nilsl)), true⟩
theorem ok63 : tiOf Tryz.prog 63 = some ty63 := by kernel_rfl
def ty64 : TI := ⟨1, 24, false, (.slice 206), (some (.nilsl)), true⟩
theorem ok64 : tiOf Tryz.prog 64 = some ty64 := by kernel_rfl
def ty65 : TI := ⟨11, 144, true, (.struct [(0, 29), (1, 9), (2, 3), (3, 31), (4, 32), (5, 29), (6, 29), (7, 29), (8, 2), (9, 3), (10, 64)]), (some (.agg [.int .u64 0, .str [], .int .i64 0, .nilsl, .nilsl, .int .u64 0, .int .u64 0, .int .u64 0, .int .i64 0, .int .i64 0, .nilsl])), true⟩
theorem ok65 : tiOf Tryz.prog 65 = some ty65 := by kernel_rfl
def ty66 : TI := ⟨11, 144, true, (.struct [(0, 29), (1, 9), (2, 3), (3, 31), (4, 32), (5, 29), (6, 29), (7, 29), (8, 2), (9, 3), (10, 64)]), (some (.agg [.int .u64 0, .str [], .int .i64 0, .nilsl, .nilsl, .int .u64 0, .int .u64 0, .int .u64 0, .int .i64 0, .int .i64 0, .nilsl])), true⟩
theorem ok66 : tiOf Tryz.prog 66 = some ty66 := by kernel_rfl
def ty67 : TI := ⟨1, 0, false, .other, (some (.any)), true⟩
theorem ok67 : tiOf Tryz.prog 67 = some ty67 := by kernel_rfl
def ty68 : TI := ⟨1, 8, false, .func, (some (.nilfn)), true⟩
theorem ok68 : tiOf Tryz.prog 68 = some ty68 := by kernel_rfl
def ty69 : TI := ⟨1, 24, false, (.slice 3), (some (.nilsl)), true⟩
theorem ok69 : tiOf Tryz.prog 69 = some ty69 := by kernel_rfl
def ty70 : TI := ⟨1, 8, false, .func, (some (.nilfn)), true⟩
theorem ok70 : tiOf Tryz.prog 70 = some ty70 := by kernel_rfl
def ty71 : TI := ⟨1, 8, false, .func, (some (.nilfn)), true⟩
theorem ok71 : tiOf Tryz.prog 71 = some ty71 := by kernel_rfl
def ty72 : TI := ⟨1, 8, false, .func, (some (.nilfn)), true⟩
theorem ok72 : tiOf Tryz.prog 72 = some ty72 := by kernel_rfl
def ty73 : TI := ⟨1, 8, false, .func, (some (.nilfn)), true⟩
theorem ok73 : tiOf Tryz.prog 73 = some ty73 := by kernel_rfl
def ty74 : TI := ⟨1, 8, false, .func, (some (.nilfn)), true⟩
theorem ok74 : tiOf Tryz.prog 74 = some ty74 := by kernel_rfl
def ty75 : TI := ⟨1, 8, false, .func, (some (.nilfn)), true⟩
theorem ok75 : tiOf Tryz.prog 75 = some ty75 := by kernel_rfl
def ty76 : TI := ⟨1, 8, false, .func, (some (.nilfn)), true⟩
theorem ok76 : tiOf Tryz.prog 76 = some ty76 := by kernel_rfl
def ty77 : TI := ⟨1, 8, false, .func, (some (.nilfn)), true⟩
theorem ok77 : tiOf Tryz.prog 77 = some ty77 := by kernel_rfl
def ty78 : TI := ⟨1, 24, false, (.slice 96), (some (.nilsl)), true⟩
theorem ok78 : tiOf Tryz.prog 78 = some ty78 := by kernel_rfl
def ty79 : TI := ⟨1, 24, false, (.slice 154), (some (.nilsl)), true⟩
theorem ok79 : tiOf Tryz.prog 79 = some ty79 := by kernel_rfl
def ty80 : TI := ⟨10, 160, true, (.struct [(0, 27), (3, 3), (4, 3), (5, 35), (6, 36), (7, 37), (8, 78), (9, 79)]), (some (.agg [.int .i64 0, .int .i64 0, .int .i64 0, .int .i64 0, .int .i64 0, .nilsl, .nilsl, .nilsl, .nilsl, .nilsl])), true⟩
theorem ok80 : tiOf Tryz.prog 80 = some ty80 := by kernel_rfl
def ty81 : TI := ⟨10, 160, true, (.struct [(0, 27), (3, 3), (4, 3), (5, 35), (6, 36), (7, 37), (8, 78), (9, 79)]), (some (.agg [.int .i64 0, .int .i64 0, .int .i64 0, .int .i64 0, .int .i64 0, .nilsl, .nilsl, .nilsl, .nilsl, .nilsl])), true⟩
theorem ok81 : tiOf Tryz.prog 81 = some ty81 := by kernel_rfl
def ty82 : TI := ⟨1, 8, false, .func, (some (.nilfn)), true⟩
theorem ok82 : tiOf Tryz.prog 82 = some ty82 := by kernel_rfl
def ty83 : TI := ⟨1, 8, false, .func, (some (.nilfn)), true⟩
theorem ok83 : tiOf Tryz.prog 83 = some ty83 := by kernel_rfl
def ty84 : TI := ⟨1, 8, false, .func, (some (.nilfn)), true⟩
theorem ok84 : tiOf Tryz.prog 84 = some ty84 := by kernel_rfl
def ty85 : TI := ⟨1, 8, false, .func, (some (.nilfn)), true⟩
theorem ok85 : tiOf Tryz.prog 85 = some ty85 := by kernel_rfl
def ty86 : TI := ⟨1, 8, false, .func, (some (.nilfn)), true⟩
theorem ok86 : tiOf Tryz.prog 86 = some ty86 := by kernel_rfl
def ty87 : TI := ⟨1, 8, false, .func, (some (.nilfn)), true⟩
theorem ok87 : tiOf Tryz.prog 87 = some ty87 := by kernel_rfl
def ty88 : TI := ⟨1, 8, false, .func, (some (.nilfn)), true⟩
theorem ok88 : tiOf Tryz.prog 88 = some ty88 := by kernel_rfl
def ty89 : TI := ⟨1, 8, false, .func, (some (.nilfn)), true⟩
theorem ok89 : tiOf Tryz.prog 89 = some ty89 := by kernel_rfl
def ty90 : TI := ⟨1, 8, false, .func, (some (.nilfn)), true⟩
theorem ok90 : tiOf Tryz.prog 90 = some ty90 := by kernel_rfl
def ty91 : TI := ⟨1, 8, false, .func, (some (.nilfn)), true⟩
theorem ok91 : tiOf Tryz.prog 91 = some ty91 := by kernel_rfl
def ty92 : TI := ⟨1, 8, false, .func, (some (.nilfn)), true⟩
theorem ok92 : tiOf Tryz.prog 92 = some ty92 := by kernel_rfl
def ty93 : TI := ⟨1, 8, false, (.map 28 92), (some (.nilmap)), true⟩
theorem ok93 : tiOf Tryz.prog 93 = some ty93 := by kernel_rfl
def ty94 : TI := ⟨1, 8, false, .func, (some (.nilfn)), true⟩
theorem ok94 : tiOf Tryz.prog 94 = some ty94 := by kernel_rfl
def ty95 : TI := ⟨16, 224, true, (.struct [(0, 34), (12, 39)]), (some (.agg [.str [], .int .i64 0, .int .i64 0, .int .u64 0, .int .i64 0, .int .i64 0, .str [], .nilsl, .nilsl, .int .i64 0, .int .i64 0, .int .i64 0, .int .i64 0, .nilsl, .nilsl, .nilsl])), true⟩
theorem ok95 : tiOf Tryz.prog 95 = some ty95 := by kernel_rfl
def ty96 : TI := ⟨16, 224, true, (.struct [(0, 34), (12, 39)]), (some (.agg [.str [], .int .i64 0, .int .i64 0, .int .u64 0, .int .i64 0, .int .i64 0, .str [], .nilsl, .nilsl, .int .i64 0, .int .i64 0, .int .i64 0, .int .i64 0, .nilsl, .nilsl, .nilsl])), true⟩
theorem ok96 : tiOf Tryz.prog 96 = some ty96 := by kernel_rfl
def ty97 : TI := ⟨1, 0, false, .other, (some (.any)), true⟩
theorem ok97 : tiOf Tryz.prog 97 = some ty97 := by kernel_rfl
def ty98 : TI := ⟨1, 8, false, .func, (some (.nilfn)), true⟩
theorem ok98 : tiOf Tryz.prog 98 = some ty98 := by kernel_rfl
def ty99 : TI := ⟨1, 8, false, .func, (some (.nilfn)), true⟩
theorem ok99 : tiOf Tryz.prog 99 = some ty99 := by kernel_rfl
def ty100 : TI := ⟨1, 8, false, .func, (some (.nilfn)), true⟩
theorem ok100 : tiOf Tryz.prog 100 = some ty100 := by kernel_rfl
def ty101 : TI := ⟨1, 8, false, .func, (some (.nilfn)), true⟩
theorem ok101 : tiOf Tryz.prog 101 = some ty101 := by kernel_rfl
def ty102 : TI := ⟨2, 16, true, (.struct [(0, 3), (1, 2)]), (some (.agg [.int .i64 0, .int .i64 0])), true⟩
theorem ok102 : tiOf Tryz.prog 102 = some ty102 := by kernel_rfl
def ty103 : TI := ⟨2, 16, true, (.struct [(0, 3), (1, 2)]), (some (.agg [.int .i64 0, .int .i64 0])), true⟩
theorem ok103 : tiOf Tryz.prog 103 = some ty103 := by kernel_rfl
def ty104 : TI := ⟨1, 8, false, .func, (some (.nilfn)), true⟩
theorem ok104 : tiOf Tryz.prog 104 = some ty104 := by kernel_rfl
def ty105 : TI := ⟨1, 8, false, .func, (some (.nilfn)), true⟩
theorem ok105 : tiOf Tryz.prog 105 = some ty105 := by kernel_rfl
def ty106 : TI := ⟨1, 8, false, .func, (some (.nilfn)), true⟩
theorem ok106 : tiOf Tryz.prog 106 = some ty106 := by kernel_rfl
def ty107 : TI := ⟨1, 24, false, (.slice 5), (some (.nilsl)), true⟩
theorem ok107 : tiOf Tryz.prog 107 = some ty107 := by kernel_rfl
def ty108 : TI := ⟨1, 8, false, .func, (some (.nilfn)), true⟩
theorem ok108 : tiOf Tryz.prog 108 = some ty108 := by kernel_rfl
def ty109 : TI := ⟨1, 24, false, (.slice 50), (some (.nilsl)), true⟩
theorem ok109 : tiOf Tryz.prog 109 = some ty109 := by kernel_rfl
def ty110 : TI := ⟨3, 40, true, (.struct [(0, 29), (1, 29), (2, 109)]), (some (.agg [.int .u64 0, .int .u64 0, .nilsl])), true⟩
theorem ok110 : tiOf Tryz.prog 110 = some ty110 := by kernel_rfl
def ty111 : TI := ⟨3, 40, true, (.struct [(0, 29), (1, 29), (2, 109)]), (some (.agg [.int .u64 0, .int .u64 0, .nilsl])), true⟩
theorem ok111 : tiOf Tryz.prog 111 = some ty111 := by kernel_rfl
def ty112 : TI := ⟨2, 16, true, (.struct [(0, 29), (1, 3)]), (some (.agg [.int .u64 0, .int .i64 0])), true⟩
theorem ok112 : tiOf Tryz.prog 112 = some ty112 := by kernel_rfl
def ty113 : TI := ⟨2, 16, true, (.struct [(0, 29), (1, 3)]), (some (.agg [.int .u64 0, .int .i64 0])), true⟩
theorem ok113 : tiOf Tryz.prog 113 = some ty113 := by kernel_rfl
def ty114 : TI := ⟨9, 72, true, (.struct [(0, 29), (1, 3), (2, 4), (3, 48)]), (some (.agg [.int .u64 0, .int .i64 0, .bool false, .int .i64 0, .int .i64 0, .int .i64 0, .int .i64 0, .int .i64 0, .int .u64 0])), true⟩
theorem ok114 : tiOf Tryz.prog 114 = some ty114 := by kernel_rfl
def ty115 : TI := ⟨9, 72, true, (.struct [(0, 29), (1, 3), (2, 4), (3, 48)]), (some (.agg [.int .u64 0, .int .i64 0, .bool false, .int .i64 0, .int .i64 0, .int .i64 0, .int .i64 0, .int .i64 0, .int .u64 0])), true⟩
theorem ok115 : tiOf Tryz.prog 115 = some ty115 := by kernel_rfl
def ty116 : TI := ⟨1, 0, false, .other, (some (.any)), true⟩
theorem ok116 : tiOf Tryz.prog 116 = some ty116 := by kernel_rfl
def ty117 : TI := ⟨1, 8, false, .func, (some (.nilfn)), true⟩
theorem ok117 : tiOf Tryz.prog 117 = some ty117 := by kernel_rfl
def ty118 : TI := ⟨1, 8, false, .func, (some (.nilfn)), true⟩
theorem ok118 : tiOf Tryz.prog 118 = some ty118 := by kernel_rfl
def ty119 : TI := ⟨1, 8, false, .func, (some (.nilfn)), true⟩
theorem ok119 : tiOf Tryz.prog 119 = some ty119 := by kernel_rfl
def ty120 : TI := ⟨1, 8, false, .func, (some (.nilfn)), true⟩
theorem ok120 : tiOf Tryz.prog 120 = some ty120 := by kernel_rfl
def ty121 : TI := ⟨1, 8, false, .func, (some (.nilfn)), true⟩
theorem ok121 : tiOf Tryz.prog 121 = some ty121 := by kernel_rfl
def ty122 : TI := ⟨1, 8, false, .func, (some (.nilfn)), true⟩
theorem ok122 : tiOf Tryz.prog 122 = some ty122 := by kernel_rfl
def ty123 : TI := ⟨1, 8, false, .func, (some (.nilfn)), true⟩
theorem ok123 : tiOf Tryz.prog 123 = some ty123 := by kernel_rfl
def ty124 : TI := ⟨1, 8, false, .func, (some (.nilfn)), true⟩
theorem ok124 : tiOf Tryz.prog 124 = some ty124 := by kernel_rfl
def ty125 : TI := ⟨1, 8, false, .func, (some (.nilfn)), true⟩
theorem ok125 : tiOf Tryz.prog 125 = some ty125 := by kernel_rfl
def ty126 : TI := ⟨1, 8, false, .func, (some (.nilfn)), true⟩
theorem ok126 : tiOf Tryz.prog 126 = some ty126 := by kernel_rfl
def ty127 : TI := ⟨1, 8, false, .func, (some (.nilfn)), true⟩
theorem ok127 : tiOf Tryz.prog 127 = some ty127 := by kernel_rfl
def ty128 : TI := ⟨1, 8, false, .func, (some (.nilfn)), true⟩
theorem ok128 : tiOf Tryz.prog 128 = some ty128 := by kernel_rfl
def ty129 : TI := ⟨1, 8, false, .func, (some (.nilfn)), true⟩
theorem ok129 : tiOf Tryz.prog 129 = some ty129 := by kernel_rfl
def ty130 : TI := ⟨1, 8, false, .func, (some (.nilfn)), true⟩
theorem ok130 : tiOf Tryz.prog 130 = some ty130 := by kernel_rfl
def ty131 : TI := ⟨1, 8, false, .func, (some (.nilfn)), true⟩
theorem ok131 : tiOf Tryz.prog 131 = some ty131 := by kernel_rfl
def ty132 : TI := ⟨1, 8, false, .func, (some (.nilfn)), true⟩
theorem ok132 : tiOf Tryz.prog 132 = some ty132 := by kernel_rfl
def ty133 : TI := ⟨1, 8, false, .func, (some (.nilfn)), true⟩
theorem ok133 : tiOf Tryz.prog 133 = some ty133 := by kernel_rfl
def ty134 : TI := ⟨1, 8, false, .func, (some (.nilfn)), true⟩
theorem ok134 : tiOf Tryz.prog 134 = some ty134 := by kernel_rfl
def ty135 : TI := ⟨1, 8, false, .func, (some (.nilfn)), true⟩
theorem ok135 : tiOf Tryz.prog 135 = some ty135 := by kernel_rfl
def ty136 : TI := ⟨1, 8, false, .func, (some (.nilfn)), true⟩
theorem ok136 : tiOf Tryz.prog 136 = some ty136 := by kernel_rfl
def ty137 : TI := ⟨1, 8, false, .func, (some (.nilfn)), true⟩
theorem ok137 : tiOf Tryz.prog 137 = some ty137 := by kernel_rfl
def ty138 : TI := ⟨1, 8, false, .func, (some (.nilfn)), true⟩
theorem ok138 : tiOf Tryz.prog 138 = some ty138 := by kernel_rfl
def ty139 : TI := ⟨1, 8, false, .func, (some (.nilfn)), true⟩
theorem ok139 : tiOf Tryz.prog 139 = some ty139 := by kernel_rfl
def ty140 : TI := ⟨1, 8, false, .func, (some (.nilfn)), true⟩
theorem ok140 : tiOf Tryz.prog 140 = some ty140 := by kernel_rfl
def ty141 : TI := ⟨1, 8, false, .func, (some (.nilfn)), true⟩
theorem ok141 : tiOf Tryz.prog 141 = some ty141 := by kernel_rfl
def ty142 : TI := ⟨1, 8, false, (.int .i64), (some (.int .i64 0)), true⟩
theorem ok142 : tiOf Tryz.prog 142 = some ty142 := by kernel_rfl
def ty143 : TI := ⟨10, 80, true, (.struct [(0, 3), (1, 29), (2, 3), (3, 142), (4, 2), (5, 2), (6, 2), (7, 2), (8, 2), (9, 2)]), (some (.agg [.int .i64 0, .int .u64 0, .int .i64 0, .int .i64 0, .int .i64 0, .int .i64 0, .int .i64 0, .int .i64 0, .int .i64 0, .int .i64 0])), true⟩
theorem ok143 : tiOf Tryz.prog 143 = some ty143 := by kernel_rfl
def ty144 : TI := ⟨10, 80, true, (.struct [(0, 3), (1, 29), (2, 3), (3, 142), (4, 2), (5, 2), (6, 2), (7, 2), (8, 2), (9, 2)]), (some (.agg [.int .i64 0, .int .u64 0, .int .i64 0, .int .i64 0, .int .i64 0, .int .i64 0, .int .i64 0, .int .i64 0, .int .i64 0, .int .i64 0])), true⟩
theorem ok144 : tiOf Tryz.prog 144 = some ty144 := by kernel_rfl
def ty145 : TI := ⟨1, 8, false, .func, (some (.nilfn)), true⟩
theorem ok145 : tiOf Tryz.prog 145 = some ty145 := by kernel_rfl
def ty146 : TI := ⟨1, 8, false, .func, (some (.nilfn)), true⟩
theorem ok146 : tiOf Tryz.prog 146 = some ty146 := by kernel_rfl
def ty147 : TI := ⟨1, 8, false, .func, (some (.nilfn)), true⟩
theorem ok147 : tiOf Tryz.prog 147 = some ty147 := by kernel_rfl
def ty148 : TI := ⟨1, 8, false, .func, (some (.nilfn)), true⟩
theorem ok148 : tiOf Tryz.prog 148 = some ty148 := by kernel_rfl
def ty149 : TI := ⟨1, 8, false, .func, (some (.nilfn)), true⟩
theorem ok149 : tiOf Tryz.prog 149 = some ty149 := by kernel_rfl
def ty150 : TI := ⟨1, 8, false, .func, (some (.nilfn)), true⟩
theorem ok150 : tiOf Tryz.prog 150 = some ty150 := by kernel_rfl
def ty151 : TI := ⟨1, 8, false, .func, (some (.nilfn)), true⟩
theorem ok151 : tiOf Tryz.prog 151 = some ty151 := by kernel_rfl
def ty152 : TI := ⟨1, 8, false, .func, (some (.nilfn)), true⟩
theorem ok152 : tiOf Tryz.prog 152 = some ty152 := by kernel_rfl
def ty153 : TI := ⟨4, 48, true, (.struct [(0, 3), (1, 29), (2, 29), (3, 109)]), (some (.agg [.int .i64 0, .int .u64 0, .int .u64 0, .nilsl])), true⟩
theorem ok153 : tiOf Tryz.prog 153 = some ty153 := by kernel_rfl
def ty154 : TI := ⟨4, 48, true, (.struct [(0, 3), (1, 29), (2, 29), (3, 109)]), (some (.agg [.int .i64 0, .int .u64 0, .int .u64 0, .nilsl])), true⟩
theorem ok154 : tiOf Tryz.prog 154 = some ty154 := by kernel_rfl
def ty155 : TI := ⟨1, 24, false, (.slice 9), (some (.nilsl)), true⟩
theorem ok155 : tiOf Tryz.prog 155 = some ty155 := by kernel_rfl
def ty156 : TI := ⟨1, 8, false, .func, (some (.nilfn)), true⟩
theorem ok156 : tiOf Tryz.prog 156 = some ty156 := by kernel_rfl
def ty157 : TI := ⟨1, 8, false, .func, (some (.nilfn)), true⟩
theorem ok157 : tiOf Tryz.prog 157 = some ty157 := by kernel_rfl
def ty158 : TI := ⟨1, 8, false, .func, (some (.nilfn)), true⟩
theorem ok158 : tiOf Tryz.prog 158 = some ty158 := by kernel_rfl
def ty159 : TI := ⟨1, 8, false, .func, (some (.nilfn)), true⟩
theorem ok159 : tiOf Tryz.prog 159 = some ty159 := by kernel_rfl
def ty160 : TI := ⟨1, 8, false, .func, (some (.nilfn)), true⟩
theorem ok160 : tiOf Tryz.prog 160 = some ty160 := by kernel_rfl
def ty161 : TI := ⟨1, 8, false, .func, (some (.nilfn)), true⟩
theorem ok161 : tiOf Tryz.prog 161 = some ty161 := by kernel_rfl
def ty162 : TI := ⟨1, 24, false, (.slice 29), (some (.nilsl)), true⟩
theorem ok162 : tiOf Tryz.prog 162 = some ty162 := by kernel_rfl
def ty163 : TI := ⟨1, 8, false, .func, (some (.nilfn)), true⟩
theorem ok163 : tiOf Tryz.prog 163 = some ty163 := by kernel_rfl
def ty164 : TI := ⟨1, 8, false, .func, (some (.nilfn)), true⟩
theorem ok164 : tiOf Tryz.prog 164 = some ty164 := by kernel_rfl
def ty165 : TI := ⟨1, 8, false, .func, (some (.nilfn)), true⟩
theorem ok165 : tiOf Tryz.prog 165 = some ty165 := by kernel_rfl
def ty166 : TI := ⟨1, 8, false, .func, (some (.nilfn)), true⟩
theorem ok166 : tiOf Tryz.prog 166 = some ty166 := by kernel_rfl
def ty167 : TI := ⟨1, 8, false, .func, (some (.nilfn)), true⟩
theorem ok167 : tiOf Tryz.prog 167 = some ty167 := by kernel_rfl
def ty168 : TI := ⟨1, 8, false, .func, (some (.nilfn)), true⟩
theorem ok168 : tiOf Tryz.prog 168 = some ty168 := by kernel_rfl
def ty169 : TI := ⟨1, 8, false, .func, (some (.nilfn)), true⟩
theorem ok169 : tiOf Tryz.prog 169 = some ty169 := by kernel_rfl
def ty170 : TI := ⟨1, 8, false, (.ptr 177), (some (.nilp)), true⟩
theorem ok170 : tiOf Tryz.prog 170 = some ty170 := by kernel_rfl
def ty171 : TI := ⟨1, 8, false, (.ptr 377), (some (.nilp)), true⟩
theorem ok171 : tiOf Tryz.prog 171 = some ty171 := by kernel_rfl
def ty172 : TI := ⟨1, 8, false, (.ptr 380), (some (.nilp)), true⟩
theorem ok172 : tiOf Tryz.prog 172 = some ty172 := by kernel_rfl
def ty173 : TI := ⟨3, 24, true, (.struct [(0, 171), (1, 172), (2, 4)]), (some (.agg [.nilp, .nilp, .bool false])), true⟩
theorem ok173 : tiOf Tryz.prog 173 = some ty173 := by kernel_rfl
def ty174 : TI := ⟨3, 24, true, (.struct [(0, 171), (1, 172), (2, 4)]), (some (.agg [.nilp, .nilp, .bool false])), true⟩
theorem ok174 : tiOf Tryz.prog 174 = some ty174 := by kernel_rfl
def ty175 : TI := ⟨1, 8, false, (.ptr 34), (some (.nilp)), true⟩
theorem ok175 : tiOf Tryz.prog 175 = some ty175 := by kernel_rfl
def ty176 : TI := ⟨4, 32, true, (.struct [(0, 174), (3, 175)]), (some (.agg [.nilp, .nilp, .bool false, .nilp])), true⟩
theorem ok176 : tiOf Tryz.prog 176 = some ty176 := by kernel_rfl
def ty177 : TI := ⟨4, 32, true, (.struct [(0, 174), (3, 175)]), (some (.agg [.nilp, .nilp, .bool false, .nilp])), true⟩
theorem ok177 : tiOf Tryz.prog 177 = some ty177 := by kernel_rfl
def ty178 : TI := ⟨1, 8, false, .func, (some (.nilfn)), true⟩
theorem ok178 : tiOf Tryz.prog 178 = some ty178 := by kernel_rfl
def ty179 : TI := ⟨1, 8, false, .func, (some (.nilfn)), true⟩
theorem ok179 : tiOf Tryz.prog 179 = some ty179 := by kernel_rfl
def ty180 : TI := ⟨1, 8, false, .func, (some (.nilfn)), true⟩
theorem ok180 : tiOf Tryz.prog 180 = some ty180 := by kernel_rfl
def ty181 : TI := ⟨10, 96, true, (.struct [(0, 28), (1, 9), (2, 9), (3, 3), (4, 3), (5, 29), (6, 30), (7, 2), (8, 3), (9, 3)]), (some (.agg [.int .i64 0, .str [], .str [], .int .i64 0, .int .i64 0, .int .u64 0, .int .i64 0, .int .i64 0, .int .i64 0, .int .i64 0])), true⟩
theorem ok181 : tiOf Tryz.prog 181 = some ty181 := by kernel_rfl
def ty182 : TI := ⟨10, 96, true, (.struct [(0, 28), (1, 9), (2, 9), (3, 3), (4, 3), (5, 29), (6, 30), (7, 2), (8, 3), (9, 3)]), (some (.agg [.int .i64 0, .str [], .str [], .int .i64 0, .int .i64 0, .int .u64 0, .int .i64 0, .int .i64 0, .int .i64 0, .int .i64 0])), true⟩
theorem ok182 : tiOf Tryz.prog 182 = some ty182 := by kernel_rfl
def ty183 : TI := ⟨1, 8, false, .func, (some (.nilfn)), true⟩
theorem ok183 : tiOf Tryz.prog 183 = some ty183 := by kernel_rfl
def ty184 : TI := ⟨1, 8, false, .func, (some (.nilfn)), true⟩
theorem ok184 : tiOf Tryz.prog 184 = some ty184 := by kernel_rfl
def ty185 : TI := ⟨1, 8, false, .func, (some (.nilfn)), true⟩
theorem ok185 : tiOf Tryz.prog 185 = some ty185 := by kernel_rfl
def ty186 : TI := ⟨1, 8, false, (.ptr 189), (some (.nilp)), true⟩
theorem ok186 : tiOf Tryz.prog 186 = some ty186 := by kernel_rfl
def ty187 : TI := ⟨1, 8, false, (.ptr 50), (some (.nilp)), true⟩
theorem ok187 : tiOf Tryz.prog 187 = some ty187 := by kernel_rfl
def ty188 : TI := ⟨4, 32, true, (.struct [(0, 174), (3, 187)]), (some (.agg [.nilp, .nilp, .bool false, .nilp])), true⟩
theorem ok188 : tiOf Tryz.prog 188 = some ty188 := by kernel_rfl
def ty189 : TI := ⟨4, 32, true, (.struct [(0, 174), (3, 187)]), (some (.agg [.nilp, .nilp, .bool false, .nilp])), true⟩
theorem ok189 : tiOf Tryz.prog 189 = some ty189 := by kernel_rfl
def ty190 : TI := ⟨1, 8, false, .func, (some (.nilfn)), true⟩
theorem ok190 : tiOf Tryz.prog 190 = some ty190 := by kernel_rfl
def ty191 : TI := ⟨1, 0, false, .other, (some (.any)), true⟩
theorem ok191 : tiOf Tryz.prog 191 = some ty191 := by kernel_rfl
def ty192 : TI := ⟨1, 8, false, .func, (some (.nilfn)), true⟩
theorem ok192 : tiOf Tryz.prog 192 = some ty192 := by kernel_rfl
def ty193 : TI := ⟨1, 0, false, .other, (some (.any)), true⟩
theorem ok193 : tiOf Tryz.prog 193 = some ty193 := by kernel_rfl
def ty194 : TI := ⟨1, 8, false, .func, (some (.nilfn)), true⟩
theorem ok194 : tiOf Tryz.prog 194 = some ty194 := by kernel_rfl
def ty195 : TI := ⟨1, 8, false, .func, (some (.nilfn)), true⟩
theorem ok195 : tiOf Tryz.prog 195 = some ty195 := by kernel_rfl
def ty196 : TI := ⟨1, 0, false, .other, (some (.any)), true⟩
theorem ok196 : tiOf Tryz.prog 196 = some ty196 := by kernel_rfl
def ty197 : TI := ⟨1, 8, false, .func, (some (.nilfn)), true⟩
theorem ok197 : tiOf Tryz.prog 197 = some ty197 := by kernel_rfl
def ty198 : TI := ⟨1, 8, false, .func, (some (.nilfn)), true⟩
theorem ok198 : tiOf Tryz.prog 198 = some ty198 := by kernel_rfl
def ty199 : TI := ⟨1, 8, false, .func, (some (.nilfn)), true⟩
theorem ok199 : tiOf Tryz.prog 199 = some ty199 := by kernel_rfl
def ty200 : TI := ⟨1, 8, false, .func, (some (.nilfn)), true⟩
theorem ok200 : tiOf Tryz.prog 200 = some ty200 := by kernel_rfl
def ty201 : TI := ⟨1, 8, false, .func, (some (.nilfn)), true⟩
theorem ok201 : tiOf Tryz.prog 201 = some ty201 := by kernel_rfl
def ty202 : TI := ⟨1, 8, false, .func, (some (.nilfn)), true⟩
theorem ok202 : tiOf Tryz.prog 202 = some ty202 := by kernel_rfl
def ty203 : TI := ⟨1, 8, false, .func, (some (.nilfn)), true⟩
theorem ok203 : tiOf Tryz.prog 203 = some ty203 := by kernel_rfl
def ty204 : TI := ⟨1, 8, false, .func, (some (.nilfn)), true⟩
theorem ok204 : tiOf Tryz.prog 204 = some ty204 := by kernel_rfl
def ty205 : TI := ⟨4, 32, true, (.struct [(0, 3), (1, 3), (2, 30), (3, 30)]), (some (.agg [.int .i64 0, .int .i64 0, .int .i64 0, .int .i64 0])), true⟩
theorem ok205 : tiOf Tryz.prog 205 = some ty205 := by kernel_rfl
def ty206 : TI := ⟨4, 32, true, (.struct [(0, 3), (1, 3), (2, 30), (3, 30)]), (some (.agg [.int .i64 0, .int .i64 0, .int .i64 0, .int .i64 0])), true⟩
theorem ok206 : tiOf Tryz.prog 206 = some ty206 := by kernel_rfl
def ty207 : TI := ⟨1, 8, false, .func, (some (.nilfn)), true⟩
theorem ok207 : tiOf Tryz.prog 207 = some ty207 := by kernel_rfl
def ty208 : TI := ⟨1, 8, false, .func, (some (.nilfn)), true⟩
theorem ok208 : tiOf Tryz.prog 208 = some ty208 := by kernel_rfl
def ty209 : TI := ⟨1, 8, false, .func, (some (.nilfn)), true⟩
theorem ok209 : tiOf Tryz.prog 209 = some ty209 := by kernel_rfl
def ty210 : TI := ⟨1, 8, false, .func, (some (.nilfn)), true⟩
theorem ok210 : tiOf Tryz.prog 210 = some ty210 := by kernel_rfl
def ty211 : TI := ⟨6, 48, true, (.arr 6 29), (some (.agg [.int .u64 0, .int .u64 0, .int .u64 0, .int .u64 0, .int .u64 0, .int .u64 0])), true⟩
theorem ok211 : tiOf Tryz.prog 211 = some ty211 := by kernel_rfl
def ty212 : TI := ⟨1, 8, false, .func, (some (.nilfn)), true⟩
theorem ok212 : tiOf Tryz.prog 212 = some ty212 := by kernel_rfl
def ty213 : TI := ⟨1, 8, false, .func, (some (.nilfn)), true⟩
theorem ok213 : tiOf Tryz.prog 213 = some ty213 := by kernel_rfl
def ty214 : TI := ⟨1, 0, false, .other, (some (.any)), true⟩
theorem ok214 : tiOf Tryz.prog 214 = some ty214 := by kernel_rfl
def ty215 : TI := ⟨1, 8, false, .func, (some (.nilfn)), true⟩
theorem ok215 : tiOf Tryz.prog 215 = some ty215 := by kernel_rfl
def ty216 : TI := ⟨1, 0, false, .other, (some (.any)), true⟩
theorem ok216 : tiOf Tryz.prog 216 = some ty216 := by kernel_rfl
def ty217 : TI := ⟨1, 8, false, .func, (some (.nilfn)), true⟩
theorem ok217 : tiOf Tryz.prog 217 = some ty217 := by kernel_rfl
def ty218 : TI := ⟨1, 8, false, .func, (some (.nilfn)), true⟩
theorem ok218 : tiOf Tryz.prog 218 = some ty218 := by kernel_rfl
def ty219 : TI := ⟨1, 8, false, .func, (some (.nilfn)), true⟩
theorem ok219 : tiOf Tryz.prog 219 = some ty219 := by kernel_rfl
def ty220 : TI := ⟨1, 24, false, (.slice 223), (some (.nilsl)), true⟩
theorem ok220 : tiOf Tryz.prog 220 = some ty220 := by kernel_rfl
def ty221 : TI := ⟨1, 0, false, .other, (some (.any)), true⟩
theorem ok221 : tiOf Tryz.prog 221 = some ty221 := by kernel_rfl
def ty222 : TI := ⟨1, 8, false, .func, (some (.nilfn)), true⟩
theorem ok222 : tiOf Tryz.prog 222 = some ty222 := by kernel_rfl
def ty223 : TI := ⟨1, 8, false, .func, (some (.nilfn)), true⟩
theorem ok223 : tiOf Tryz.prog 223 = some ty223 := by kernel_rfl
def ty224 : TI := ⟨1, 0, false, .other, (some (.any)), true⟩
theorem ok224 : tiOf Tryz.prog 224 = some ty224 := by kernel_rfl
def ty225 : TI := ⟨1, 8, false, .func, (some (.nilfn)), true⟩
theorem ok225 : tiOf Tryz.prog 225 = some ty225 := by kernel_rfl
def ty226 : TI := ⟨1, 8, false, .func, (some (.nilfn)), true⟩
theorem ok226 : tiOf Tryz.prog 226 = some ty226 := by kernel_rfl
def ty227 : TI := ⟨1, 0, false, .other, (some (.any)), true⟩
theorem ok227 : tiOf Tryz.prog 227 = some ty227 := by kernel_rfl
def ty228 : TI := ⟨1, 8, false, .func, (some (.nilfn)), true⟩
theorem ok228 : tiOf Tryz.prog 228 = some ty228 := by kernel_rfl
def ty229 : TI := ⟨1, 8, false, .func, (some (.nilfn)), true⟩
theorem ok229 : tiOf Tryz.prog 229 = some ty229 := by kernel_rfl
def ty230 : TI := ⟨1, 8, false, .func, (some (.nilfn)), true⟩
theorem ok230 : tiOf Tryz.prog 230 = some ty230 := by kernel_rfl
def ty231 : TI := ⟨1, 8, false, .func, (some (.nilfn)), true⟩
theorem ok231 : tiOf Tryz.prog 231 = some ty231 := by kernel_rfl
def ty232 : TI := ⟨1, 8, false, .func, (some (.nilfn)), true⟩
theorem ok232 : tiOf Tryz.prog 232 = some ty232 := by kernel_rfl
def ty233 : TI := ⟨1, 8, false, .func, (some (.nilfn)), true⟩
theorem ok233 : tiOf Tryz.prog 233 = some ty233 := by kernel_rfl
def ty234 : TI := ⟨1, 0, false, .other, (some (.any)), true⟩
theorem ok234 : tiOf Tryz.prog 234 = some ty234 := by kernel_rfl
def ty235 : TI := ⟨1, 8, false, .func, (some (.nilfn)), true⟩
theorem ok235 : tiOf Tryz.prog 235 = some ty235 := by kernel_rfl
def ty236 : TI := ⟨7, 56, true, (.struct [(0, 3), (1, 2), (2, 2), (3, 2), (4, 2), (5, 2), (6, 2)]), (some (.agg [.int .i64 0, .int .i64 0, .int .i64 0, .int .i64 0, .int .i64 0, .int .i64 0, .int .i64 0])), true⟩
theorem ok236 : tiOf Tryz.prog 236 = some ty236 := by kernel_rfl
def ty237 : TI := ⟨7, 56, true, (.struct [(0, 3), (1, 2), (2, 2), (3, 2), (4, 2), (5, 2), (6, 2)]), (some (.agg [.int .i64 0, .int .i64 0, .int .i64 0, .int .i64 0, .int .i64 0, .int .i64 0, .int .i64 0])), true⟩
theorem ok237 : tiOf Tryz.prog 237 = some ty237 := by kernel_rfl
def ty238 : TI := ⟨10, 96, true, (.struct [(0, 3), (1, 3), (2, 36), (3, 237)]), (some (.agg [.int .i64 0, .int .i64 0, .nilsl, .int .i64 0, .int .i64 0, .int .i64 0, .int .i64 0, .int .i64 0, .int .i64 0, .int .i64 0])), true⟩
theorem ok238 : tiOf Tryz.prog 238 = some ty238 := by kernel_rfl
def ty239 : TI := ⟨10, 96, true, (.struct [(0, 3), (1, 3), (2, 36), (3, 237)]), (some (.agg [.int .i64 0, .int .i64 0, .nilsl, .int .i64 0, .int .i64 0, .int .i64 0, .int .i64 0, .int .i64 0, .int .i64 0, .int .i64 0])), true⟩
theorem ok239 : tiOf Tryz.prog 239 = some ty239 := by kernel_rfl
def ty240 : TI := ⟨1, 0, false, .other, (some (.any)), true⟩
theorem ok240 : tiOf Tryz.prog 240 = some ty240 := by kernel_rfl
def ty241 : TI := ⟨1, 8, false, .func, (some (.nilfn)), true⟩
theorem ok241 : tiOf Tryz.prog 241 = some ty241 := by kernel_rfl
def ty242 : TI := ⟨1, 8, false, .func, (some (.nilfn)), true⟩
theorem ok242 : tiOf Tryz.prog 242 = some ty242 := by kernel_rfl
def ty243 : TI := ⟨1, 8, false, (.ptr 29), (some (.nilp)), true⟩
theorem ok243 : tiOf Tryz.prog 243 = some ty243 := by kernel_rfl
def ty244 : TI := ⟨1, 8, false, .func, (some (.nilfn)), true⟩
theorem ok244 : tiOf Tryz.prog 244 = some ty244 := by kernel_rfl
def ty245 : TI := ⟨1, 8, false, (.ptr 3), (some (.nilp)), true⟩
theorem ok245 : tiOf Tryz.prog 245 = some ty245 := by kernel_rfl
def ty246 : TI := ⟨1, 8, false, .func, (some (.nilfn)), true⟩
theorem ok246 : tiOf Tryz.prog 246 = some ty246 := by kernel_rfl
def ty247 : TI := ⟨1, 8, false, .func, (some (.nilfn)), true⟩
theorem ok247 : tiOf Tryz.prog 247 = some ty247 := by kernel_rfl
def ty248 : TI := ⟨1, 8, false, (.ptr 48), (some (.nilp)), true⟩
theorem ok248 : tiOf Tryz.prog 248 = some ty248 := by kernel_rfl
def ty249 : TI := ⟨1, 8, false, .func, (some (.nilfn)), true⟩
theorem ok249 : tiOf Tryz.prog 249 = some ty249 := by kernel_rfl
def ty250 : TI := ⟨1, 8, false, .func, (some (.nilfn)), true⟩
theorem ok250 : tiOf Tryz.prog 250 = some ty250 := by kernel_rfl
def ty251 : TI := ⟨1, 8, false, .func, (some (.nilfn)), true⟩
theorem ok251 : tiOf Tryz.prog 251 = some ty251 := by kernel_rfl
def ty252 : TI := ⟨1, 8, false, .func, (some (.nilfn)), true⟩
theorem ok252 : tiOf Tryz.prog 252 = some ty252 := by kernel_rfl
def ty253 : TI := ⟨1, 8, false, .func, (some (.nilfn)), true⟩
theorem ok253 : tiOf Tryz.prog 253 = some ty253 := by kernel_rfl
def ty254 : TI := ⟨1, 8, false, .func, (some (.nilfn)), true⟩
theorem ok254 : tiOf Tryz.prog 254 = some ty254 := by kernel_rfl
def ty255 : TI := ⟨1, 8, false, .func, (some (.nilfn)), true⟩
theorem ok255 : tiOf Tryz.prog 255 = some ty255 := by kernel_rfl
def ty256 : TI := ⟨1, 8, false, .func, (some (.nilfn)), true⟩
theorem ok256 : tiOf Tryz.prog 256 = some ty256 := by kernel_rfl
def ty257 : TI := ⟨1, 8, false, .func, (some (.nilfn)), true⟩
theorem ok257 : tiOf Tryz.prog 257 = some ty257 := by kernel_rfl
def ty258 : TI := ⟨1, 8, false, .func, (some (.nilfn)), true⟩
theorem ok258 : tiOf Tryz.prog 258 = some ty258 := by kernel_rfl
def ty259 : TI := ⟨1, 8, false, .func, (some (.nilfn)), true⟩
theorem ok259 : tiOf Tryz.prog 259 = some ty259 := by kernel_rfl
def ty260 : TI := ⟨1, 8, false, (.int .u64), (some (.int .u64 0)), true⟩
theorem ok260 : tiOf Tryz.prog 260 = some ty260 := by kernel_rfl
def ty261 : TI := ⟨1, 8, false, .func, (some (.nilfn)), true⟩
theorem ok261 : tiOf Tryz.prog 261 = some ty261 := by kernel_rfl
def ty262 : TI := ⟨1, 8, false, .func, (some (.nilfn)), true⟩
theorem ok262 : tiOf Tryz.prog 262 = some ty262 := by kernel_rfl
def ty263 : TI := ⟨1, 8, false, .func, (some (.nilfn)), true⟩
theorem ok263 : tiOf Tryz.prog 263 = some ty263 := by kernel_rfl
def ty264 : TI := ⟨1, 8, false, .func, (some (.nilfn)), true⟩
theorem ok264 : tiOf Tryz.prog 264 = some ty264 := by kernel_rfl
def ty265 : TI := ⟨1, 8, false, .func, (some (.nilfn)), true⟩
theorem ok265 : tiOf Tryz.prog 265 = some ty265 := by kernel_rfl
def ty266 : TI := ⟨1, 8, false, .func, (some (.nilfn)), true⟩
theorem ok266 : tiOf Tryz.prog 266 = some ty266 := by kernel_rfl
def ty267 : TI := ⟨1, 8, false, .func, (some (.nilfn)), true⟩
theorem ok267 : tiOf Tryz.prog 267 = some ty267 := by kernel_rfl
def ty268 : TI := ⟨1, 0, false, .other, (some (.any)), true⟩
theorem ok268 : tiOf Tryz.prog 268 = some ty268 := by kernel_rfl
def ty269 : TI := ⟨1, 8, false, .func, (some (.nilfn)), true⟩
theorem ok269 : tiOf Tryz.prog 269 = some ty269 := by kernel_rfl
def ty270 : TI := ⟨1, 0, false, .other, (some (.any)), true⟩
theorem ok270 : tiOf Tryz.prog 270 = some ty270 := by kernel_rfl
def ty271 : TI := ⟨1, 8, false, .func, (some (.nilfn)), true⟩
theorem ok271 : tiOf Tryz.prog 271 = some ty271 := by kernel_rfl
def ty272 : TI := ⟨1, 8, false, .func, (some (.nilfn)), true⟩
theorem ok272 : tiOf Tryz.prog 272 = some ty272 := by kernel_rfl
def ty273 : TI := ⟨1, 8, false, .func, (some (.nilfn)), true⟩
theorem ok273 : tiOf Tryz.prog 273 = some ty273 := by kernel_rfl
def ty274 : TI := ⟨1, 8, false, .func, (some (.nilfn)), true⟩
theorem ok274 : tiOf Tryz.prog 274 = some ty274 := by kernel_rfl
def ty275 : TI := ⟨1, 8, false, .func, (some (.nilfn)), true⟩
theorem ok275 : tiOf Tryz.prog 275 = some ty275 := by kernel_rfl
def ty276 : TI := ⟨1, 8, false, .func, (some (.nilfn)), true⟩
theorem ok276 : tiOf Tryz.prog 276 = some ty276 := by kernel_rfl
def ty277 : TI := ⟨1, 8, false, .func, (some (.nilfn)), true⟩
theorem ok277 : tiOf Tryz.prog 277 = some ty277 := by kernel_rfl
def ty278 : TI := ⟨1, 8, false, .func, (some (.nilfn)), true⟩
theorem ok278 : tiOf Tryz.prog 278 = some ty278 := by kernel_rfl
def ty279 : TI := ⟨1, 8, false, .func, (some (.nilfn)), true⟩
theorem ok279 : tiOf Tryz.prog 279 = some ty279 := by kernel_rfl
def ty280 : TI := ⟨1, 24, false, (.slice 30), (some (.nilsl)), true⟩
theorem ok280 : tiOf Tryz.prog 280 = some ty280 := by kernel_rfl
def ty281 : TI := ⟨1, 8, false, .func, (some (.nilfn)), true⟩
theorem ok281 : tiOf Tryz.prog 281 = some ty281 := by kernel_rfl
def ty282 : TI := ⟨1, 8, false, .func, (some (.nilfn)), true⟩
theorem ok282 : tiOf Tryz.prog 282 = some ty282 := by kernel_rfl
def ty283 : TI := ⟨1, 8, false, .func, (some (.nilfn)), true⟩
theorem ok283 : tiOf Tryz.prog 283 = some ty283 := by kernel_rfl
def ty284 : TI := ⟨1, 8, false, .func, (some (.nilfn)), true⟩
theorem ok284 : tiOf Tryz.prog 284 = some ty284 := by kernel_rfl
def ty285 : TI := ⟨1, 8, false, .func, (some (.nilfn)), true⟩
theorem ok285 : tiOf Tryz.prog 285 = some ty285 := by kernel_rfl
def ty286 : TI := ⟨1, 8, false, .func, (some (.nilfn)), true⟩
theorem ok286 : tiOf Tryz.prog 286 = some ty286 := by kernel_rfl
def ty287 : TI := ⟨1, 8, false, .func, (some (.nilfn)), true⟩
theorem ok287 : tiOf Tryz.prog 287 = some ty287 := by kernel_rfl
def ty288 : TI := ⟨1, 8, false, .func, (some (.nilfn)), true⟩
theorem ok288 : tiOf Tryz.prog 288 = some ty288 := by kernel_rfl
def ty289 : TI := ⟨1, 8, false, .func, (some (.nilfn)), true⟩
theorem ok289 : tiOf Tryz.prog 289 = some ty289 := by kernel_rfl
def ty290 : TI := ⟨1, 8, false, .func, (some (.nilfn)), true⟩
theorem ok290 : tiOf Tryz.prog 290 = some ty290 := by kernel_rfl
def ty291 : TI := ⟨1, 8, false, (.ptr 174), (some (.nilp)), true⟩
theorem ok291 : tiOf Tryz.prog 291 = some ty291 := by kernel_rfl
def ty292 : TI := ⟨1, 8, false, .func, (some (.nilfn)), true⟩
theorem ok292 : tiOf Tryz.prog 292 = some ty292 := by kernel_rfl
def ty293 : TI := ⟨1, 8, false, .func, (some (.nilfn)), true⟩
theorem ok293 : tiOf Tryz.prog 293 = some ty293 := by kernel_rfl
def ty294 : TI := ⟨1, 8, false, (.ptr 2), (some (.nilp)), true⟩
theorem ok294 : tiOf Tryz.prog 294 = some ty294 := by kernel_rfl
def ty295 : TI := ⟨1, 8, false, .func, (some (.nilfn)), true⟩
theorem ok295 : tiOf Tryz.prog 295 = some ty295 := by kernel_rfl
def ty296 : TI := ⟨1, 8, false, .func, (some (.nilfn)), true⟩
theorem ok296 : tiOf Tryz.prog 296 = some ty296 := by kernel_rfl
def ty297 : TI := ⟨1, 8, false, .func, (some (.nilfn)), true⟩
theorem ok297 : tiOf Tryz.prog 297 = some ty297 := by kernel_rfl
def ty298 : TI := ⟨1, 8, false, (.int .i64), (some (.int .i64 0)), true⟩
theorem ok298 : tiOf Tryz.prog 298 = some ty298 := by kernel_rfl
def ty299 : TI := ⟨1, 0, false, .other, (some (.any)), true⟩
theorem ok299 : tiOf Tryz.prog 299 = some ty299 := by kernel_rfl
def ty300 : TI := ⟨1, 8, false, .func, (some (.nilfn)), true⟩
theorem ok300 : tiOf Tryz.prog 300 = some ty300 := by kernel_rfl
def ty301 : TI := ⟨1, 8, false, .func, (some (.nilfn)), true⟩
theorem ok301 : tiOf Tryz.prog 301 = some ty301 := by kernel_rfl
def ty302 : TI := ⟨1, 8, false, .func, (some (.nilfn)), true⟩
theorem ok302 : tiOf Tryz.prog 302 = some ty302 := by kernel_rfl
def ty303 : TI := ⟨1, 0, false, .other, (some (.any)), true⟩
theorem ok303 : tiOf Tryz.prog 303 = some ty303 := by kernel_rfl
def ty304 : TI := ⟨1, 8, false, .func, (some (.nilfn)), true⟩
theorem ok304 : tiOf Tryz.prog 304 = some ty304 := by kernel_rfl
def ty305 : TI := ⟨1, 8, false, .func, (some (.nilfn)), true⟩
theorem ok305 : tiOf Tryz.prog 305 = some ty305 := by kernel_rfl
def ty306 : TI := ⟨1, 4, false, (.int .u32), (some (.int .u32 0)), true⟩
theorem ok306 : tiOf Tryz.prog 306 = some ty306 := by kernel_rfl
def ty307 : TI := ⟨1, 8, false, .func, (some (.nilfn)), true⟩
theorem ok307 : tiOf Tryz.prog 307 = some ty307 := by kernel_rfl
def ty308 : TI := ⟨1, 8, false, .func, (some (.nilfn)), true⟩
theorem ok308 : tiOf Tryz.prog 308 = some ty308 := by kernel_rfl
def ty309 : TI := ⟨1, 8, false, .func, (some (.nilfn)), true⟩
theorem ok309 : tiOf Tryz.prog 309 = some ty309 := by kernel_rfl
def ty310 : TI := ⟨1, 8, false, .func, (some (.nilfn)), true⟩
theorem ok310 : tiOf Tryz.prog 310 = some ty310 := by kernel_rfl
def ty311 : TI := ⟨1, 8, false, .func, (some (.nilfn)), true⟩
theorem ok311 : tiOf Tryz.prog 311 = some ty311 := by kernel_rfl
def ty312 : TI := ⟨1, 8, false, .func, (some (.nilfn)), true⟩
theorem ok312 : tiOf Tryz.prog 312 = some ty312 := by kernel_rfl
def ty313 : TI := ⟨1, 8, false, .func, (some (.nilfn)), true⟩
theorem ok313 : tiOf Tryz.prog 313 = some ty313 := by kernel_rfl
def ty314 : TI := ⟨1, 8, false, .func, (some (.nilfn)), true⟩
theorem ok314 : tiOf Tryz.prog 314 = some ty314 := by kernel_rfl
def ty315 : TI := ⟨1, 8, false, .func, (some (.nilfn)), true⟩
theorem ok315 : tiOf Tryz.prog 315 = some ty315 := by kernel_rfl
def ty316 : TI := ⟨1, 8, false, .func, (some (.nilfn)), true⟩
theorem ok316 : tiOf Tryz.prog 316 = some ty316 := by kernel_rfl
def ty317 : TI := ⟨1, 8, false, .func, (some (.nilfn)), true⟩
theorem ok317 : tiOf Tryz.prog 317 = some ty317 := by kernel_rfl
def ty318 : TI := ⟨1, 8, false, .func, (some (.nilfn)), true⟩
theorem ok318 : tiOf Tryz.prog 318 = some ty318 := by kernel_rfl
def ty319 : TI := ⟨1, 8, false, .func, (some (.nilfn)), true⟩
theorem ok319 : tiOf Tryz.prog 319 = some ty319 := by kernel_rfl
def ty320 : TI := ⟨1, 8, false, .func, (some (.nilfn)), true⟩
theorem ok320 : tiOf Tryz.prog 320 = some ty320 := by kernel_rfl
def ty321 : TI := ⟨1, 8, false, .func, (some (.nilfn)), true⟩
theorem ok321 : tiOf Tryz.prog 321 = some ty321 := by kernel_rfl
def ty322 : TI := ⟨1, 8, false, .func, (some (.nilfn)), true⟩
theorem ok322 : tiOf Tryz.prog 322 = some ty322 := by kernel_rfl
def ty323 : TI := ⟨1, 8, false, .func, (some (.nilfn)), true⟩
theorem ok323 : tiOf Tryz.prog 323 = some ty323 := by kernel_rfl
def ty324 : TI := ⟨1, 8, false, .func, (some (.nilfn)), true⟩
theorem ok324 : tiOf Tryz.prog 324 = some ty324 := by kernel_rfl
def ty325 : TI := ⟨1, 8, false, .func, (some (.nilfn)), true⟩
theorem ok325 : tiOf Tryz.prog 325 = some ty325 := by kernel_rfl
def ty326 : TI := ⟨1, 8, false, .func, (some (.nilfn)), true⟩
theorem ok326 : tiOf Tryz.prog 326 = some ty326 := by kernel_rfl
def ty327 : TI := ⟨1, 8, false, (.ptr 9), (some (.nilp)), true⟩
theorem ok327 : tiOf Tryz.prog 327 = some ty327 := by kernel_rfl
def ty328 : TI := ⟨1, 8, false, .func, (some (.nilfn)), true⟩
theorem ok328 : tiOf Tryz.prog 328 = some ty328 := by kernel_rfl
def ty329 : TI := ⟨1, 8, false, .func, (some (.nilfn)), true⟩
theorem ok329 : tiOf Tryz.prog 329 = some ty329 := by kernel_rfl
def ty330 : TI := ⟨1, 8, false, (.ptr 103), (some (.nilp)), true⟩
theorem ok330 : tiOf Tryz.prog 330 = some ty330 := by kernel_rfl
def ty331 : TI := ⟨1, 8, false, .func, (some (.nilfn)), true⟩
theorem ok331 : tiOf Tryz.prog 331 = some ty331 := by kernel_rfl
def ty332 : TI := ⟨1, 8, false, (.ptr 30), (some (.nilp)), true⟩
theorem ok332 : tiOf Tryz.prog 332 = some ty332 := by kernel_rfl
def ty333 : TI := ⟨1, 8, false, .func, (some (.nilfn)), true⟩
theorem ok333 : tiOf Tryz.prog 333 = some ty333 := by kernel_rfl
def ty334 : TI := ⟨1, 0, false, .other, (some (.any)), true⟩
theorem ok334 : tiOf Tryz.prog 334 = some ty334 := by kernel_rfl
def ty335 : TI := ⟨1, 8, false, .func, (some (.nilfn)), true⟩
theorem ok335 : tiOf Tryz.prog 335 = some ty335 := by kernel_rfl
def ty336 : TI := ⟨1, 8, false, .func, (some (.nilfn)), true⟩
theorem ok336 : tiOf Tryz.prog 336 = some ty336 := by kernel_rfl
def ty337 : TI := ⟨1, 24, false, (.slice 2), (some (.nilsl)), true⟩
theorem ok337 : tiOf Tryz.prog 337 = some ty337 := by kernel_rfl
def ty338 : TI := ⟨1, 8, false, .func, (some (.nilfn)), true⟩
theorem ok338 : tiOf Tryz.prog 338 = some ty338 := by kernel_rfl
def ty339 : TI := ⟨1, 8, false, .func, (some (.nilfn)), true⟩
theorem ok339 : tiOf Tryz.prog 339 = some ty339 := by kernel_rfl
def ty340 : TI := ⟨1, 8, false, .func, (some (.nilfn)), true⟩
theorem ok340 : tiOf Tryz.prog 340 = some ty340 := by kernel_rfl
def ty341 : TI := ⟨1, 8, false, .func, (some (.nilfn)), true⟩
theorem ok341 : tiOf Tryz.prog 341 = some ty341 := by kernel_rfl
def ty342 : TI := ⟨1, 8, false, .func, (some (.nilfn)), true⟩
theorem ok342 : tiOf Tryz.prog 342 = some ty342 := by kernel_rfl
def ty343 : TI := ⟨1, 8, false, .func, (some (.nilfn)), true⟩
theorem ok343 : tiOf Tryz.prog 343 = some ty343 := by kernel_rfl
def ty344 : TI := ⟨1, 0, false, .other, (some (.any)), true⟩
theorem ok344 : tiOf Tryz.prog 344 = some ty344 := by kernel_rfl
def ty345 : TI := ⟨1, 8, false, .func, (some (.nilfn)), true⟩
theorem ok345 : tiOf Tryz.prog 345 = some ty345 := by kernel_rfl
def ty346 : TI := ⟨8, 8, true, (.arr 8 5), (some (.agg [.int .u8 0, .int .u8 0, .int .u8 0, .int .u8 0, .int .u8 0, .int .u8 0, .int .u8 0, .int .u8 0])), true⟩
theorem ok346 : tiOf Tryz.prog 346 = some ty346 := by kernel_rfl
def ty347 : TI := ⟨1, 8, false, .func, (some (.nilfn)), true⟩
theorem ok347 : tiOf Tryz.prog 347 = some ty347 := by kernel_rfl
def ty348 : TI := ⟨1, 8, false, .func, (some (.nilfn)), true⟩
theorem ok348 : tiOf Tryz.prog 348 = some ty348 := by kernel_rfl
def ty349 : TI := ⟨1, 8, false, .func, (some (.nilfn)), true⟩
theorem ok349 : tiOf Tryz.prog 349 = some ty349 := by kernel_rfl
def ty350 : TI := ⟨1, 8, false, .func, (some (.nilfn)), true⟩
theorem ok350 : tiOf Tryz.prog 350 = some ty350 := by kernel_rfl
def ty351 : TI := ⟨1, 8, false, .func, (some (.nilfn)), true⟩
theorem ok351 : tiOf Tryz.prog 351 = some ty351 := by kernel_rfl
def ty352 : TI := ⟨1, 0, false, .other, (some (.any)), true⟩
theorem ok352 : tiOf Tryz.prog 352 = some ty352 := by kernel_rfl
def ty353 : TI := ⟨1, 8, false, .func, (some (.nilfn)), true⟩
theorem ok353 : tiOf Tryz.prog 353 = some ty353 := by kernel_rfl
def ty354 : TI := ⟨1, 8, false, .func, (some (.nilfn)), true⟩
theorem ok354 : tiOf Tryz.prog 354 = some ty354 := by kernel_rfl
def ty355 : TI := ⟨1, 8, false, (.int .u64), (some (.int .u64 0)), true⟩
theorem ok355 : tiOf Tryz.prog 355 = some ty355 := by kernel_rfl
def ty356 : TI := ⟨1, 8, false, .func, (some (.nilfn)), true⟩
theorem ok356 : tiOf Tryz.prog 356 = some ty356 := by kernel_rfl
def ty357 : TI := ⟨1, 8, false, .func, (some (.nilfn)), true⟩
theorem ok357 : tiOf Tryz.prog 357 = some ty357 := by kernel_rfl
def ty358 : TI := ⟨1, 8, false, .func, (some (.nilfn)), true⟩
theorem ok358 : tiOf Tryz.prog 358 = some ty358 := by kernel_rfl
def ty359 : TI := ⟨1, 8, false, .func, (some (.nilfn)), true⟩
theorem ok359 : tiOf Tryz.prog 359 = some ty359 := by kernel_rfl
def ty360 : TI := ⟨1, 8, false, .func, (some (.nilfn)), true⟩
theorem ok360 : tiOf Tryz.prog 360 = some ty360 := by kernel_rfl
def ty361 : TI := ⟨1, 8, false, .func, (some (.nilfn)), true⟩
theorem ok361 : tiOf Tryz.prog 361 = some ty361 := by kernel_rfl
def ty362 : TI := ⟨1, 8, false, .func, (some (.nilfn)), true⟩
theorem ok362 : tiOf Tryz.prog 362 = some ty362 := by kernel_rfl
def ty363 : TI := ⟨1, 8, false, .func, (some (.nilfn)), true⟩
theorem ok363 : tiOf Tryz.prog 363 = some ty363 := by kernel_rfl
def ty364 : TI := ⟨1, 8, false, .func, (some (.nilfn)), true⟩
theorem ok364 : tiOf Tryz.prog 364 = some ty364 := by kernel_rfl
def ty365 : TI := ⟨1, 8, false, .func, (some (.nilfn)), true⟩
theorem ok365 : tiOf Tryz.prog 365 = some ty365 := by kernel_rfl
def ty366 : TI := ⟨1, 8, false, .func, (some (.nilfn)), true⟩
theorem ok366 : tiOf Tryz.prog 366 = some ty366 := by kernel_rfl
def ty367 : TI := ⟨1, 8, false, .func, (some (.nilfn)), true⟩
theorem ok367 : tiOf Tryz.prog 367 = some ty367 := by kernel_rfl
def ty368 : TI := ⟨6, 48, true, (.arr 6 2), (some (.agg [.int .i64 0, .int .i64 0, .int .i64 0, .int .i64 0, .int .i64 0, .int .i64 0])), true⟩
theorem ok368 : tiOf Tryz.prog 368 = some ty368 := by kernel_rfl
def ty369 : TI := ⟨6, 48, true, (.arr 6 2), (some (.agg [.int .i64 0, .int .i64 0, .int .i64 0, .int .i64 0, .int .i64 0, .int .i64 0])), true⟩
theorem ok369 : tiOf Tryz.prog 369 = some ty369 := by kernel_rfl
def ty370 : TI := ⟨1, 8, false, .func, (some (.nilfn)), true⟩
theorem ok370 : tiOf Tryz.prog 370 = some ty370 := by kernel_rfl
def ty371 : TI := ⟨1, 0, false, .other, (some (.any)), true⟩
theorem ok371 : tiOf Tryz.prog 371 = some ty371 := by kernel_rfl
def ty372 : TI := ⟨1, 8, false, .func, (some (.nilfn)), true⟩
theorem ok372 : tiOf Tryz.prog 372 = some ty372 := by kernel_rfl
def ty373 : TI := ⟨1, 8, false, .func, (some (.nilfn)), true⟩
theorem ok373 : tiOf Tryz.prog 373 = some ty373 := by kernel_rfl
def ty374 : TI := ⟨1, 8, false, .func, (some (.nilfn)), true⟩
theorem ok374 : tiOf Tryz.prog 374 = some ty374 := by kernel_rfl
def ty375 : TI := ⟨1, 24, false, (.slice 107), (some (.nilsl)), true⟩
theorem ok375 : tiOf Tryz.prog 375 = some ty375 := by kernel_rfl
def ty376 : TI := ⟨3, 40, true, (.struct [(0, 375), (1, 3), (2, 4)]), (some (.agg [.nilsl, .int .i64 0, .bool false])), true⟩
theorem ok376 : tiOf Tryz.prog 376 = some ty376 := by kernel_rfl
def ty377 : TI := ⟨3, 40, true, (.struct [(0, 375), (1, 3), (2, 4)]), (some (.agg [.nilsl, .int .i64 0, .bool false])), true⟩
theorem ok377 : tiOf Tryz.prog 377 = some ty377 := by kernel_rfl
def ty378 : TI := ⟨1, 8, false, .func, (some (.nilfn)), true⟩
theorem ok378 : tiOf Tryz.prog 378 = some ty378 := by kernel_rfl
def ty379 : TI := ⟨3, 40, true, (.struct [(0, 107), (1, 3), (2, 4)]), (some (.agg [.nilsl, .int .i64 0, .bool false])), true⟩
theorem ok379 : tiOf Tryz.prog 379 = some ty379 := by kernel_rfl
def ty380 : TI := ⟨3, 40, true, (.struct [(0, 107), (1, 3), (2, 4)]), (some (.agg [.nilsl, .int .i64 0, .bool false])), true⟩
theorem ok380 : tiOf Tryz.prog 380 = some ty380 := by kernel_rfl
def ty381 : TI := ⟨1, 8, false, .func, (some (.nilfn)), true⟩
theorem ok381 : tiOf Tryz.prog 381 = some ty381 := by kernel_rfl
def ty382 : TI := ⟨1, 8, false, .func, (some (.nilfn)), true⟩
theorem ok382 : tiOf Tryz.prog 382 = some ty382 := by kernel_rfl
def ty383 : TI := ⟨1, 8, false, (.ptr 355), (some (.nilp)), true⟩
theorem ok383 : tiOf Tryz.prog 383 = some ty383 := by kernel_rfl
def ty384 : TI := ⟨1, 8, false, .func, (some (.nilfn)), true⟩
theorem ok384 : tiOf Tryz.prog 384 = some ty384 := by kernel_rfl
def ty385 : TI := ⟨1, 8, false, .func, (some (.nilfn)), true⟩
theorem ok385 : tiOf Tryz.prog 385 = some ty385 := by kernel_rfl
def ty386 : TI := ⟨1, 8, false, .func, (some (.nilfn)), true⟩
theorem ok386 : tiOf Tryz.prog 386 = some ty386 := by kernel_rfl
def ty387 : TI := ⟨1, 8, false, .func, (some (.nilfn)), true⟩
theorem ok387 : tiOf Tryz.prog 387 = some ty387 := by kernel_rfl
def ty388 : TI := ⟨1, 8, false, .func, (some (.nilfn)), true⟩
theorem ok388 : tiOf Tryz.prog 388 = some ty388 := by kernel_rfl
def ty389 : TI := ⟨1, 8, false, .func, (some (.nilfn)), true⟩
theorem ok389 : tiOf Tryz.prog 389 = some ty389 := by kernel_rfl
def ty390 : TI := ⟨1, 8, false, .func, (some (.nilfn)), true⟩
theorem ok390 : tiOf Tryz.prog 390 = some ty390 := by kernel_rfl
def ty391 : TI := ⟨1, 8, false, .func, (some (.nilfn)), true⟩
theorem ok391 : tiOf Tryz.prog 391 = some ty391 := by kernel_rfl
def ty392 : TI := ⟨4, 40, true, (.struct [(0, 17), (1, 17), (2, 17), (3, 9)]), (some (.agg [.nilp, .nilp, .nilp, .str []])), false⟩
theorem ok392 : tiOf Tryz.prog 392 = some ty392 := by kernel_rfl
def ty393 : TI := ⟨4, 40, true, (.struct [(0, 17), (1, 17), (2, 17), (3, 9)]), (some (.agg [.nilp, .nilp, .nilp, .str []])), false⟩
theorem ok393 : tiOf Tryz.prog 393 = some ty393 := by kernel_rfl
def ty394 : TI := ⟨0, 0, true, (.arr 0 16), (some (.agg [])), true⟩
theorem ok394 : tiOf Tryz.prog 394 = some ty394 := by kernel_rfl
def ty395 : TI := ⟨0, 0, true, .other, (some (.agg [])), false⟩
theorem ok395 : tiOf Tryz.prog 395 = some ty395 := by kernel_rfl
def ty396 : TI := ⟨0, 0, true, .other, (some (.agg [])), false⟩
theorem ok396 : tiOf Tryz.prog 396 = some ty396 := by kernel_rfl
def ty397 : TI := ⟨1, 1, false, (.int .u8), (some (.int .u8 0)), true⟩
theorem ok397 : tiOf Tryz.prog 397 = some ty397 := by kernel_rfl
def ty398 : TI := ⟨1, 1, false, (.int .u8), (some (.int .u8 0)), true⟩
theorem ok398 : tiOf Tryz.prog 398 = some ty398 := by kernel_rfl
def ty399 : TI := ⟨1, 8, false, .func, (some (.nilfn)), true⟩
theorem ok399 : tiOf Tryz.prog 399 = some ty399 := by kernel_rfl
def ty400 : TI := ⟨1, 8, false, (.ptr 5), (some (.nilp)), true⟩
theorem ok400 : tiOf Tryz.prog 400 = some ty400 := by kernel_rfl
def ty401 : TI := ⟨1, 4, false, (.int .i32), (some (.int .i32 0)), true⟩
theorem ok401 : tiOf Tryz.prog 401 = some ty401 := by kernel_rfl
def ty402 : TI := ⟨1, 4, false, (.int .i32), (some (.int .i32 0)), true⟩
theorem ok402 : tiOf Tryz.prog 402 = some ty402 := by kernel_rfl
def ty403 : TI := ⟨11, 48, true, (.struct [(0, 12), (1, 12), (2, 306), (3, 397), (4, 5), (5, 5), (6, 398), (7, 399), (8, 400), (9, 401), (10, 402)]), (some (.agg [.int .u64 0, .int .u64 0, .int .u32 0, .int .u8 0, .int .u8 0, .int .u8 0, .int .u8 0, .nilfn, .nilp, .int .i32 0, .int .i32 0])), false⟩
theorem ok403 : tiOf Tryz.prog 403 = some ty403 := by kernel_rfl
def ty404 : TI := ⟨11, 48, true, (.struct [(0, 12), (1, 12), (2, 306), (3, 397), (4, 5), (5, 5), (6, 398), (7, 399), (8, 400), (9, 401), (10, 402)]), (some (.agg [.int .u64 0, .int .u64 0, .int .u32 0, .int .u8 0, .int .u8 0, .int .u8 0, .int .u8 0, .nilfn, .nilp, .int .i32 0, .int .i32 0])), false⟩
theorem ok404 : tiOf Tryz.prog 404 = some ty404 := by kernel_rfl
def ty405 : TI := ⟨1, 8, false, .other, (some (.nilp)), true⟩
theorem ok405 : tiOf Tryz.prog 405 = some ty405 := by kernel_rfl
def tree : TT := (.node 203 (.node 101 (.node 50 (.node 25 (.node 12 (.node 6 (.node 3 (.node 1 (.leaf 0 (some ty0)) (.node 2 (.leaf 1 (some ty1)) (.leaf 2 (some ty2)))) (.node 4 (.leaf 3 (some ty3)) (.node 5 (.leaf 4 (some ty4)) (.leaf 5 (some ty5))))) (.node 9 (.node 7 (.leaf 6 (some ty6)) (.node 8 (.leaf 7 (some ty7)) (.leaf 8 (some ty8)))) (.node 10 (.leaf 9 (some ty9)) (.node 11 (.leaf 10 (some ty10)) (.leaf 11 (some ty11)))))) (.node 18 (.node 15 (.node 13 (.leaf 12 (some ty12)) (.node 14 (.leaf 13 (some ty13)) (.leaf 14 (some ty14)))) (.node 16 (.leaf 15 (some ty15)) (.node 17 (.leaf 16 (some ty16)) (.leaf 17 (some ty17))))) (.node 21 (.node 19 (.leaf 18 (some ty18)) (.node 20 (.leaf 19 (some ty19)) (.leaf 20 (some ty20)))) (.node 23 (.node 22 (.leaf 21 (some ty21)) (.leaf 22 (some ty22))) (.node 24 (.leaf 23 (some ty23)) (.leaf 24 (some ty24))))))) (.node 37 (.node 31 (.node 28 (.node 26 (.leaf 25 (some ty25)) (.node 27 (.leaf 26 (some ty26)) (.leaf 27 (some ty27)))) (.node 29 (.leaf 28 (some ty28)) (.node 30 (.leaf 29 (some ty29)) (.leaf 30 (some ty30))))) (.node 34 (.node 32 (.leaf 31 (some ty31)) (.node 33 (.leaf 32 (some ty32)) (.leaf 33 (some ty33)))) (.node 35 (.leaf 34 (some ty34)) (.node 36 (.leaf 35 (some ty35)) (.leaf 36 (some ty36)))))) (.node 43 (.node 40 (.node 38 (.leaf 37 (some ty37)) (.node 39 (.leaf 38 (some ty38)) (.leaf 39 (some ty39)))) (.node 41 (.leaf 40 (some ty40)) (.node 42 (.leaf 41 (some ty41)) (.leaf 42 (some ty42))))) (.node 46 (.node 44 (.leaf 43 (some ty43)) (.node 45 (.leaf 44 (some ty44)) (.leaf 45 (some ty45)))) (.node 48 (.node 47 (.leaf 46 (some ty46)) (.leaf 47 (some ty47))) (.node 49 (.leaf 48 (some ty48)) (.leaf 49 (some ty49)))))))) (.node 75 (.node 62 (.node 56 (.node 53 (.node 51 (.leaf 50 (some ty50)) (.node 52 (.leaf 51 (some ty51)) (.leaf 52 (some ty52)))) (.node 54 (.leaf 53 (some ty53)) (.node 55 (.leaf 54 (some ty54)) (.leaf 55 (some ty55))))) (.node 59 (.node 57 (.leaf 56 (some ty56)) (.node 58 (.leaf 57 (some ty57)) (.leaf 58 (some ty58)))) (.node 60 (.leaf 59 (some ty59)) (.node 61 (.leaf 60 (some ty60)) (.leaf 61 (some ty61)))))) (.node 68 (.node 65 (.node 63 (.leaf 62 (some ty62)) (.node 64 (.leaf 63 (some ty63)) (.leaf 64 (some ty64)))) (.node 66 (.leaf 65 (some ty65)) (.node 67 (.leaf 66 (some ty66)) (.leaf 67 (some ty67))))) (.node 71 (.node 69 (.leaf 68 (some ty68)) (.node 70 (.leaf 69 (some ty69)) (.leaf 70 (some ty70)))) (.node 73 (.node 72 (.leaf 71 (some ty71)) (.leaf 72 (some ty72))) (.node 74 (.leaf 73 (some ty73)) (.leaf 74 (some ty74))))))) (.node 88 (.node 81 (.node 78 (.node 76 (.leaf 75 (some ty75)) (.node 77 (.leaf 76 (some ty76)) (.leaf 77 (some ty77)))) (.node 79 (.leaf 78 (some ty78)) (.node 80 (.leaf 79 (some ty79)) (.leaf 80 (some ty80))))) (.node 84 (.node 82 (.leaf 81 (some ty81)) (.node 83 (.leaf 82 (some ty82)) (.leaf 83 (some ty83)))) (.node 86 (.node 85 (.leaf 84 (some ty84)) (.leaf 85 (some ty85))) (.node 87 (.leaf 86 (some ty86)) (.leaf 87 (some ty87)))))) (.node 94 (.node 91 (.node 89 (.leaf 88 (some ty88)) (.node 90 (.leaf 89 (some ty89)) (.leaf 90 (some ty90)))) (.node 92 (.leaf 91 (some ty91)) (.node 93 (.leaf 92 (some ty92)) (.leaf 93 (some ty93))))) (.node 97 (.node 95 (.leaf 94 (some ty94)) (.node 96 (.leaf 95 (some ty95)) (.leaf 96 (some ty96)))) (.node 99 (.node 98 (.leaf 97 (some ty97)) (.leaf 98 (some ty98))) (.node 100 (.leaf 99 (some ty99)) (.leaf 100 (some ty100))))))))) (.node 152 (.node 126 (.node 113 (.node 107 (.node 104 (.node 102 (.leaf 101 (some ty101)) (.node 103 (.leaf 102 (some ty102)) (.leaf 103 (some ty103)))) (.node 105 (.leaf 104 (some ty104)) (.node 106 (.leaf 105 (some ty105)) (.leaf 106 (some ty106))))) (.node 110 (.node 108 (.leaf 107 (some ty107)) (.node 109 (.leaf 108 (some ty108)) (.leaf 109 (some ty109)))) (.node 111 (.leaf 110 (some ty110)) (.node 112 (.leaf 111 (some ty111)) (.leaf 112 (some ty112)))))) (.node 119 (.node 116 (.node 114 (.leaf 113 (some ty113)) (.node 115 (.leaf 114 (some ty114)) (.leaf 115 (some ty115)))) (.node 117 (.leaf 116 (some ty116)) (.node 118 (.leaf 117 (some ty117)) (.leaf 118 (some ty118))))) (.node 122 (.node 120 (.leaf 119 (some ty119)) (.node 121 (.leaf 120 (some ty120)) (.leaf 121 (some ty121)))) (.node 124 (.node 123 (.leaf 122 (some ty122)) (.leaf 123 (some ty123))) (.node 125 (.leaf 124 (some ty124)) (.leaf 125 (some ty125))))))) (.node 139 (.node 132 (.node 129 (.node 127 (.leaf 126 (some ty126)) (.node 128 (.leaf 127 (some ty127)) (.leaf 128 (some ty128)))) (.node 130 (.leaf 129 (some ty129)) (.node 131 (.leaf 130 (some ty130)) (.leaf 131 (some ty131))))) (.node 135 (.node 133 (.leaf 132 (some ty132)) (.node 134 (.leaf 133 (some ty133)) (.leaf 134 (some ty134)))) (.node 137 (.node 136 (.leaf 135 (some ty135)) (.leaf 136 (some ty136))) (.node 138 (.leaf 137 (some ty137)) (.leaf 138 (some ty138)))))) (.node 145 (.node 142 (.node 140 (.leaf 139 (some ty139)) (.node 141 (.leaf 140 (some ty140)) (.leaf 141 (some ty141)))) (.node 143 (.leaf 142 (some ty142)) (.node 144 (.leaf 143 (some ty143)) (.leaf 144 (some ty144))))) (.node 148 (.node 146 (.leaf 145 (some ty145)) (.node 147 (.leaf 146 (some ty146)) (.leaf 147 (some ty147)))) (.node 150 (.node 149 (.leaf 148 (some ty148)) (.leaf 149 (some ty149))) (.node 151 (.leaf 150 (some ty150)) (.leaf 151 (some ty151)))))))) (.node 177 (.node 164 (.node 158 (.node 155 (.node 153 (.leaf 152 (some ty152)) (.node 154 (.leaf 153 (some ty153)) (.leaf 154 (some ty154)))) (.node 156 (.leaf 155 (some ty155)) (.node 157 (.leaf 156 (some ty156)) (.leaf 157 (some ty157))))) (.node 161 (.node 159 (.leaf 158 (some ty158)) (.node 160 (.leaf 159 (some ty159)) (.leaf 160 (some ty160)))) (.node 162 (.leaf 161 (some ty161)) (.node 163 (.leaf 162 (some ty162)) (.leaf 163 (some ty163)))))) (.node 170 (.node 167 (.node 165 (.leaf 164 (some ty164)) (.node 166 (.leaf 165 (some ty165)) (.leaf 166 (some ty166)))) (.node 168 (.leaf 167 (some ty167)) (.node 169 (.leaf 168 (some ty168)) (.leaf 169 (some ty169))))) (.node 173 (.node 171 (.leaf 170 (some ty170)) (.node 172 (.leaf 171 (some ty171)) (.leaf 172 (some ty172)))) (.node 175 (.node 174 (.leaf 173 (some ty173)) (.leaf 174 (some ty174))) (.node 176 (.leaf 175 (some ty175)) (.leaf 176 (some ty176))))))) (.node 190 (.node 183 (.node 180 (.node 178 (.leaf 177 (some ty177)) (.node 179 (.leaf 178 (some ty178)) (.leaf 179 (some ty179)))) (.node 181 (.leaf 180 (some ty180)) (.node 182 (.leaf 181 (some ty181)) (.leaf 182 (some ty182))))) (.node 186 (.node 184 (.leaf 183 (some ty183)) (.node 185 (.leaf 184 (some ty184)) (.leaf 185 (some ty185)))) (.node 188 (.node 187 (.leaf 186 (some ty186)) (.leaf 187 (some ty187))) (.node 189 (.leaf 188 (some ty188)) (.leaf 189 (some ty189)))))) (.node 196 (.node 193 (.node 191 (.leaf 190 (some ty190)) (.node 192 (.leaf 191 (some ty191)) (.leaf 192 (some ty192)))) (.node 194 (.leaf 193 (some ty193)) (.node 195 (.leaf 194 (some ty194)) (.leaf 195 (some ty195))))) (.node 199 (.node 197 (.leaf 196 (some ty196)) (.node 198 (.leaf 197 (some ty197)) (.leaf 198 (some ty198)))) (.node 201 (.node 200 (.leaf 199 (some ty199)) (.leaf 200 (some ty200))) (.node 202 (.leaf 201 (some ty201)) (.leaf 202 (some ty202)))))))))) (.node 304 (.node 253 (.node 228 (.node 215 (.node 209 (.node 206 (.node 204 (.leaf 203 (some ty203)) (.node 205 (.leaf 204 (some ty204)) (.leaf 205 (some ty205)))) (.node 207 (.leaf 206 (some ty206)) (.node 208 (.leaf 207 (some ty207)) (.leaf 208 (some ty208))))) (.node 212 (.node 210 (.leaf 209 (some ty209)) (.node 211 (.leaf 210 (some ty210)) (.leaf 211 (some ty211)))) (.node 213 (.leaf 212 (some ty212)) (.node 214 (.leaf 213 (some ty213)) (.leaf 214 (some ty214)))))) (.node 221 (.node 218 (.node 216 (.leaf 215 (some ty215)) (.node 217 (.leaf 216 (some ty216)) (.leaf 217 (some ty217)))) (.node 219 (.leaf 218 (some ty218)) (.node 220 (.leaf 219 (some ty219)) (.leaf 220 (some ty220))))) (.node 224 (.node 222 (.leaf 221 (some ty221)) (.node 223 (.leaf 222 (some ty222)) (.leaf 223 (some ty223)))) (.node 226 (.node 225 (.leaf 224 (some ty224)) (.leaf 225 (some ty225))) (.node 227 (.leaf 226 (some ty226)) (.leaf 227 (some ty227))))))) (.node 240 (.node 234 (.node 231 (.node 229 (.leaf 228 (some ty228)) (.node 230 (.leaf 229 (some ty229)) (.leaf 230 (some ty230)))) (.node 232 (.leaf 231 (some ty231)) (.node 233 (.leaf 232 (some ty232)) (.leaf 233 (some ty233))))) (.node 237 (.node 235 (.leaf 234 (some ty234)) (.node 236 (.leaf 235 (some ty235)) (.leaf 236 (some ty236)))) (.node 238 (.leaf 237 (some ty237)) (.node 239 (.leaf 238 (some ty238)) (.leaf 239 (some ty239)))))) (.node 246 (.node 243 (.node 241 (.leaf 240 (some ty240)) (.node 242 (.leaf 241 (some ty241)) (.leaf 242 (some ty242)))) (.node 244 (.leaf 243 (some ty243)) (.node 245 (.leaf 244 (some ty244)) (.leaf 245 (some ty245))))) (.node 249 (.node 247 (.leaf 246 (some ty246)) (.node 248 (.leaf 247 (some ty247)) (.leaf 248 (some ty248)))) (.node 251 (.node 250 (.leaf 249 (some ty249)) (.leaf 250 (some ty250))) (.node 252 (.leaf 251 (some ty251)) (.leaf 252 (some ty252)))))))) (.node 278 (.node 265 (.node 259 (.node 256 (.node 254 (.leaf 253 (some ty253)) (.node 255 (.leaf 254 (some ty254)) (.leaf 255 (some ty255)))) (.node 257 (.leaf 256 (some ty256)) (.node 258 (.leaf 257 (some ty257)) (.leaf 258 (some ty258))))) (.node 262 (.node 260 (.leaf 259 (some ty259)) (.node 261 (.leaf 260 (some ty260)) (.leaf 261 (some ty261)))) (.node 263 (.leaf 262 (some ty262)) (.node 264 (.leaf 263 (some ty263)) (.leaf 264 (some ty264)))))) (.node 271 (.node 268 (.node 266 (.leaf 265 (some ty265)) (.node 267 (.leaf 266 (some ty266)) (.leaf 267 (some ty267)))) (.node 269 (.leaf 268 (some ty268)) (.node 270 (.leaf 269 (some ty269)) (.leaf 270 (some ty270))))) (.node 274 (.node 272 (.leaf 271 (some ty271)) (.node 273 (.leaf 272 (some ty272)) (.leaf 273 (some ty273)))) (.node 276 (.node 275 (.leaf 274 (some ty274)) (.leaf 275 (some ty275))) (.node 277 (.leaf 276 (some ty276)) (.leaf 277 (some ty277))))))) (.node 291 (.node 284 (.node 281 (.node 279 (.leaf 278 (some ty278)) (.node 280 (.leaf 279 (some ty279)) (.leaf 280 (some ty280)))) (.node 282 (.leaf 281 (some ty281)) (.node 283 (.leaf 282 (some ty282)) (.leaf 283 (some ty283))))) (.node 287 (.node 285 (.leaf 284 (some ty284)) (.node 286 (.leaf 285 (some ty285)) (.leaf 286 (some ty286)))) (.node 289 (.node 288 (.leaf 287 (some ty287)) (.leaf 288 (some ty288))) (.node 290 (.leaf 289 (some ty289)) (.leaf 290 (some ty290)))))) (.node 297 (.node 294 (.node 292 (.leaf 291 (some ty291)) (.node 293 (.leaf 292 (some ty292)) (.leaf 293 (some ty293)))) (.node 295 (.leaf 294 (some ty294)) (.node 296 (.leaf 295 (some ty295)) (.leaf 296 (some ty296))))) (.node 300 (.node 298 (.leaf 297 (some ty297)) (.node 299 (.leaf 298 (some ty298)) (.leaf 299 (some ty299)))) (.node 302 (.node 301 (.leaf 300 (some ty300)) (.leaf 301 (some ty301))) (.node 303 (.leaf 302 (some ty302)) (.leaf 303 (some ty303))))))))) (.node 355 (.node 329 (.node 316 (.node 310 (.node 307 (.node 305 (.leaf 304 (some ty304)) (.node 306 (.leaf 305 (some ty305)) (.leaf 306 (some ty306)))) (.node 308 (.leaf 307 (some ty307)) (.node 309 (.leaf 308 (some ty308)) (.leaf 309 (some ty309))))) (.node 313 (.node 311 (.leaf 310 (some ty310)) (.node 312 (.leaf 311 (some ty311)) (.leaf 312 (some ty312)))) (.node 314 (.leaf 313 (some ty313)) (.node 315 (.leaf 314 (some ty314)) (.leaf 315 (some ty315)))))) (.node 322 (.node 319 (.node 317 (.leaf 316 (some ty316)) (.node 318 (.leaf 317 (some ty317)) (.leaf 318 (some ty318)))) (.node 320 (.leaf 319 (some ty319)) (.node 321 (.leaf 320 (some ty320)) (.leaf 321 (some ty321))))) (.node 325 (.node 323 (.leaf 322 (some ty322)) (.node 324 (.leaf 323 (some ty323)) (.leaf 324 (some ty324)))) (.node 327 (.node 326 (.leaf 325 (some ty325)) (.leaf 326 (some ty326))) (.node 328 (.leaf 327 (some ty327)) (.leaf 328 (some ty328))))))) (.node 342 (.node 335 (.node 332 (.node 330 (.leaf 329 (some ty329)) (.node 331 (.leaf 330 (some ty330)) (.leaf 331 (some ty331)))) (.node 333 (.leaf 332 (some ty332)) (.node 334 (.leaf 333 (some ty333)) (.leaf 334 (some ty334))))) (.node 338 (.node 336 (.leaf 335 (some ty335)) (.node 337 (.leaf 336 (some ty336)) (.leaf 337 (some ty337)))) (.node 340 (.node 339 (.leaf 338 (some ty338)) (.leaf 339 (some ty339))) (.node 341 (.leaf 340 (some ty340)) (.leaf 341 (some ty341)))))) (.node 348 (.node 345 (.node 343 (.leaf 342 (some ty342)) (.node 344 (.leaf 343 (some ty343)) (.leaf 344 (some ty344)))) (.node 346 (.leaf 345 (some ty345)) (.node 347 (.leaf 346 (some ty346)) (.leaf 347 (some ty347))))) (.node 351 (.node 349 (.leaf 348 (some ty348)) (.node 350 (.leaf 349 (some ty349)) (.leaf 350 (some ty350)))) (.node 353 (.node 352 (.leaf 351 (some ty351)) (.leaf 352 (some ty352))) (.node 354 (.leaf 353 (some ty353)) (.leaf 354 (some ty354)))))))) (.node 380 (.node 367 (.node 361 (.node 358 (.node 356 (.leaf 355 (some ty355)) (.node 357 (.leaf 356 (some ty356)) (.leaf 357 (some ty357)))) (.node 359 (.leaf 358 (some ty358)) (.node 360 (.leaf 359 (some ty359)) (.leaf 360 (some ty360))))) (.node 364 (.node 362 (.leaf 361 (some ty361)) (.node 363 (.leaf 362 (some ty362)) (.leaf 363 (some ty363)))) (.node 365 (.leaf 364 (some ty364)) (.node 366 (.leaf 365 (some ty365)) (.leaf 366 (some ty366)))))) (.node 373 (.node 370 (.node 368 (.leaf 367 (some ty367)) (.node 369 (.leaf 368 (some ty368)) (.leaf 369 (some ty369)))) (.node 371 (.leaf 370 (some ty370)) (.node 372 (.leaf 371 (some ty371)) (.leaf 372 (some ty372))))) (.node 376 (.node 374 (.leaf 373 (some ty373)) (.node 375 (.leaf 374 (some ty374)) (.leaf 375 (some ty375)))) (.node 378 (.node 377 (.leaf 376 (some ty376)) (.leaf 377 (some ty377))) (.node 379 (.leaf 378 (some ty378)) (.leaf 379 (some ty379))))))) (.node 393 (.node 386 (.node 383 (.node 381 (.leaf 380 (some ty380)) (.node 382 (.leaf 381 (some ty381)) (.leaf 382 (some ty382)))) (.node 384 (.leaf 383 (some ty383)) (.node 385 (.leaf 384 (some ty384)) (.leaf 385 (some ty385))))) (.node 389 (.node 387 (.leaf 386 (some ty386)) (.node 388 (.leaf 387 (some ty387)) (.leaf 388 (some ty388)))) (.node 391 (.node 390 (.leaf 389 (some ty389)) (.leaf 390 (some ty390))) (.node 392 (.leaf 391 (some ty391)) (.leaf 392 (some ty392)))))) (.node 399 (.node 396 (.node 394 (.leaf 393 (some ty393)) (.node 395 (.leaf 394 (some ty394)) (.leaf 395 (some ty395)))) (.node 397 (.leaf 396 (some ty396)) (.node 398 (.leaf 397 (some ty397)) (.leaf 398 (some ty398))))) (.node 402 (.node 400 (.leaf 399 (some ty399)) (.node 401 (.leaf 400 (some ty400)) (.leaf 401 (some ty401)))) (.node 404 (.node 403 (.leaf 402 (some ty402)) (.leaf 403 (some ty403))) (.node 405 (.leaf 404 (some ty404)) (.leaf 405 (some ty405)))))))))))
def TY : TypeId → Option TI := tree.look
theorem tyOk : TyOk Tryz.prog TY := TT.ok (t := tree) ⟨⟨⟨⟨⟨⟨⟨⟨ok0, ⟨ok1, ok2⟩⟩, ⟨ok3, ⟨ok4, ok5⟩⟩⟩, ⟨⟨ok6, ⟨ok7, ok8⟩⟩, ⟨ok9, ⟨ok10, ok11⟩⟩⟩⟩, ⟨⟨⟨ok12, ⟨ok13, ok14⟩⟩, ⟨ok15, ⟨ok16, ok17⟩⟩⟩, ⟨⟨ok18, ⟨ok19, ok20⟩⟩, ⟨⟨ok21, ok22⟩, ⟨ok23, ok24⟩⟩⟩⟩⟩, ⟨⟨⟨⟨ok25, ⟨ok26, ok27⟩⟩, ⟨ok28, ⟨ok29, ok30⟩⟩⟩, ⟨⟨ok31, ⟨ok32, ok33⟩⟩, ⟨ok34, ⟨ok35, ok36⟩⟩⟩⟩, ⟨⟨⟨ok37, ⟨ok38, ok39⟩⟩, ⟨ok40, ⟨ok41, ok42⟩⟩⟩, ⟨⟨ok43, ⟨ok44, ok45⟩⟩, ⟨⟨ok46, ok47⟩, ⟨ok48, ok49⟩⟩⟩⟩⟩⟩, ⟨⟨⟨⟨⟨ok50, ⟨ok51, ok52⟩⟩, ⟨ok53, ⟨ok54, ok55⟩⟩⟩, ⟨⟨ok56, ⟨ok57, ok58⟩⟩, ⟨ok59, ⟨ok60, ok61⟩⟩⟩⟩, ⟨⟨⟨ok62, ⟨ok63, ok64⟩⟩, ⟨ok65, ⟨ok66, ok67⟩⟩⟩, ⟨⟨ok68, ⟨ok69, ok70⟩⟩, ⟨⟨ok71, ok72⟩, ⟨ok73, ok74⟩⟩⟩⟩⟩, ⟨⟨⟨⟨ok75, ⟨ok76, ok77⟩⟩, ⟨ok78, ⟨ok79, ok80⟩⟩⟩, ⟨⟨ok81, ⟨ok82, ok83⟩⟩, ⟨⟨ok84, ok85⟩, ⟨ok86, ok87⟩⟩⟩⟩, ⟨⟨⟨ok88, ⟨ok89, ok90⟩⟩, ⟨ok91, ⟨ok92, ok93⟩⟩⟩, ⟨⟨ok94, ⟨ok95, ok96⟩⟩, ⟨⟨ok97, ok98⟩, ⟨ok99, ok100⟩⟩⟩⟩⟩⟩⟩, ⟨⟨⟨⟨⟨⟨ok101, ⟨ok102, ok103⟩⟩, ⟨ok104, ⟨ok105, ok106⟩⟩⟩, ⟨⟨ok107, ⟨ok108, ok109⟩⟩, ⟨ok110, ⟨ok111, ok112⟩⟩⟩⟩, ⟨⟨⟨ok113, ⟨ok114, ok115⟩⟩, ⟨ok116, ⟨ok117, ok118⟩⟩⟩, ⟨⟨ok119, ⟨ok120, ok121⟩⟩, ⟨⟨ok122, ok123⟩, ⟨ok124, ok125⟩⟩⟩⟩⟩, ⟨⟨⟨⟨ok126, ⟨ok127, ok128⟩⟩, ⟨ok129, ⟨ok130, ok131⟩⟩⟩, ⟨⟨ok132, ⟨ok133, ok134⟩⟩, ⟨⟨ok135, ok136⟩, ⟨ok137, ok138⟩⟩⟩⟩, ⟨⟨⟨ok139, ⟨ok140, ok141⟩⟩, ⟨ok142, ⟨ok143, ok144⟩⟩⟩, ⟨⟨ok145, ⟨ok146, ok147⟩⟩, ⟨⟨ok148, ok149⟩, ⟨ok150, ok151⟩⟩⟩⟩⟩⟩, ⟨⟨⟨⟨⟨ok152, ⟨ok153, ok154⟩⟩, ⟨ok155, ⟨ok156, ok157⟩⟩⟩, ⟨⟨ok158, ⟨ok159, ok160⟩⟩, ⟨ok161, ⟨ok162, ok163⟩⟩⟩⟩, ⟨⟨⟨ok164, ⟨ok165, ok166⟩⟩, ⟨ok167, ⟨ok168, ok169⟩⟩⟩, ⟨⟨ok170, ⟨ok171, ok172⟩⟩, ⟨⟨ok173, ok174⟩, ⟨ok175, ok176⟩⟩⟩⟩⟩, ⟨⟨⟨⟨ok177, ⟨ok178, ok179⟩⟩, ⟨ok180, ⟨ok181, ok182⟩⟩⟩, ⟨⟨ok183, ⟨ok184, ok185⟩⟩, ⟨⟨ok186, ok187⟩, ⟨ok188, ok189⟩⟩⟩⟩, ⟨⟨⟨ok190, ⟨ok191, ok192⟩⟩, ⟨ok193, ⟨ok194, ok195⟩⟩⟩, ⟨⟨ok196, ⟨ok197, ok198⟩⟩, ⟨⟨ok199, ok200⟩, ⟨ok201, ok202⟩⟩⟩⟩⟩⟩⟩⟩, ⟨⟨⟨⟨⟨⟨⟨ok203, ⟨ok204, ok205⟩⟩, ⟨ok206, ⟨ok207, ok208⟩⟩⟩, ⟨⟨ok209, ⟨ok210, ok211⟩⟩, ⟨ok212, ⟨ok213, ok214⟩⟩⟩⟩, ⟨⟨⟨ok215, ⟨ok216, ok217⟩⟩, ⟨ok218, ⟨ok219, ok220⟩⟩⟩, ⟨⟨ok221, ⟨ok222, ok223⟩⟩, ⟨⟨ok224, ok225⟩, ⟨ok226, ok227⟩⟩⟩⟩⟩, ⟨⟨⟨⟨ok228, ⟨ok229, ok230⟩⟩, ⟨ok231, ⟨ok232, ok233⟩⟩⟩, ⟨⟨ok234, ⟨ok235, ok236⟩⟩, ⟨ok237, ⟨ok238, ok239⟩⟩⟩⟩, ⟨⟨⟨ok240, ⟨ok241, ok242⟩⟩, ⟨ok243, ⟨ok244, ok245⟩⟩⟩, ⟨⟨ok246, ⟨ok247, ok248⟩⟩, ⟨⟨ok249, ok250⟩, ⟨ok251, ok252⟩⟩⟩⟩⟩⟩, ⟨⟨⟨⟨⟨ok253, ⟨ok254, ok255⟩⟩, ⟨ok256, ⟨ok257, ok258⟩⟩⟩, ⟨⟨ok259, ⟨ok260, ok261⟩⟩, ⟨ok262, ⟨ok263, ok264⟩⟩⟩⟩, ⟨⟨⟨ok265, ⟨ok266, ok267⟩⟩, ⟨ok268, ⟨ok269, ok270⟩⟩⟩, ⟨⟨ok271, ⟨ok272, ok273⟩⟩, ⟨⟨ok274, ok275⟩, ⟨ok276, ok277⟩⟩⟩⟩⟩, ⟨⟨⟨⟨ok278, ⟨ok279, ok280⟩⟩, ⟨ok281, ⟨ok282, ok283⟩⟩⟩, ⟨⟨ok284, ⟨ok285, ok286⟩⟩, ⟨⟨ok287, ok288⟩, ⟨ok289, ok290⟩⟩⟩⟩, ⟨⟨⟨ok291, ⟨ok292, ok293⟩⟩, ⟨ok294, ⟨ok295, ok296⟩⟩⟩, ⟨⟨ok297, ⟨ok298, ok299⟩⟩, ⟨⟨ok300, ok301⟩, ⟨ok302, ok303⟩⟩⟩⟩⟩⟩⟩, ⟨⟨⟨⟨⟨⟨ok304, ⟨ok305, ok306⟩⟩, ⟨ok307, ⟨ok308, ok309⟩⟩⟩, ⟨⟨ok310, ⟨ok311, ok312⟩⟩, ⟨ok313, ⟨ok314, ok315⟩⟩⟩⟩, ⟨⟨⟨ok316, ⟨ok317, ok318⟩⟩, ⟨ok319, ⟨ok320, ok321⟩⟩⟩, ⟨⟨ok322, ⟨ok323, ok324⟩⟩, ⟨⟨ok325, ok326⟩, ⟨ok327, ok328⟩⟩⟩⟩⟩, ⟨⟨⟨⟨ok329, ⟨ok330, ok331⟩⟩, ⟨ok332, ⟨ok333, ok334⟩⟩⟩, ⟨⟨ok335, ⟨ok336, ok337⟩⟩, ⟨⟨ok338, ok339⟩, ⟨ok340, ok341⟩⟩⟩⟩, ⟨⟨⟨ok342, ⟨ok343, ok344⟩⟩, ⟨ok345, ⟨ok346, ok347⟩⟩⟩, ⟨⟨ok348, ⟨ok349, ok350⟩⟩, ⟨⟨ok351, ok352⟩, ⟨ok353, ok354⟩⟩⟩⟩⟩⟩, ⟨⟨⟨⟨⟨ok355, ⟨ok356, ok357⟩⟩, ⟨ok358, ⟨ok359, ok360⟩⟩⟩, ⟨⟨ok361, ⟨ok362, ok363⟩⟩, ⟨ok364, ⟨ok365, ok366⟩⟩⟩⟩, ⟨⟨⟨ok367, ⟨ok368, ok369⟩⟩, ⟨ok370, ⟨ok371, ok372⟩⟩⟩, ⟨⟨ok373, ⟨ok374, ok375⟩⟩, ⟨⟨ok376, ok377⟩, ⟨ok378, ok379⟩⟩⟩⟩⟩, ⟨⟨⟨⟨ok380, ⟨ok381, ok382⟩⟩, ⟨ok383, ⟨ok384, ok385⟩⟩⟩, ⟨⟨ok386, ⟨ok387, ok388⟩⟩, ⟨⟨ok389, ok390⟩, ⟨ok391, ok392⟩⟩⟩⟩, ⟨⟨⟨ok393, ⟨ok394, ok395⟩⟩, ⟨ok396, ⟨ok397, ok398⟩⟩⟩, ⟨⟨ok399, ⟨ok400, ok401⟩⟩, ⟨⟨ok402, ok403⟩, ⟨ok404, ok405⟩⟩⟩⟩⟩⟩⟩⟩⟩
end
end Go.Vc.Y
