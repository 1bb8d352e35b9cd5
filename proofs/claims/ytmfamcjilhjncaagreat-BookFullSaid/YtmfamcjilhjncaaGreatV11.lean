/- The functions that BookFull reaches, with the orders of their regions. -/
import Derived.Test.YtmfamcjilhjncaaGreatV8
set_option linter.all false
namespace Go.Vc.F
open Go Go.Vc Go.Proofs
set_option maxRecDepth 100000
noncomputable section
noncomputable def ord3 : Nat → Option RO := fun id => none
theorem okf3 : OkF Tryz.prog 3 (Tryz.f3, ord3) := okF_of rfl Tryz.func3 Tryz.call3 (by kernel_rfl)
noncomputable def ord5 : Nat → Option RO := fun id => none
theorem okf5 : OkF Tryz.prog 5 (Tryz.f5, ord5) := okF_of rfl Tryz.func5 Tryz.call5 (by kernel_rfl)
noncomputable def ord6 : Nat → Option RO := fun id => none
theorem okf6 : OkF Tryz.prog 6 (Tryz.f6, ord6) := okF_of rfl Tryz.func6 Tryz.call6 (by kernel_rfl)
noncomputable def ord7 : Nat → Option RO := fun id => match Nat.beq id 6 with | true => some ⟨[0, 0, 2, 7, 0, 0, 63, 127, 255, 511], [1, 2, 4, 5, 0, 3, 6, 7, 8, 9], []⟩ | false => match Nat.beq id 7 with | true => some ⟨[0, 1, 3, 7, 0, 16, 63, 127, 255, 255, 0, 1535, 4095], [0, 1, 2, 3, 4, 5, 6, 7, 8, 9, 10, 11, 12], []⟩ | false => match Nat.beq id 12 with | true => some ⟨[0, 1, 0, 4, 12, 28, 63], [0, 1, 2, 3, 4, 5, 6], []⟩ | false => match Nat.beq id 14 with | true => some ⟨[0, 0, 2, 7, 0, 0, 63, 0, 255], [1, 2, 4, 5, 0, 3, 6, 7, 8], [7]⟩ | false => match Nat.beq id 17 with | true => some ⟨[0, 1, 3, 0, 8, 31, 31, 127, 255, 511], [0, 1, 3, 4, 2, 6, 5, 7, 8, 9], []⟩ | false => match Nat.beq id 18 with | true => some ⟨[0, 1, 3, 7, 0, 16, 0, 0, 128, 448, 1023], [0, 1, 2, 3, 4, 5, 6, 7, 8, 9, 10], []⟩ | false => none
theorem okf7 : OkF Tryz.prog 7 (Tryz.f7, ord7) := okF_of rfl Tryz.func7 Tryz.call7 (by kernel_rfl)
noncomputable def ord8 : Nat → Option RO := fun id => none
theorem okf8 : OkF Tryz.prog 8 (Tryz.f8, ord8) := okF_of rfl Tryz.func8 Tryz.call8 (by kernel_rfl)
noncomputable def ord9 : Nat → Option RO := fun id => none
theorem okf9 : OkF Tryz.prog 9 (Tryz.f9, ord9) := okF_of rfl Tryz.func9 Tryz.call9 (by kernel_rfl)
noncomputable def ord10 : Nat → Option RO := fun id => match Nat.beq id 9 with | true => some ⟨[0, 1, 3, 7, 0, 0, 63], [0, 1, 2, 3, 4, 5, 6], []⟩ | false => match Nat.beq id 11 with | true => some ⟨[0, 1, 3, 7, 0, 31, 63, 127, 127, 0, 767, 2047], [0, 1, 2, 3, 4, 5, 6, 7, 8, 9, 10, 11], []⟩ | false => match Nat.beq id 19 with | true => some ⟨[0, 1, 3, 7, 0, 0, 32, 0, 128, 0, 512, 2016, 4095], [0, 1, 2, 3, 4, 5, 6, 7, 8, 9, 10, 11, 12], []⟩ | false => match Nat.beq id 22 with | true => some ⟨[0, 1, 3, 7, 0, 31], [0, 1, 2, 3, 4, 5], []⟩ | false => none
theorem okf10 : OkF Tryz.prog 10 (Tryz.f10, ord10) := okF_of rfl Tryz.func10 Tryz.call10 (by kernel_rfl)
noncomputable def ord11 : Nat → Option RO := fun id => none
theorem okf11 : OkF Tryz.prog 11 (Tryz.f11, ord11) := okF_of rfl Tryz.func11 Tryz.call11 (by kernel_rfl)
noncomputable def ord12 : Nat → Option RO := fun id => match Nat.beq id 11 with | true => some ⟨[0, 1, 3, 7, 0, 0, 63], [0, 1, 2, 3, 4, 5, 6], []⟩ | false => none
theorem okf12 : OkF Tryz.prog 12 (Tryz.f12, ord12) := okF_of rfl Tryz.func12 Tryz.call12 (by kernel_rfl)
noncomputable def ord13 : Nat → Option RO := fun id => none
theorem okf13 : OkF Tryz.prog 13 (Tryz.f13, ord13) := okF_of rfl Tryz.func13 Tryz.call13 (by kernel_rfl)
noncomputable def ord14 : Nat → Option RO := fun id => none
theorem okf14 : OkF Tryz.prog 14 (Tryz.f14, ord14) := okF_of rfl Tryz.func14 Tryz.call14 (by kernel_rfl)
noncomputable def ord18 : Nat → Option RO := fun id => none
theorem okf18 : OkF Tryz.prog 18 (Tryz.f18, ord18) := okF_of rfl Tryz.func18 Tryz.call18 (by kernel_rfl)
noncomputable def ord19 : Nat → Option RO := fun id => none
theorem okf19 : OkF Tryz.prog 19 (Tryz.f19, ord19) := okF_of rfl Tryz.func19 Tryz.call19 (by kernel_rfl)
noncomputable def ord26 : Nat → Option RO := fun id => none
theorem okf26 : OkF Tryz.prog 26 (Tryz.f26, ord26) := okF_of rfl Tryz.func26 Tryz.call26 (by kernel_rfl)
noncomputable def ord27 : Nat → Option RO := fun id => match Nat.beq id 6 with | true => some ⟨[0, 0, 2, 6, 14, 0, 62, 126, 255, 511], [0, 1, 2, 3, 4, 5, 6, 7, 8, 9], []⟩ | false => none
theorem okf27 : OkF Tryz.prog 27 (Tryz.f27, ord27) := okF_of rfl Tryz.func27 Tryz.call27 (by kernel_rfl)
noncomputable def ord28 : Nat → Option RO := fun id => none
theorem okf28 : OkF Tryz.prog 28 (Tryz.f28, ord28) := okF_of rfl Tryz.func28 Tryz.call28 (by kernel_rfl)
noncomputable def ord29 : Nat → Option RO := fun id => none
theorem okf29 : OkF Tryz.prog 29 (Tryz.f29, ord29) := okF_of rfl Tryz.func29 Tryz.call29 (by kernel_rfl)
noncomputable def ord30 : Nat → Option RO := fun id => none
theorem okf30 : OkF Tryz.prog 30 (Tryz.f30, ord30) := okF_of rfl Tryz.func30 Tryz.call30 (by kernel_rfl)
noncomputable def ord31 : Nat → Option RO := fun id => match Nat.beq id 1 with | true => some ⟨[0, 1, 0, 4, 12, 0, 32, 124, 255, 0, 1023], [0, 1, 2, 3, 5, 6, 4, 7, 8, 9, 10], [9]⟩ | false => match Nat.beq id 5 with | true => some ⟨[0, 1, 0, 4, 12, 31, 63, 127], [0, 1, 2, 3, 4, 5, 6, 7], []⟩ | false => none
theorem okf31 : OkF Tryz.prog 31 (Tryz.f31, ord31) := okF_of rfl Tryz.func31 Tryz.call31 (by kernel_rfl)
noncomputable def ord32 : Nat → Option RO := fun id => none
theorem okf32 : OkF Tryz.prog 32 (Tryz.f32, ord32) := okF_of rfl Tryz.func32 Tryz.call32 (by kernel_rfl)
noncomputable def ord33 : Nat → Option RO := fun id => match Nat.beq id 2 with | true => some ⟨[0, 0, 3, 0, 0, 31, 63, 127, 255, 511, 255, 1279, 4095, 8191, 16383, 32767, 65535, 32767, 163839, 524287, 1048575, 2097151], [0, 1, 3, 4, 2, 5, 6, 7, 8, 9, 10, 11, 12, 13, 14, 15, 16, 17, 18, 19, 20, 21], []⟩ | false => none
theorem okf33 : OkF Tryz.prog 33 (Tryz.f33, ord33) := okF_of rfl Tryz.func33 Tryz.call33 (by kernel_rfl)
noncomputable def ord34 : Nat → Option RO := fun id => none
theorem okf34 : OkF Tryz.prog 34 (Tryz.f34, ord34) := okF_of rfl Tryz.func34 Tryz.call34 (by kernel_rfl)
noncomputable def ord35 : Nat → Option RO := fun id => none
theorem okf35 : OkF Tryz.prog 35 (Tryz.f35, ord35) := okF_of rfl Tryz.func35 Tryz.call35 (by kernel_rfl)
noncomputable def ord36 : Nat → Option RO := fun id => none
theorem okf36 : OkF Tryz.prog 36 (Tryz.f36, ord36) := okF_of rfl Tryz.func36 Tryz.call36 (by kernel_rfl)
noncomputable def ord37 : Nat → Option RO := fun id => none
theorem okf37 : OkF Tryz.prog 37 (Tryz.f37, ord37) := okF_of rfl Tryz.func37 Tryz.call37 (by kernel_rfl)
noncomputable def ord38 : Nat → Option RO := fun id => none
theorem okf38 : OkF Tryz.prog 38 (Tryz.f38, ord38) := okF_of rfl Tryz.func38 Tryz.call38 (by kernel_rfl)
noncomputable def ord39 : Nat → Option RO := fun id => none
theorem okf39 : OkF Tryz.prog 39 (Tryz.f39, ord39) := okF_of rfl Tryz.func39 Tryz.call39 (by kernel_rfl)
noncomputable def ord40 : Nat → Option RO := fun id => none
theorem okf40 : OkF Tryz.prog 40 (Tryz.f40, ord40) := okF_of rfl Tryz.func40 Tryz.call40 (by kernel_rfl)
noncomputable def ord41 : Nat → Option RO := fun id => none
theorem okf41 : OkF Tryz.prog 41 (Tryz.f41, ord41) := okF_of rfl Tryz.func41 Tryz.call41 (by kernel_rfl)
noncomputable def ord42 : Nat → Option RO := fun id => none
theorem okf42 : OkF Tryz.prog 42 (Tryz.f42, ord42) := okF_of rfl Tryz.func42 Tryz.call42 (by kernel_rfl)
noncomputable def ord43 : Nat → Option RO := fun id => none
theorem okf43 : OkF Tryz.prog 43 (Tryz.f43, ord43) := okF_of rfl Tryz.func43 Tryz.call43 (by kernel_rfl)
noncomputable def ord44 : Nat → Option RO := fun id => match Nat.beq id 3 with | true => some ⟨[0, 1, 3, 0, 8, 31, 63, 127], [0, 1, 3, 2, 4, 5, 6, 7], [4]⟩ | false => match Nat.beq id 4 with | true => some ⟨[0, 1, 3, 7, 0, 0, 63], [0, 1, 2, 3, 4, 5, 6], []⟩ | false => none
theorem okf44 : OkF Tryz.prog 44 (Tryz.f44, ord44) := okF_of rfl Tryz.func44 Tryz.call44 (by kernel_rfl)
noncomputable def ord45 : Nat → Option RO := fun id => match Nat.beq id 1 with | true => some ⟨[0, 1, 3, 7, 0, 16, 63, 127, 255, 255, 0, 1535, 4095], [0, 1, 2, 3, 4, 5, 6, 7, 8, 9, 10, 11, 12], []⟩ | false => match Nat.beq id 4 with | true => some ⟨[0, 0, 2, 0, 0, 16, 48, 112, 255, 511, 1023, 1023, 0, 6143, 16383], [0, 1, 2, 3, 4, 5, 6, 7, 8, 9, 10, 11, 12, 13, 14], [12]⟩ | false => match Nat.beq id 9 with | true => some ⟨[0, 1, 0, 4, 0, 16, 48, 112, 0, 256, 0, 1024, 0, 4096, 16128, 32767, 65535], [0, 1, 2, 3, 4, 5, 6, 7, 8, 9, 10, 11, 12, 13, 14, 15, 16], []⟩ | false => none
theorem okf45 : OkF Tryz.prog 45 (Tryz.f45, ord45) := okF_of rfl Tryz.func45 Tryz.call45 (by kernel_rfl)
noncomputable def ord46 : Nat → Option RO := fun id => match Nat.beq id 1 with | true => some ⟨[0, 1, 3, 7, 0, 16, 63, 0, 128, 0, 0, 0, 2048, 6144, 14336, 32767, 65535, 131071, 131071, 131071, 0, 1310719, 3670015, 8388607], [0, 1, 2, 3, 4, 5, 6, 7, 8, 9, 10, 11, 12, 13, 14, 15, 16, 17, 18, 19, 20, 21, 22, 23], [20]⟩ | false => none
theorem okf46 : OkF Tryz.prog 46 (Tryz.f46, ord46) := okF_of rfl Tryz.func46 Tryz.call46 (by kernel_rfl)
noncomputable def ord47 : Nat → Option RO := fun id => none
theorem okf47 : OkF Tryz.prog 47 (Tryz.f47, ord47) := okF_of rfl Tryz.func47 Tryz.call47 (by kernel_rfl)
noncomputable def ord48 : Nat → Option RO := fun id => none
theorem okf48 : OkF Tryz.prog 48 (Tryz.f48, ord48) := okF_of rfl Tryz.func48 Tryz.call48 (by kernel_rfl)
noncomputable def ord49 : Nat → Option RO := fun id => match Nat.beq id 1 with | true => some ⟨[0, 1, 0, 4, 15, 0, 32, 0, 128, 511, 1023, 2047, 4095], [0, 1, 2, 3, 5, 6, 7, 8, 4, 9, 10, 11, 12], []⟩ | false => none
theorem okf49 : OkF Tryz.prog 49 (Tryz.f49, ord49) := okF_of rfl Tryz.func49 Tryz.call49 (by kernel_rfl)
noncomputable def ord50 : Nat → Option RO := fun id => match Nat.beq id 6 with | true => some ⟨[0, 1, 0, 7, 15, 0, 32, 0, 224, 480, 1023, 2047], [0, 1, 2, 3, 4, 5, 6, 7, 8, 9, 10, 11], []⟩ | false => match Nat.beq id 11 with | true => some ⟨[0, 1, 0, 7, 15, 0, 32, 0, 224, 480, 1023], [0, 1, 2, 3, 4, 5, 6, 7, 8, 9, 10], []⟩ | false => none
theorem okf50 : OkF Tryz.prog 50 (Tryz.f50, ord50) := okF_of rfl Tryz.func50 Tryz.call50 (by kernel_rfl)
noncomputable def ord51 : Nat → Option RO := fun id => match Nat.beq id 1 with | true => some ⟨[0, 1, 3, 0, 8, 31, 0, 64, 255, 223, 1023, 2047, 4095, 8191, 16383], [0, 1, 3, 4, 6, 7, 2, 9, 5, 8, 10, 11, 12, 13, 14], []⟩ | false => none
theorem okf51 : OkF Tryz.prog 51 (Tryz.f51, ord51) := okF_of rfl Tryz.func51 Tryz.call51 (by kernel_rfl)
noncomputable def ord54 : Nat → Option RO := fun id => none
theorem okf54 : OkF Tryz.prog 54 (Tryz.f54, ord54) := okF_of rfl Tryz.func54 Tryz.call54 (by kernel_rfl)
noncomputable def ord72 : Nat → Option RO := fun id => match Nat.beq id 6 with | true => some ⟨[0, 0, 3, 7, 0, 0, 48, 112, 255], [0, 1, 2, 3, 4, 5, 6, 7, 8], []⟩ | false => none
theorem okf72 : OkF Tryz.prog 72 (Tryz.f72, ord72) := okF_of rfl Tryz.func72 Tryz.call72 (by kernel_rfl)
noncomputable def ord78 : Nat → Option RO := fun id => none
theorem okf78 : OkF Tryz.prog 78 (Tryz.f78, ord78) := okF_of rfl Tryz.func78 Tryz.call78 (by kernel_rfl)
noncomputable def ord79 : Nat → Option RO := fun id => none
theorem okf79 : OkF Tryz.prog 79 (Tryz.f79, ord79) := okF_of rfl Tryz.func79 Tryz.call79 (by kernel_rfl)
noncomputable def ord80 : Nat → Option RO := fun id => none
theorem okf80 : OkF Tryz.prog 80 (Tryz.f80, ord80) := okF_of rfl Tryz.func80 Tryz.call80 (by kernel_rfl)
noncomputable def ord81 : Nat → Option RO := fun id => match Nat.beq id 3 with | true => some ⟨[0, 0, 2, 0, 8, 31, 63], [0, 1, 2, 3, 4, 5, 6], []⟩ | false => none
theorem okf81 : OkF Tryz.prog 81 (Tryz.f81, ord81) := okF_of rfl Tryz.func81 Tryz.call81 (by kernel_rfl)
noncomputable def ord82 : Nat → Option RO := fun id => none
theorem okf82 : OkF Tryz.prog 82 (Tryz.f82, ord82) := okF_of rfl Tryz.func82 Tryz.call82 (by kernel_rfl)
noncomputable def ord83 : Nat → Option RO := fun id => none
theorem okf83 : OkF Tryz.prog 83 (Tryz.f83, ord83) := okF_of rfl Tryz.func83 Tryz.call83 (by kernel_rfl)
noncomputable def ord84 : Nat → Option RO := fun id => none
theorem okf84 : OkF Tryz.prog 84 (Tryz.f84, ord84) := okF_of rfl Tryz.func84 Tryz.call84 (by kernel_rfl)
noncomputable def ord85 : Nat → Option RO := fun id => match Nat.beq id 1 with | true => some ⟨[0, 1, 3, 0, 8, 31, 31, 127, 255, 511], [0, 1, 3, 4, 2, 6, 5, 7, 8, 9], []⟩ | false => none
theorem okf85 : OkF Tryz.prog 85 (Tryz.f85, ord85) := okF_of rfl Tryz.func85 Tryz.call85 (by kernel_rfl)
noncomputable def ord86 : Nat → Option RO := fun id => none
theorem okf86 : OkF Tryz.prog 86 (Tryz.f86, ord86) := okF_of rfl Tryz.func86 Tryz.call86 (by kernel_rfl)
noncomputable def ord87 : Nat → Option RO := fun id => none
theorem okf87 : OkF Tryz.prog 87 (Tryz.f87, ord87) := okF_of rfl Tryz.func87 Tryz.call87 (by kernel_rfl)
noncomputable def ord88 : Nat → Option RO := fun id => none
theorem okf88 : OkF Tryz.prog 88 (Tryz.f88, ord88) := okF_of rfl Tryz.func88 Tryz.call88 (by kernel_rfl)
noncomputable def ord89 : Nat → Option RO := fun id => none
theorem okf89 : OkF Tryz.prog 89 (Tryz.f89, ord89) := okF_of rfl Tryz.func89 Tryz.call89 (by kernel_rfl)
noncomputable def ord90 : Nat → Option RO := fun id => match Nat.beq id 3 with | true => some ⟨[0, 1, 3, 7, 0, 16, 63, 127, 255, 255, 0, 1535, 4095], [0, 1, 2, 3, 4, 5, 6, 7, 8, 9, 10, 11, 12], []⟩ | false => none
theorem okf90 : OkF Tryz.prog 90 (Tryz.f90, ord90) := okF_of rfl Tryz.func90 Tryz.call90 (by kernel_rfl)
noncomputable def ord91 : Nat → Option RO := fun id => match Nat.beq id 1 with | true => some ⟨[0, 1, 3, 7, 0, 16, 63, 127, 255, 255, 0, 1535, 4095], [0, 1, 2, 3, 4, 5, 6, 7, 8, 9, 10, 11, 12], []⟩ | false => none
theorem okf91 : OkF Tryz.prog 91 (Tryz.f91, ord91) := okF_of rfl Tryz.func91 Tryz.call91 (by kernel_rfl)
noncomputable def ord92 : Nat → Option RO := fun id => match Nat.beq id 1 with | true => some ⟨[0, 1, 3, 7, 0, 16, 63, 127, 255, 255, 0, 1535, 4095], [0, 1, 2, 3, 4, 5, 6, 7, 8, 9, 10, 11, 12], []⟩ | false => match Nat.beq id 7 with | true => some ⟨[0, 0, 2, 0, 8, 0, 32, 96, 0, 256, 0, 1024, 4095, 8191, 16383, 16383, 16383, 32767, 196607, 524287], [0, 1, 2, 3, 4, 5, 6, 7, 8, 9, 10, 11, 12, 13, 14, 15, 16, 17, 18, 19], []⟩ | false => none
theorem okf92 : OkF Tryz.prog 92 (Tryz.f92, ord92) := okF_of rfl Tryz.func92 Tryz.call92 (by kernel_rfl)
noncomputable def ord93 : Nat → Option RO := fun id => match Nat.beq id 1 with | true => some ⟨[0, 1, 3, 7, 0, 16, 0, 64, 240, 511, 1023, 2047, 2047, 0, 12287, 32767], [0, 1, 2, 3, 4, 5, 6, 7, 8, 9, 10, 11, 12, 13, 14, 15], []⟩ | false => match Nat.beq id 11 with | true => some ⟨[0, 1, 3, 7, 0, 16, 0, 64, 240, 0, 1023], [0, 1, 2, 3, 4, 5, 6, 7, 8, 9, 10], []⟩ | false => match Nat.beq id 12 with | true => some ⟨[0, 0, 2, 6, 0, 16, 0, 64, 0, 256, 1008, 2047], [0, 1, 2, 4, 5, 6, 7, 8, 9, 10, 3, 11], []⟩ | false => none
theorem okf93 : OkF Tryz.prog 93 (Tryz.f93, ord93) := okF_of rfl Tryz.func93 Tryz.call93 (by kernel_rfl)
noncomputable def ord94 : Nat → Option RO := fun id => match Nat.beq id 8 with | true => some ⟨[0, 1, 3, 7, 0, 16, 0, 64, 240, 511], [0, 1, 2, 3, 4, 5, 6, 7, 8, 9], []⟩ | false => match Nat.beq id 9 with | true => some ⟨[0, 0, 2, 6, 0, 16, 0, 64, 0, 256, 1008, 2047], [0, 1, 2, 4, 5, 6, 7, 8, 9, 10, 3, 11], []⟩ | false => none
theorem okf94 : OkF Tryz.prog 94 (Tryz.f94, ord94) := okF_of rfl Tryz.func94 Tryz.call94 (by kernel_rfl)
noncomputable def ord95 : Nat → Option RO := fun id => match Nat.beq id 1 with | true => some ⟨[0, 1, 3, 7, 0, 16, 63, 127, 255, 255, 0, 1535, 4095], [0, 1, 2, 3, 4, 5, 6, 7, 8, 9, 10, 11, 12], []⟩ | false => match Nat.beq id 3 with | true => some ⟨[0, 1, 0, 4, 12, 28, 0, 64, 252, 511, 1023], [0, 2, 3, 4, 5, 6, 7, 8, 1, 9, 10], []⟩ | false => none
theorem okf95 : OkF Tryz.prog 95 (Tryz.f95, ord95) := okF_of rfl Tryz.func95 Tryz.call95 (by kernel_rfl)
noncomputable def ord96 : Nat → Option RO := fun id => none
theorem okf96 : OkF Tryz.prog 96 (Tryz.f96, ord96) := okF_of rfl Tryz.func96 Tryz.call96 (by kernel_rfl)
noncomputable def ord97 : Nat → Option RO := fun id => match Nat.beq id 1 with | true => some ⟨[0, 1, 0, 4, 0, 16, 63, 127, 255, 255, 0, 1535, 4095], [0, 1, 2, 3, 4, 5, 6, 7, 8, 9, 10, 11, 12], [10]⟩ | false => none
theorem okf97 : OkF Tryz.prog 97 (Tryz.f97, ord97) := okF_of rfl Tryz.func97 Tryz.call97 (by kernel_rfl)
noncomputable def ord98 : Nat → Option RO := fun id => none
theorem okf98 : OkF Tryz.prog 98 (Tryz.f98, ord98) := okF_of rfl Tryz.func98 Tryz.call98 (by kernel_rfl)
noncomputable def ord99 : Nat → Option RO := fun id => match Nat.beq id 6 with | true => some ⟨[0, 0, 3, 7, 0, 0, 48, 112, 255], [0, 1, 2, 3, 4, 5, 6, 7, 8], []⟩ | false => none
theorem okf99 : OkF Tryz.prog 99 (Tryz.f99, ord99) := okF_of rfl Tryz.func99 Tryz.call99 (by kernel_rfl)
noncomputable def ord100 : Nat → Option RO := fun id => match Nat.beq id 6 with | true => some ⟨[0, 0, 3, 7, 0, 0, 48, 112, 255], [0, 1, 2, 3, 4, 5, 6, 7, 8], []⟩ | false => none
theorem okf100 : OkF Tryz.prog 100 (Tryz.f100, ord100) := okF_of rfl Tryz.func100 Tryz.call100 (by kernel_rfl)
noncomputable def ord101 : Nat → Option RO := fun id => match Nat.beq id 0 with | true => some ⟨[0, 1, 3, 0, 8, 24, 56, 120, 248, 511], [0, 1, 2, 3, 4, 5, 6, 7, 8, 9], []⟩ | false => match Nat.beq id 1 with | true => some ⟨[0, 1, 3, 0, 8, 24, 56, 120, 248, 511], [0, 1, 2, 3, 4, 5, 6, 7, 8, 9], []⟩ | false => match Nat.beq id 5 with | true => some ⟨[0, 1, 3, 7, 0, 31, 63, 127], [0, 1, 2, 3, 4, 5, 6, 7], []⟩ | false => match Nat.beq id 6 with | true => some ⟨[0, 1, 3, 0, 8, 24, 56, 120, 248, 511], [0, 1, 2, 3, 4, 5, 6, 7, 8, 9], []⟩ | false => match Nat.beq id 8 with | true => some ⟨[0, 1, 3, 0, 8, 24, 56, 120, 248, 511], [0, 1, 2, 3, 4, 5, 6, 7, 8, 9], []⟩ | false => match Nat.beq id 10 with | true => some ⟨[0, 1, 3, 0, 8, 24, 56, 120, 248, 504, 1016, 2040, 4095], [0, 1, 2, 3, 4, 5, 6, 7, 8, 9, 10, 11, 12], []⟩ | false => none
theorem okf101 : OkF Tryz.prog 101 (Tryz.f101, ord101) := okF_of rfl Tryz.func101 Tryz.call101 (by kernel_rfl)
noncomputable def ord102 : Nat → Option RO := fun id => none
theorem okf102 : OkF Tryz.prog 102 (Tryz.f102, ord102) := okF_of rfl Tryz.func102 Tryz.call102 (by kernel_rfl)
noncomputable def ord103 : Nat → Option RO := fun id => none
theorem okf103 : OkF Tryz.prog 103 (Tryz.f103, ord103) := okF_of rfl Tryz.func103 Tryz.call103 (by kernel_rfl)
noncomputable def ord104 : Nat → Option RO := fun id => none
theorem okf104 : OkF Tryz.prog 104 (Tryz.f104, ord104) := okF_of rfl Tryz.func104 Tryz.call104 (by kernel_rfl)
noncomputable def ord105 : Nat → Option RO := fun id => match Nat.beq id 8 with | true => some ⟨[0, 0, 0, 4, 12, 0, 32, 127, 255, 255, 1023, 2047], [0, 1, 2, 3, 4, 5, 6, 7, 8, 9, 10, 11], []⟩ | false => none
theorem okf105 : OkF Tryz.prog 105 (Tryz.f105, ord105) := okF_of rfl Tryz.func105 Tryz.call105 (by kernel_rfl)
noncomputable def ord106 : Nat → Option RO := fun id => match Nat.beq id 3 with | true => some ⟨[0, 1, 3, 7, 0, 16, 0, 127], [0, 1, 2, 3, 4, 5, 6, 7], []⟩ | false => match Nat.beq id 8 with | true => some ⟨[0, 1, 3, 7, 0, 16, 0, 64, 192, 448, 0, 1024, 4032, 8128, 0, 16384, 65472, 131071], [0, 1, 2, 3, 4, 5, 6, 7, 8, 9, 10, 11, 12, 14, 13, 15, 16, 17], [15]⟩ | false => none
theorem okf106 : OkF Tryz.prog 106 (Tryz.f106, ord106) := okF_of rfl Tryz.func106 Tryz.call106 (by kernel_rfl)
noncomputable def ord107 : Nat → Option RO := fun id => match Nat.beq id 10 with | true => some ⟨[0, 0, 0, 4, 15, 31, 63, 63, 0, 383, 1023], [0, 1, 2, 3, 4, 5, 6, 7, 8, 9, 10], [8]⟩ | false => none
theorem okf107 : OkF Tryz.prog 107 (Tryz.f107, ord107) := okF_of rfl Tryz.func107 Tryz.call107 (by kernel_rfl)
noncomputable def ord108 : Nat → Option RO := fun id => none
theorem okf108 : OkF Tryz.prog 108 (Tryz.f108, ord108) := okF_of rfl Tryz.func108 Tryz.call108 (by kernel_rfl)
noncomputable def ord109 : Nat → Option RO := fun id => none
theorem okf109 : OkF Tryz.prog 109 (Tryz.f109, ord109) := okF_of rfl Tryz.func109 Tryz.call109 (by kernel_rfl)
noncomputable def ord110 : Nat → Option RO := fun id => none
theorem okf110 : OkF Tryz.prog 110 (Tryz.f110, ord110) := okF_of rfl Tryz.func110 Tryz.call110 (by kernel_rfl)
noncomputable def ord111 : Nat → Option RO := fun id => none
theorem okf111 : OkF Tryz.prog 111 (Tryz.f111, ord111) := okF_of rfl Tryz.func111 Tryz.call111 (by kernel_rfl)
noncomputable def ord112 : Nat → Option RO := fun id => none
theorem okf112 : OkF Tryz.prog 112 (Tryz.f112, ord112) := okF_of rfl Tryz.func112 Tryz.call112 (by kernel_rfl)
noncomputable def ord113 : Nat → Option RO := fun id => none
theorem okf113 : OkF Tryz.prog 113 (Tryz.f113, ord113) := okF_of rfl Tryz.func113 Tryz.call113 (by kernel_rfl)
noncomputable def ord114 : Nat → Option RO := fun id => match Nat.beq id 8 with | true => some ⟨[0, 1, 0, 7, 15, 0, 32, 0, 224, 480, 1023], [0, 1, 2, 3, 4, 5, 6, 7, 8, 9, 10], []⟩ | false => match Nat.beq id 13 with | true => some ⟨[0, 1, 0, 7, 15, 0, 32, 0, 224, 480, 1023], [0, 1, 2, 3, 4, 5, 6, 7, 8, 9, 10], []⟩ | false => match Nat.beq id 18 with | true => some ⟨[0, 1, 0, 7, 15, 0, 32, 0, 224, 480, 1023], [0, 1, 2, 3, 4, 5, 6, 7, 8, 9, 10], []⟩ | false => none
theorem okf114 : OkF Tryz.prog 114 (Tryz.f114, ord114) := okF_of rfl Tryz.func114 Tryz.call114 (by kernel_rfl)
noncomputable def ord115 : Nat → Option RO := fun id => none
theorem okf115 : OkF Tryz.prog 115 (Tryz.f115, ord115) := okF_of rfl Tryz.func115 Tryz.call115 (by kernel_rfl)
noncomputable def ord119 : Nat → Option RO := fun id => none
theorem okf119 : OkF Tryz.prog 119 (Tryz.f119, ord119) := okF_of rfl Tryz.func119 Tryz.call119 (by kernel_rfl)
noncomputable def ord120 : Nat → Option RO := fun id => match Nat.beq id 1 with | true => some ⟨[0, 1, 0, 4, 15, 0, 32, 0, 128, 511, 1023, 2047, 4095], [0, 1, 2, 3, 5, 6, 7, 8, 4, 9, 10, 11, 12], []⟩ | false => none
theorem okf120 : OkF Tryz.prog 120 (Tryz.f120, ord120) := okF_of rfl Tryz.func120 Tryz.call120 (by kernel_rfl)
noncomputable def ord129 : Nat → Option RO := fun id => none
theorem okf129 : OkF Tryz.prog 129 (Tryz.f129, ord129) := okF_of rfl Tryz.func129 Tryz.call129 (by kernel_rfl)
noncomputable def ord130 : Nat → Option RO := fun id => none
theorem okf130 : OkF Tryz.prog 130 (Tryz.f130, ord130) := okF_of rfl Tryz.func130 Tryz.call130 (by kernel_rfl)
noncomputable def ord131 : Nat → Option RO := fun id => none
theorem okf131 : OkF Tryz.prog 131 (Tryz.f131, ord131) := okF_of rfl Tryz.func131 Tryz.call131 (by kernel_rfl)
noncomputable def ord132 : Nat → Option RO := fun id => none
theorem okf132 : OkF Tryz.prog 132 (Tryz.f132, ord132) := okF_of rfl Tryz.func132 Tryz.call132 (by kernel_rfl)
noncomputable def ord133 : Nat → Option RO := fun id => match Nat.beq id 4 with | true => some ⟨[0, 1, 3, 7, 0, 16, 48, 112, 0, 496, 1023, 2047, 4095, 4095, 8191, 32767], [0, 1, 2, 3, 4, 5, 6, 7, 8, 9, 10, 11, 12, 13, 14, 15], []⟩ | false => none
theorem okf133 : OkF Tryz.prog 133 (Tryz.f133, ord133) := okF_of rfl Tryz.func133 Tryz.call133 (by kernel_rfl)
noncomputable def ord134 : Nat → Option RO := fun id => none
theorem okf134 : OkF Tryz.prog 134 (Tryz.f134, ord134) := okF_of rfl Tryz.func134 Tryz.call134 (by kernel_rfl)
noncomputable def ord135 : Nat → Option RO := fun id => match Nat.beq id 12 with | true => some ⟨[0, 0, 0, 0, 0, 0, 56, 0, 0, 256, 768, 2047, 0, 8191], [0, 1, 2, 3, 4, 5, 6, 7, 8, 9, 10, 11, 12, 13], []⟩ | false => match Nat.beq id 16 with | true => some ⟨[0, 0, 3, 0, 15, 31, 63], [0, 3, 1, 2, 4, 5, 6], []⟩ | false => none
theorem okf135 : OkF Tryz.prog 135 (Tryz.f135, ord135) := okF_of rfl Tryz.func135 Tryz.call135 (by kernel_rfl)
noncomputable def ord136 : Nat → Option RO := fun id => match Nat.beq id 1 with | true => some ⟨[0, 1, 0, 4, 12, 28, 60, 127, 255], [0, 2, 3, 4, 5, 6, 1, 7, 8], []⟩ | false => none
theorem okf136 : OkF Tryz.prog 136 (Tryz.f136, ord136) := okF_of rfl Tryz.func136 Tryz.call136 (by kernel_rfl)
noncomputable def ord137 : Nat → Option RO := fun id => match Nat.beq id 10 with | true => some ⟨[0, 1, 3, 7, 0, 0, 63], [0, 1, 2, 3, 4, 5, 6], []⟩ | false => match Nat.beq id 12 with | true => some ⟨[0, 1, 3, 7, 0, 31], [0, 1, 2, 3, 4, 5], []⟩ | false => match Nat.beq id 13 with | true => some ⟨[0, 0, 2, 6, 0, 16, 0, 64, 0, 256, 1008, 2047], [0, 1, 2, 4, 5, 6, 7, 8, 9, 10, 3, 11], []⟩ | false => none
theorem okf137 : OkF Tryz.prog 137 (Tryz.f137, ord137) := okF_of rfl Tryz.func137 Tryz.call137 (by kernel_rfl)
noncomputable def ord138 : Nat → Option RO := fun id => none
theorem okf138 : OkF Tryz.prog 138 (Tryz.f138, ord138) := okF_of rfl Tryz.func138 Tryz.call138 (by kernel_rfl)
noncomputable def ord139 : Nat → Option RO := fun id => match Nat.beq id 13 with | true => some ⟨[0, 0, 0, 0, 8, 31, 63, 127, 127, 0, 767, 2047], [0, 1, 2, 3, 4, 5, 6, 7, 8, 9, 10, 11], [9]⟩ | false => none
theorem okf139 : OkF Tryz.prog 139 (Tryz.f139, ord139) := okF_of rfl Tryz.func139 Tryz.call139 (by kernel_rfl)
noncomputable def ord140 : Nat → Option RO := fun id => match Nat.beq id 11 with | true => some ⟨[0, 0, 3, 0, 15, 31, 63], [0, 3, 1, 2, 4, 5, 6], []⟩ | false => match Nat.beq id 12 with | true => some ⟨[0, 0, 0, 0, 12, 28, 60, 0, 0, 510, 1023, 2047, 2047, 2047, 16383, 32767, 65535], [0, 1, 2, 3, 7, 8, 4, 5, 6, 9, 10, 11, 12, 13, 14, 15, 16], []⟩ | false => none
theorem okf140 : OkF Tryz.prog 140 (Tryz.f140, ord140) := okF_of rfl Tryz.func140 Tryz.call140 (by kernel_rfl)
noncomputable def ord141 : Nat → Option RO := fun id => match Nat.beq id 5 with | true => some ⟨[0, 0, 3, 0, 0, 31, 63, 127], [0, 3, 1, 2, 4, 5, 6, 7], [4]⟩ | false => match Nat.beq id 15 with | true => some ⟨[0, 0, 0, 0, 8, 0, 32, 124, 252, 0, 0, 0, 2048, 8190, 16383, 32767, 32767, 32767, 262143, 524287, 1048575], [0, 1, 2, 3, 4, 5, 6, 9, 10, 11, 12, 7, 8, 13, 14, 15, 16, 17, 18, 19, 20], []⟩ | false => none
theorem okf141 : OkF Tryz.prog 141 (Tryz.f141, ord141) := okF_of rfl Tryz.func141 Tryz.call141 (by kernel_rfl)
noncomputable def ord142 : Nat → Option RO := fun id => match Nat.beq id 3 with | true => some ⟨[0, 1, 3, 7, 15, 31, 63, 127, 255, 511, 1023, 2047, 4095, 8191, 16383, 32767, 65535, 131071, 262143, 524287, 1048575, 2097151, 4194303, 4194303, 12582911, 33554431, 67108863, 134217727, 268435455, 536870911, 268435455, 1342177279, 4294967295, 8589934591, 17179869183, 34359738367, 68719476735, 68719476735, 206158430207, 549755813887, 1099511627775], [0, 1, 2, 3, 4, 5, 6, 7, 8, 9, 10, 11, 12, 13, 14, 15, 16, 17, 18, 19, 20, 21, 22, 23, 24, 25, 26, 27, 28, 30, 31, 29, 32, 33, 34, 35, 36, 37, 38, 39, 40], []⟩ | false => match Nat.beq id 12 with | true => some ⟨[0, 0, 2, 0, 0, 0, 32, 0, 128, 0, 512, 0, 4095, 0, 16383], [0, 1, 2, 3, 4, 5, 7, 8, 9, 10, 11, 6, 12, 13, 14], [13]⟩ | false => match Nat.beq id 13 with | true => some ⟨[0, 0, 3, 0, 0, 31, 0, 0, 255, 0, 1023, 2047, 4095, 8191, 16383], [0, 3, 6, 9, 1, 2, 4, 5, 7, 8, 10, 11, 12, 13, 14], [4, 7]⟩ | false => none
theorem okf142 : OkF Tryz.prog 142 (Tryz.f142, ord142) := okF_of rfl Tryz.func142 Tryz.call142 (by kernel_rfl)
noncomputable def ord143 : Nat → Option RO := fun id => none
theorem okf143 : OkF Tryz.prog 143 (Tryz.f143, ord143) := okF_of rfl Tryz.func143 Tryz.call143 (by kernel_rfl)
noncomputable def ord144 : Nat → Option RO := fun id => match Nat.beq id 1 with | true => some ⟨[0, 1, 3, 7, 0, 16, 0, 64, 240, 511, 1023, 2047, 2047, 0, 12287, 32767], [0, 1, 2, 3, 4, 5, 6, 7, 8, 9, 10, 11, 12, 13, 14, 15], []⟩ | false => none
theorem okf144 : OkF Tryz.prog 144 (Tryz.f144, ord144) := okF_of rfl Tryz.func144 Tryz.call144 (by kernel_rfl)
noncomputable def ord145 : Nat → Option RO := fun id => none
theorem okf145 : OkF Tryz.prog 145 (Tryz.f145, ord145) := okF_of rfl Tryz.func145 Tryz.call145 (by kernel_rfl)
noncomputable def ord146 : Nat → Option RO := fun id => match Nat.beq id 4 with | true => some ⟨[0, 0, 0, 0, 12, 31, 63, 63, 255, 511], [0, 1, 2, 3, 4, 5, 6, 7, 8, 9], []⟩ | false => none
theorem okf146 : OkF Tryz.prog 146 (Tryz.f146, ord146) := okF_of rfl Tryz.func146 Tryz.call146 (by kernel_rfl)
noncomputable def ord147 : Nat → Option RO := fun id => match Nat.beq id 3 with | true => some ⟨[0, 1, 3, 7, 0, 16, 48, 127], [0, 1, 2, 3, 4, 5, 6, 7], []⟩ | false => none
theorem okf147 : OkF Tryz.prog 147 (Tryz.f147, ord147) := okF_of rfl Tryz.func147 Tryz.call147 (by kernel_rfl)
noncomputable def ord148 : Nat → Option RO := fun id => none
theorem okf148 : OkF Tryz.prog 148 (Tryz.f148, ord148) := okF_of rfl Tryz.func148 Tryz.call148 (by kernel_rfl)
noncomputable def ord149 : Nat → Option RO := fun id => match Nat.beq id 3 with | true => some ⟨[0, 1, 3, 7, 0, 16, 48, 112, 0, 511], [0, 1, 2, 3, 4, 5, 6, 7, 8, 9], []⟩ | false => none
theorem okf149 : OkF Tryz.prog 149 (Tryz.f149, ord149) := okF_of rfl Tryz.func149 Tryz.call149 (by kernel_rfl)
noncomputable def ord150 : Nat → Option RO := fun id => none
theorem okf150 : OkF Tryz.prog 150 (Tryz.f150, ord150) := okF_of rfl Tryz.func150 Tryz.call150 (by kernel_rfl)
noncomputable def ord151 : Nat → Option RO := fun id => none
theorem okf151 : OkF Tryz.prog 151 (Tryz.f151, ord151) := okF_of rfl Tryz.func151 Tryz.call151 (by kernel_rfl)
noncomputable def ord152 : Nat → Option RO := fun id => none
theorem okf152 : OkF Tryz.prog 152 (Tryz.f152, ord152) := okF_of rfl Tryz.func152 Tryz.call152 (by kernel_rfl)
noncomputable def ord153 : Nat → Option RO := fun id => none
theorem okf153 : OkF Tryz.prog 153 (Tryz.f153, ord153) := okF_of rfl Tryz.func153 Tryz.call153 (by kernel_rfl)
noncomputable def ord154 : Nat → Option RO := fun id => none
theorem okf154 : OkF Tryz.prog 154 (Tryz.f154, ord154) := okF_of rfl Tryz.func154 Tryz.call154 (by kernel_rfl)
noncomputable def ord155 : Nat → Option RO := fun id => none
theorem okf155 : OkF Tryz.prog 155 (Tryz.f155, ord155) := okF_of rfl Tryz.func155 Tryz.call155 (by kernel_rfl)
noncomputable def ord156 : Nat → Option RO := fun id => none
theorem okf156 : OkF Tryz.prog 156 (Tryz.f156, ord156) := okF_of rfl Tryz.func156 Tryz.call156 (by kernel_rfl)
noncomputable def ord157 : Nat → Option RO := fun id => none
theorem okf157 : OkF Tryz.prog 157 (Tryz.f157, ord157) := okF_of rfl Tryz.func157 Tryz.call157 (by kernel_rfl)
noncomputable def ord158 : Nat → Option RO := fun id => none
theorem okf158 : OkF Tryz.prog 158 (Tryz.f158, ord158) := okF_of rfl Tryz.func158 Tryz.call158 (by kernel_rfl)
noncomputable def ord159 : Nat → Option RO := fun id => none
theorem okf159 : OkF Tryz.prog 159 (Tryz.f159, ord159) := okF_of rfl Tryz.func159 Tryz.call159 (by kernel_rfl)
noncomputable def ord160 : Nat → Option RO := fun id => match Nat.beq id 1 with | true => some ⟨[0, 0, 0, 4, 15, 31, 63, 63, 0, 383, 1023], [0, 1, 2, 3, 4, 5, 6, 7, 8, 9, 10], [8]⟩ | false => none
theorem okf160 : OkF Tryz.prog 160 (Tryz.f160, ord160) := okF_of rfl Tryz.func160 Tryz.call160 (by kernel_rfl)
noncomputable def ord161 : Nat → Option RO := fun id => none
theorem okf161 : OkF Tryz.prog 161 (Tryz.f161, ord161) := okF_of rfl Tryz.func161 Tryz.call161 (by kernel_rfl)
noncomputable def ord162 : Nat → Option RO := fun id => match Nat.beq id 17 with | true => some ⟨[0, 1, 3, 7, 7, 7, 39, 119, 247, 7, 7, 1543, 3591, 8191, 16383, 32767, 65535], [0, 1, 2, 3, 4, 5, 6, 7, 8, 9, 10, 11, 12, 13, 14, 15, 16], []⟩ | false => none
theorem okf162 : OkF Tryz.prog 162 (Tryz.f162, ord162) := okF_of rfl Tryz.func162 Tryz.call162 (by kernel_rfl)
noncomputable def ord163 : Nat → Option RO := fun id => none
theorem okf163 : OkF Tryz.prog 163 (Tryz.f163, ord163) := okF_of rfl Tryz.func163 Tryz.call163 (by kernel_rfl)
noncomputable def ord164 : Nat → Option RO := fun id => none
theorem okf164 : OkF Tryz.prog 164 (Tryz.f164, ord164) := okF_of rfl Tryz.func164 Tryz.call164 (by kernel_rfl)
noncomputable def ord165 : Nat → Option RO := fun id => none
theorem okf165 : OkF Tryz.prog 165 (Tryz.f165, ord165) := okF_of rfl Tryz.func165 Tryz.call165 (by kernel_rfl)
noncomputable def ord168 : Nat → Option RO := fun id => none
theorem okf168 : OkF Tryz.prog 168 (Tryz.f168, ord168) := okF_of rfl Tryz.func168 Tryz.call168 (by kernel_rfl)
noncomputable def ord171 : Nat → Option RO := fun id => none
theorem okf171 : OkF Tryz.prog 171 (Tryz.f171, ord171) := okF_of rfl Tryz.func171 Tryz.call171 (by kernel_rfl)
noncomputable def ord172 : Nat → Option RO := fun id => match Nat.beq id 17 with | true => some ⟨[0, 1, 3, 7, 7, 23, 63, 127, 7, 7, 775, 1799, 4095, 8191, 16383], [0, 1, 2, 3, 4, 5, 6, 7, 8, 9, 10, 11, 12, 13, 14], []⟩ | false => none
theorem okf172 : OkF Tryz.prog 172 (Tryz.f172, ord172) := okF_of rfl Tryz.func172 Tryz.call172 (by kernel_rfl)
noncomputable def ord173 : Nat → Option RO := fun id => match Nat.beq id 2 with | true => some ⟨[0, 1, 3, 0, 8, 24, 56, 120, 248, 0, 1023], [0, 1, 2, 3, 4, 5, 6, 7, 8, 9, 10], []⟩ | false => none
theorem okf173 : OkF Tryz.prog 173 (Tryz.f173, ord173) := okF_of rfl Tryz.func173 Tryz.call173 (by kernel_rfl)
noncomputable def ord174 : Nat → Option RO := fun id => match Nat.beq id 0 with | true => some ⟨[0, 1, 3, 0, 8, 24, 56, 120, 248, 511], [0, 1, 2, 3, 4, 5, 6, 7, 8, 9], []⟩ | false => none
theorem okf174 : OkF Tryz.prog 174 (Tryz.f174, ord174) := okF_of rfl Tryz.func174 Tryz.call174 (by kernel_rfl)
noncomputable def ord175 : Nat → Option RO := fun id => match Nat.beq id 0 with | true => some ⟨[0, 1, 3, 0, 8, 24, 56, 120, 248, 511], [0, 1, 2, 3, 4, 5, 6, 7, 8, 9], []⟩ | false => none
theorem okf175 : OkF Tryz.prog 175 (Tryz.f175, ord175) := okF_of rfl Tryz.func175 Tryz.call175 (by kernel_rfl)
noncomputable def ord176 : Nat → Option RO := fun id => none
theorem okf176 : OkF Tryz.prog 176 (Tryz.f176, ord176) := okF_of rfl Tryz.func176 Tryz.call176 (by kernel_rfl)
noncomputable def ord177 : Nat → Option RO := fun id => match Nat.beq id 0 with | true => some ⟨[0, 1, 3, 7, 0, 16, 48, 0, 128, 384, 896, 1920, 3968, 8064, 16368, 32767, 65535, 131071], [0, 1, 2, 3, 4, 5, 6, 7, 8, 9, 10, 11, 12, 13, 14, 15, 16, 17], []⟩ | false => match Nat.beq id 7 with | true => some ⟨[0, 1, 3, 0, 8, 24, 0, 127], [0, 1, 2, 3, 4, 5, 6, 7], []⟩ | false => match Nat.beq id 8 with | true => some ⟨[0, 1, 3, 0, 8, 24, 63], [0, 1, 2, 3, 4, 5, 6], []⟩ | false => none
theorem okf177 : OkF Tryz.prog 177 (Tryz.f177, ord177) := okF_of rfl Tryz.func177 Tryz.call177 (by kernel_rfl)
noncomputable def ord178 : Nat → Option RO := fun id => match Nat.beq id 0 with | true => some ⟨[0, 1, 3, 0, 8, 24, 56, 120, 248, 511], [0, 1, 2, 3, 4, 5, 6, 7, 8, 9], []⟩ | false => none
theorem okf178 : OkF Tryz.prog 178 (Tryz.f178, ord178) := okF_of rfl Tryz.func178 Tryz.call178 (by kernel_rfl)
noncomputable def ord179 : Nat → Option RO := fun id => match Nat.beq id 0 with | true => some ⟨[0, 1, 3, 0, 8, 24, 56, 120, 248, 511], [0, 1, 2, 3, 4, 5, 6, 7, 8, 9], []⟩ | false => none
theorem okf179 : OkF Tryz.prog 179 (Tryz.f179, ord179) := okF_of rfl Tryz.func179 Tryz.call179 (by kernel_rfl)
noncomputable def ord180 : Nat → Option RO := fun id => match Nat.beq id 0 with | true => some ⟨[0, 1, 3, 0, 8, 24, 56, 120, 248, 511], [0, 1, 2, 3, 4, 5, 6, 7, 8, 9], []⟩ | false => none
theorem okf180 : OkF Tryz.prog 180 (Tryz.f180, ord180) := okF_of rfl Tryz.func180 Tryz.call180 (by kernel_rfl)
noncomputable def ord181 : Nat → Option RO := fun id => match Nat.beq id 0 with | true => some ⟨[0, 1, 3, 0, 8, 24, 56, 120, 248, 511], [0, 1, 2, 3, 4, 5, 6, 7, 8, 9], []⟩ | false => none
theorem okf181 : OkF Tryz.prog 181 (Tryz.f181, ord181) := okF_of rfl Tryz.func181 Tryz.call181 (by kernel_rfl)
noncomputable def ord182 : Nat → Option RO := fun id => none
theorem okf182 : OkF Tryz.prog 182 (Tryz.f182, ord182) := okF_of rfl Tryz.func182 Tryz.call182 (by kernel_rfl)
noncomputable def ord183 : Nat → Option RO := fun id => match Nat.beq id 0 with | true => some ⟨[0, 1, 3, 0, 8, 24, 56, 120, 248, 511], [0, 1, 2, 3, 4, 5, 6, 7, 8, 9], []⟩ | false => match Nat.beq id 1 with | true => some ⟨[0, 1, 3, 0, 8, 24, 56, 120, 248, 511], [0, 1, 2, 3, 4, 5, 6, 7, 8, 9], []⟩ | false => none
theorem okf183 : OkF Tryz.prog 183 (Tryz.f183, ord183) := okF_of rfl Tryz.func183 Tryz.call183 (by kernel_rfl)
noncomputable def ord184 : Nat → Option RO := fun id => none
theorem okf184 : OkF Tryz.prog 184 (Tryz.f184, ord184) := okF_of rfl Tryz.func184 Tryz.call184 (by kernel_rfl)
noncomputable def ord185 : Nat → Option RO := fun id => none
theorem okf185 : OkF Tryz.prog 185 (Tryz.f185, ord185) := okF_of rfl Tryz.func185 Tryz.call185 (by kernel_rfl)
noncomputable def ord186 : Nat → Option RO := fun id => none
theorem okf186 : OkF Tryz.prog 186 (Tryz.f186, ord186) := okF_of rfl Tryz.func186 Tryz.call186 (by kernel_rfl)
noncomputable def ord187 : Nat → Option RO := fun id => none
theorem okf187 : OkF Tryz.prog 187 (Tryz.f187, ord187) := okF_of rfl Tryz.func187 Tryz.call187 (by kernel_rfl)
noncomputable def ord188 : Nat → Option RO := fun id => match Nat.beq id 4 with | true => some ⟨[0, 1, 3, 7, 15, 31, 15, 79, 207, 511, 1023, 2047, 4095, 8191, 8191, 32767, 8191, 131071, 262143], [0, 1, 2, 3, 4, 6, 7, 8, 5, 9, 10, 11, 12, 13, 14, 15, 16, 17, 18], []⟩ | false => none
theorem okf188 : OkF Tryz.prog 188 (Tryz.f188, ord188) := okF_of rfl Tryz.func188 Tryz.call188 (by kernel_rfl)
noncomputable def ord189 : Nat → Option RO := fun id => none
theorem okf189 : OkF Tryz.prog 189 (Tryz.f189, ord189) := okF_of rfl Tryz.func189 Tryz.call189 (by kernel_rfl)
noncomputable def ord190 : Nat → Option RO := fun id => none
theorem okf190 : OkF Tryz.prog 190 (Tryz.f190, ord190) := okF_of rfl Tryz.func190 Tryz.call190 (by kernel_rfl)
noncomputable def ord191 : Nat → Option RO := fun id => none
theorem okf191 : OkF Tryz.prog 191 (Tryz.f191, ord191) := okF_of rfl Tryz.func191 Tryz.call191 (by kernel_rfl)
noncomputable def ord192 : Nat → Option RO := fun id => none
theorem okf192 : OkF Tryz.prog 192 (Tryz.f192, ord192) := okF_of rfl Tryz.func192 Tryz.call192 (by kernel_rfl)
noncomputable def ord193 : Nat → Option RO := fun id => none
theorem okf193 : OkF Tryz.prog 193 (Tryz.f193, ord193) := okF_of rfl Tryz.func193 Tryz.call193 (by kernel_rfl)
noncomputable def ord194 : Nat → Option RO := fun id => none
theorem okf194 : OkF Tryz.prog 194 (Tryz.f194, ord194) := okF_of rfl Tryz.func194 Tryz.call194 (by kernel_rfl)
noncomputable def ord195 : Nat → Option RO := fun id => none
theorem okf195 : OkF Tryz.prog 195 (Tryz.f195, ord195) := okF_of rfl Tryz.func195 Tryz.call195 (by kernel_rfl)
noncomputable def ord196 : Nat → Option RO := fun id => none
theorem okf196 : OkF Tryz.prog 196 (Tryz.f196, ord196) := okF_of rfl Tryz.func196 Tryz.call196 (by kernel_rfl)
noncomputable def ord197 : Nat → Option RO := fun id => none
theorem okf197 : OkF Tryz.prog 197 (Tryz.f197, ord197) := okF_of rfl Tryz.func197 Tryz.call197 (by kernel_rfl)
noncomputable def ord198 : Nat → Option RO := fun id => none
theorem okf198 : OkF Tryz.prog 198 (Tryz.f198, ord198) := okF_of rfl Tryz.func198 Tryz.call198 (by kernel_rfl)
noncomputable def ord199 : Nat → Option RO := fun id => match Nat.beq id 4 with | true => some ⟨[0, 1, 0, 4, 3, 19, 63, 127], [0, 1, 2, 3, 4, 5, 6, 7], []⟩ | false => none
theorem okf199 : OkF Tryz.prog 199 (Tryz.f199, ord199) := okF_of rfl Tryz.func199 Tryz.call199 (by kernel_rfl)
noncomputable def ord200 : Nat → Option RO := fun id => none
theorem okf200 : OkF Tryz.prog 200 (Tryz.f200, ord200) := okF_of rfl Tryz.func200 Tryz.call200 (by kernel_rfl)
noncomputable def ord201 : Nat → Option RO := fun id => none
theorem okf201 : OkF Tryz.prog 201 (Tryz.f201, ord201) := okF_of rfl Tryz.func201 Tryz.call201 (by kernel_rfl)
noncomputable def ord202 : Nat → Option RO := fun id => none
theorem okf202 : OkF Tryz.prog 202 (Tryz.f202, ord202) := okF_of rfl Tryz.func202 Tryz.call202 (by kernel_rfl)
noncomputable def ord203 : Nat → Option RO := fun id => none
theorem okf203 : OkF Tryz.prog 203 (Tryz.f203, ord203) := okF_of rfl Tryz.func203 Tryz.call203 (by kernel_rfl)
noncomputable def ord204 : Nat → Option RO := fun id => none
theorem okf204 : OkF Tryz.prog 204 (Tryz.f204, ord204) := okF_of rfl Tryz.func204 Tryz.call204 (by kernel_rfl)
noncomputable def ord205 : Nat → Option RO := fun id => none
theorem okf205 : OkF Tryz.prog 205 (Tryz.f205, ord205) := okF_of rfl Tryz.func205 Tryz.call205 (by kernel_rfl)
noncomputable def ord206 : Nat → Option RO := fun id => none
theorem okf206 : OkF Tryz.prog 206 (Tryz.f206, ord206) := okF_of rfl Tryz.func206 Tryz.call206 (by kernel_rfl)
noncomputable def ord207 : Nat → Option RO := fun id => match Nat.beq id 4 with | true => some ⟨[0, 1, 3, 7, 15, 31, 63, 127, 127, 383, 1023, 2047, 127, 8191, 16383, 32767, 65535], [0, 1, 2, 3, 4, 5, 6, 7, 8, 9, 10, 11, 12, 13, 14, 15, 16], []⟩ | false => none
theorem okf207 : OkF Tryz.prog 207 (Tryz.f207, ord207) := okF_of rfl Tryz.func207 Tryz.call207 (by kernel_rfl)
noncomputable def ord208 : Nat → Option RO := fun id => none
theorem okf208 : OkF Tryz.prog 208 (Tryz.f208, ord208) := okF_of rfl Tryz.func208 Tryz.call208 (by kernel_rfl)
noncomputable def ord209 : Nat → Option RO := fun id => none
theorem okf209 : OkF Tryz.prog 209 (Tryz.f209, ord209) := okF_of rfl Tryz.func209 Tryz.call209 (by kernel_rfl)
noncomputable def ord210 : Nat → Option RO := fun id => none
theorem okf210 : OkF Tryz.prog 210 (Tryz.f210, ord210) := okF_of rfl Tryz.func210 Tryz.call210 (by kernel_rfl)
noncomputable def ord211 : Nat → Option RO := fun id => none
theorem okf211 : OkF Tryz.prog 211 (Tryz.f211, ord211) := okF_of rfl Tryz.func211 Tryz.call211 (by kernel_rfl)
noncomputable def ord212 : Nat → Option RO := fun id => none
theorem okf212 : OkF Tryz.prog 212 (Tryz.f212, ord212) := okF_of rfl Tryz.func212 Tryz.call212 (by kernel_rfl)
noncomputable def ord213 : Nat → Option RO := fun id => none
theorem okf213 : OkF Tryz.prog 213 (Tryz.f213, ord213) := okF_of rfl Tryz.func213 Tryz.call213 (by kernel_rfl)
noncomputable def ord214 : Nat → Option RO := fun id => none
theorem okf214 : OkF Tryz.prog 214 (Tryz.f214, ord214) := okF_of rfl Tryz.func214 Tryz.call214 (by kernel_rfl)
noncomputable def ord215 : Nat → Option RO := fun id => none
theorem okf215 : OkF Tryz.prog 215 (Tryz.f215, ord215) := okF_of rfl Tryz.func215 Tryz.call215 (by kernel_rfl)
noncomputable def ord216 : Nat → Option RO := fun id => match Nat.beq id 21 with | true => some ⟨[0, 1, 0, 0, 0, 16, 48, 112, 0, 508, 1020, 2047, 4095, 8191], [0, 1, 2, 3, 4, 5, 6, 7, 8, 9, 10, 11, 12, 13], []⟩ | false => none
theorem okf216 : OkF Tryz.prog 216 (Tryz.f216, ord216) := okF_of rfl Tryz.func216 Tryz.call216 (by kernel_rfl)
noncomputable def ord217 : Nat → Option RO := fun id => none
theorem okf217 : OkF Tryz.prog 217 (Tryz.f217, ord217) := okF_of rfl Tryz.func217 Tryz.call217 (by kernel_rfl)
noncomputable def ord218 : Nat → Option RO := fun id => none
theorem okf218 : OkF Tryz.prog 218 (Tryz.f218, ord218) := okF_of rfl Tryz.func218 Tryz.call218 (by kernel_rfl)
noncomputable def ord219 : Nat → Option RO := fun id => match Nat.beq id 4 with | true => some ⟨[0, 0, 3, 7, 15, 15, 15, 111, 239, 15, 15, 1039, 3599, 7695, 16383, 32767, 65535], [0, 1, 2, 3, 4, 5, 6, 7, 8, 9, 10, 11, 12, 13, 14, 15, 16], []⟩ | false => match Nat.beq id 6 with | true => some ⟨[0, 0, 0, 0, 8, 0, 0, 64, 224, 480, 0, 0, 3072, 7168, 16355, 32739, 65535, 131071], [0, 1, 2, 3, 4, 5, 6, 7, 8, 9, 10, 11, 12, 13, 14, 15, 16, 17], []⟩ | false => none
theorem okf219 : OkF Tryz.prog 219 (Tryz.f219, ord219) := okF_of rfl Tryz.func219 Tryz.call219 (by kernel_rfl)
noncomputable def ord220 : Nat → Option RO := fun id => match Nat.beq id 10 with | true => some ⟨[0, 0, 0, 0, 0, 24, 0, 0, 0, 384, 960, 1984, 0, 0, 12288, 28672, 65475, 131011, 262143, 524287], [0, 1, 2, 3, 4, 5, 6, 7, 8, 9, 10, 11, 12, 13, 14, 15, 16, 17, 18, 19], []⟩ | false => none
theorem okf220 : OkF Tryz.prog 220 (Tryz.f220, ord220) := okF_of rfl Tryz.func220 Tryz.call220 (by kernel_rfl)
noncomputable def ord221 : Nat → Option RO := fun id => match Nat.beq id 10 with | true => some ⟨[0, 0, 0, 0, 0, 24, 0, 0, 0, 384, 960, 1984, 0, 0, 12288, 28672, 65475, 131011, 262143, 524287], [0, 1, 2, 3, 4, 5, 6, 7, 8, 9, 10, 11, 12, 13, 14, 15, 16, 17, 18, 19], []⟩ | false => none
theorem okf221 : OkF Tryz.prog 221 (Tryz.f221, ord221) := okF_of rfl Tryz.func221 Tryz.call221 (by kernel_rfl)
noncomputable def ord222 : Nat → Option RO := fun id => none
theorem okf222 : OkF Tryz.prog 222 (Tryz.f222, ord222) := okF_of rfl Tryz.func222 Tryz.call222 (by kernel_rfl)
noncomputable def ord223 : Nat → Option RO := fun id => match Nat.beq id 3 with | true => some ⟨[0, 0, 0, 0, 0, 0, 48, 112, 0, 0, 768, 1792, 4083, 8179, 16383, 32767], [0, 1, 2, 3, 4, 5, 6, 7, 8, 9, 10, 11, 12, 13, 14, 15], []⟩ | false => none
theorem okf223 : OkF Tryz.prog 223 (Tryz.f223, ord223) := okF_of rfl Tryz.func223 Tryz.call223 (by kernel_rfl)
noncomputable def ord224 : Nat → Option RO := fun id => match Nat.beq id 5 with | true => some ⟨[0, 0, 3, 7, 15, 15, 15, 111, 239, 15, 15, 1039, 3599, 7695, 16383, 32767, 65535, 131071], [0, 1, 2, 3, 4, 5, 6, 7, 8, 9, 10, 11, 12, 13, 14, 15, 16, 17], []⟩ | false => match Nat.beq id 11 with | true => some ⟨[0, 0, 0, 0, 8, 0, 0, 64, 224, 480, 0, 0, 3072, 7168, 16355, 32739, 65535, 131071], [0, 1, 2, 3, 4, 5, 6, 7, 8, 9, 10, 11, 12, 13, 14, 15, 16, 17], []⟩ | false => match Nat.beq id 16 with | true => some ⟨[0, 0, 0, 6, 14, 0, 0, 64, 224, 480, 1023, 2047, 4095], [0, 1, 2, 3, 4, 5, 6, 7, 8, 9, 10, 11, 12], []⟩ | false => match Nat.beq id 17 with | true => some ⟨[0, 0, 0, 0, 8, 0, 0, 64, 224, 480, 0, 0, 3072, 7168, 16355, 32739, 65535, 131071], [0, 1, 2, 3, 4, 5, 6, 7, 8, 9, 10, 11, 12, 13, 14, 15, 16, 17], []⟩ | false => match Nat.beq id 22 with | true => some ⟨[0, 0, 0, 6, 14, 0, 0, 64, 224, 480, 1023, 2047, 4095], [0, 1, 2, 3, 4, 5, 6, 7, 8, 9, 10, 11, 12], []⟩ | false => match Nat.beq id 23 with | true => some ⟨[0, 0, 0, 0, 8, 0, 0, 64, 224, 480, 0, 0, 3072, 7168, 16355, 32739, 65535, 131071], [0, 1, 2, 3, 4, 5, 6, 7, 8, 9, 10, 11, 12, 13, 14, 15, 16, 17], []⟩ | false => none
theorem okf224 : OkF Tryz.prog 224 (Tryz.f224, ord224) := okF_of rfl Tryz.func224 Tryz.call224 (by kernel_rfl)
noncomputable def ord225 : Nat → Option RO := fun id => match Nat.beq id 1 with | true => some ⟨[0, 0, 0, 0, 0, 0, 48, 112, 0, 0, 768, 1792, 4083, 8179, 16383, 32767], [0, 1, 2, 3, 4, 5, 6, 7, 8, 9, 10, 11, 12, 13, 14, 15], []⟩ | false => match Nat.beq id 3 with | true => some ⟨[0, 0, 3, 7, 15, 15, 15, 111, 239, 15, 15, 1551, 3599, 8191, 16383, 32767, 65535], [0, 1, 2, 3, 4, 5, 6, 7, 8, 9, 10, 11, 12, 13, 14, 15, 16], []⟩ | false => match Nat.beq id 5 with | true => some ⟨[0, 0, 3, 7, 15, 15, 15, 111, 239, 15, 15, 1551, 3599, 8191, 16383, 32767], [0, 1, 2, 3, 4, 5, 6, 7, 8, 9, 10, 11, 12, 13, 14, 15], []⟩ | false => match Nat.beq id 8 with | true => some ⟨[0, 0, 0, 0, 0, 0, 48, 112, 0, 0, 768, 1792, 4083, 8179, 16383, 32767], [0, 1, 2, 3, 4, 5, 6, 7, 8, 9, 10, 11, 12, 13, 14, 15], []⟩ | false => none
theorem okf225 : OkF Tryz.prog 225 (Tryz.f225, ord225) := okF_of rfl Tryz.func225 Tryz.call225 (by kernel_rfl)
noncomputable def ord226 : Nat → Option RO := fun id => match Nat.beq id 1 with | true => some ⟨[0, 0, 0, 0, 0, 0, 48, 112, 0, 0, 768, 1792, 4083, 8179, 16383, 32767], [0, 1, 2, 3, 4, 5, 6, 7, 8, 9, 10, 11, 12, 13, 14, 15], []⟩ | false => match Nat.beq id 3 with | true => some ⟨[0, 0, 3, 7, 15, 15, 15, 111, 239, 15, 15, 1551, 3599, 8191, 16383, 32767], [0, 1, 2, 3, 4, 5, 6, 7, 8, 9, 10, 11, 12, 13, 14, 15], []⟩ | false => match Nat.beq id 5 with | true => some ⟨[0, 0, 3, 7, 15, 15, 15, 111, 239, 15, 15, 1551, 3599, 8191, 16383, 32767, 65535], [0, 1, 2, 3, 4, 5, 6, 7, 8, 9, 10, 11, 12, 13, 14, 15, 16], []⟩ | false => match Nat.beq id 8 with | true => some ⟨[0, 0, 0, 0, 0, 0, 48, 112, 0, 0, 768, 1792, 4083, 8179, 16383, 32767], [0, 1, 2, 3, 4, 5, 6, 7, 8, 9, 10, 11, 12, 13, 14, 15], []⟩ | false => match Nat.beq id 10 with | true => some ⟨[0, 0, 0, 0, 0, 0, 48, 112, 0, 0, 768, 1792, 4083, 8179, 16383, 32767], [0, 1, 2, 3, 4, 5, 6, 7, 8, 9, 10, 11, 12, 13, 14, 15], []⟩ | false => match Nat.beq id 13 with | true => some ⟨[0, 0, 3, 7, 15, 15, 15, 111, 239, 15, 15, 1551, 3599, 8191, 16383, 32767], [0, 1, 2, 3, 4, 5, 6, 7, 8, 9, 10, 11, 12, 13, 14, 15], []⟩ | false => match Nat.beq id 15 with | true => some ⟨[0, 0, 3, 7, 15, 15, 15, 111, 239, 15, 15, 1551, 3599, 8191, 16383, 32767, 65535], [0, 1, 2, 3, 4, 5, 6, 7, 8, 9, 10, 11, 12, 13, 14, 15, 16], []⟩ | false => match Nat.beq id 18 with | true => some ⟨[0, 0, 0, 0, 0, 0, 48, 112, 0, 0, 768, 1792, 4083, 8179, 16383, 32767], [0, 1, 2, 3, 4, 5, 6, 7, 8, 9, 10, 11, 12, 13, 14, 15], []⟩ | false => match Nat.beq id 21 with | true => some ⟨[0, 0, 0, 0, 0, 0, 48, 112, 0, 0, 768, 1792, 4083, 8179, 16383, 32767], [0, 1, 2, 3, 4, 5, 6, 7, 8, 9, 10, 11, 12, 13, 14, 15], []⟩ | false => none
theorem okf226 : OkF Tryz.prog 226 (Tryz.f226, ord226) := okF_of rfl Tryz.func226 Tryz.call226 (by kernel_rfl)
noncomputable def ord227 : Nat → Option RO := fun id => none
theorem okf227 : OkF Tryz.prog 227 (Tryz.f227, ord227) := okF_of rfl Tryz.func227 Tryz.call227 (by kernel_rfl)
noncomputable def ord228 : Nat → Option RO := fun id => none
theorem okf228 : OkF Tryz.prog 228 (Tryz.f228, ord228) := okF_of rfl Tryz.func228 Tryz.call228 (by kernel_rfl)
noncomputable def ord238 : Nat → Option RO := fun id => match Nat.beq id 4 with | true => some ⟨[0, 0, 3, 7, 15, 15, 15, 111, 239, 15, 15, 1039, 3599, 7695, 16383, 32767, 65535], [0, 1, 2, 3, 4, 5, 6, 7, 8, 9, 10, 11, 12, 13, 14, 15, 16], []⟩ | false => match Nat.beq id 6 with | true => some ⟨[0, 0, 0, 0, 8, 0, 0, 64, 224, 480, 0, 0, 3072, 7168, 16355, 32739, 65535, 131071], [0, 1, 2, 3, 4, 5, 6, 7, 8, 9, 10, 11, 12, 13, 14, 15, 16, 17], []⟩ | false => none
theorem okf238 : OkF Tryz.prog 238 (Tryz.f238, ord238) := okF_of rfl Tryz.func238 Tryz.call238 (by kernel_rfl)
noncomputable def ord239 : Nat → Option RO := fun id => match Nat.beq id 5 with | true => some ⟨[0, 0, 0, 6, 14, 0, 0, 96, 224, 511, 1023], [0, 1, 2, 3, 4, 5, 6, 7, 8, 9, 10], []⟩ | false => match Nat.beq id 11 with | true => some ⟨[0, 0, 0, 0, 8, 0, 0, 64, 224, 480, 0, 0, 3072, 7168, 16355, 32739, 65535, 131071], [0, 1, 2, 3, 4, 5, 6, 7, 8, 9, 10, 11, 12, 13, 14, 15, 16, 17], []⟩ | false => match Nat.beq id 17 with | true => some ⟨[0, 0, 0, 6, 14, 0, 0, 96, 224, 511, 1023, 2047], [0, 1, 2, 3, 4, 5, 6, 7, 8, 9, 10, 11], []⟩ | false => match Nat.beq id 23 with | true => some ⟨[0, 0, 0, 0, 8, 0, 0, 64, 224, 480, 0, 0, 3072, 7168, 16355, 32739, 65535, 131071], [0, 1, 2, 3, 4, 5, 6, 7, 8, 9, 10, 11, 12, 13, 14, 15, 16, 17], []⟩ | false => match Nat.beq id 35 with | true => some ⟨[0, 0, 0, 0, 12, 30, 62, 0, 0, 384, 896, 2047, 4095, 8191], [0, 1, 2, 3, 4, 5, 6, 7, 8, 9, 10, 11, 12, 13], []⟩ | false => none
theorem okf239 : OkF Tryz.prog 239 (Tryz.f239, ord239) := okF_of rfl Tryz.func239 Tryz.call239 (by kernel_rfl)
noncomputable def ord249 : Nat → Option RO := fun id => match Nat.beq id 4 with | true => some ⟨[0, 0, 3, 7, 15, 15, 63, 127, 15, 15, 527, 1807, 3855, 8191, 16383], [0, 1, 2, 3, 4, 5, 6, 7, 8, 9, 10, 11, 12, 13, 14], []⟩ | false => match Nat.beq id 6 with | true => some ⟨[0, 0, 0, 0, 8, 0, 0, 64, 224, 480, 0, 0, 3072, 7168, 16355, 32739, 65535, 131071], [0, 1, 2, 3, 4, 5, 6, 7, 8, 9, 10, 11, 12, 13, 14, 15, 16, 17], []⟩ | false => none
theorem okf249 : OkF Tryz.prog 249 (Tryz.f249, ord249) := okF_of rfl Tryz.func249 Tryz.call249 (by kernel_rfl)
noncomputable def ord250 : Nat → Option RO := fun id => match Nat.beq id 10 with | true => some ⟨[0, 0, 0, 0, 0, 24, 0, 0, 0, 384, 960, 1984, 0, 0, 12288, 28672, 65475, 131011, 262143, 524287], [0, 1, 2, 3, 4, 5, 6, 7, 8, 9, 10, 11, 12, 13, 14, 15, 16, 17, 18, 19], []⟩ | false => none
theorem okf250 : OkF Tryz.prog 250 (Tryz.f250, ord250) := okF_of rfl Tryz.func250 Tryz.call250 (by kernel_rfl)
noncomputable def ord251 : Nat → Option RO := fun id => match Nat.beq id 10 with | true => some ⟨[0, 0, 0, 0, 0, 24, 0, 0, 0, 384, 960, 1984, 0, 0, 12288, 28672, 65475, 131011, 262143, 524287], [0, 1, 2, 3, 4, 5, 6, 7, 8, 9, 10, 11, 12, 13, 14, 15, 16, 17, 18, 19], []⟩ | false => none
theorem okf251 : OkF Tryz.prog 251 (Tryz.f251, ord251) := okF_of rfl Tryz.func251 Tryz.call251 (by kernel_rfl)
noncomputable def ord252 : Nat → Option RO := fun id => none
theorem okf252 : OkF Tryz.prog 252 (Tryz.f252, ord252) := okF_of rfl Tryz.func252 Tryz.call252 (by kernel_rfl)
noncomputable def ord253 : Nat → Option RO := fun id => match Nat.beq id 3 with | true => some ⟨[0, 0, 0, 0, 0, 0, 48, 112, 0, 0, 768, 1792, 4083, 8179, 16383, 32767], [0, 1, 2, 3, 4, 5, 6, 7, 8, 9, 10, 11, 12, 13, 14, 15], []⟩ | false => none
theorem okf253 : OkF Tryz.prog 253 (Tryz.f253, ord253) := okF_of rfl Tryz.func253 Tryz.call253 (by kernel_rfl)
noncomputable def ord254 : Nat → Option RO := fun id => match Nat.beq id 5 with | true => some ⟨[0, 0, 3, 7, 15, 15, 63, 127, 15, 15, 527, 1807, 3855, 8191, 16383, 32767], [0, 1, 2, 3, 4, 5, 6, 7, 8, 9, 10, 11, 12, 13, 14, 15], []⟩ | false => match Nat.beq id 11 with | true => some ⟨[0, 0, 0, 0, 8, 0, 0, 64, 224, 480, 0, 0, 3072, 7168, 16355, 32739, 65535, 131071], [0, 1, 2, 3, 4, 5, 6, 7, 8, 9, 10, 11, 12, 13, 14, 15, 16, 17], []⟩ | false => match Nat.beq id 16 with | true => some ⟨[0, 0, 3, 7, 0, 0, 32, 112, 240, 511, 1023], [0, 1, 2, 3, 4, 5, 6, 7, 8, 9, 10], []⟩ | false => match Nat.beq id 17 with | true => some ⟨[0, 0, 0, 0, 8, 0, 0, 64, 224, 480, 0, 0, 3072, 7168, 16355, 32739, 65535, 131071], [0, 1, 2, 3, 4, 5, 6, 7, 8, 9, 10, 11, 12, 13, 14, 15, 16, 17], []⟩ | false => match Nat.beq id 22 with | true => some ⟨[0, 0, 3, 7, 0, 0, 32, 112, 240, 511, 1023], [0, 1, 2, 3, 4, 5, 6, 7, 8, 9, 10], []⟩ | false => match Nat.beq id 23 with | true => some ⟨[0, 0, 0, 0, 8, 0, 0, 64, 224, 480, 0, 0, 3072, 7168, 16355, 32739, 65535, 131071], [0, 1, 2, 3, 4, 5, 6, 7, 8, 9, 10, 11, 12, 13, 14, 15, 16, 17], []⟩ | false => none
theorem okf254 : OkF Tryz.prog 254 (Tryz.f254, ord254) := okF_of rfl Tryz.func254 Tryz.call254 (by kernel_rfl)
noncomputable def ord255 : Nat → Option RO := fun id => none
theorem okf255 : OkF Tryz.prog 255 (Tryz.f255, ord255) := okF_of rfl Tryz.func255 Tryz.call255 (by kernel_rfl)
noncomputable def ord256 : Nat → Option RO := fun id => match Nat.beq id 1 with | true => some ⟨[0, 0, 0, 0, 0, 0, 48, 112, 0, 0, 768, 1792, 4083, 8179, 16383, 32767], [0, 1, 2, 3, 4, 5, 6, 7, 8, 9, 10, 11, 12, 13, 14, 15], []⟩ | false => match Nat.beq id 3 with | true => some ⟨[0, 0, 3, 7, 15, 15, 63, 127, 15, 15, 783, 1807, 4095, 8191, 16383], [0, 1, 2, 3, 4, 5, 6, 7, 8, 9, 10, 11, 12, 13, 14], []⟩ | false => match Nat.beq id 5 with | true => some ⟨[0, 0, 3, 7, 15, 15, 63, 127, 15, 15, 783, 1807, 4095, 8191], [0, 1, 2, 3, 4, 5, 6, 7, 8, 9, 10, 11, 12, 13], []⟩ | false => match Nat.beq id 8 with | true => some ⟨[0, 0, 0, 0, 0, 0, 48, 112, 0, 0, 768, 1792, 4083, 8179, 16383, 32767], [0, 1, 2, 3, 4, 5, 6, 7, 8, 9, 10, 11, 12, 13, 14, 15], []⟩ | false => none
theorem okf256 : OkF Tryz.prog 256 (Tryz.f256, ord256) := okF_of rfl Tryz.func256 Tryz.call256 (by kernel_rfl)
noncomputable def ord257 : Nat → Option RO := fun id => match Nat.beq id 1 with | true => some ⟨[0, 0, 0, 0, 0, 0, 48, 112, 0, 0, 768, 1792, 4083, 8179, 16383, 32767], [0, 1, 2, 3, 4, 5, 6, 7, 8, 9, 10, 11, 12, 13, 14, 15], []⟩ | false => match Nat.beq id 3 with | true => some ⟨[0, 0, 3, 7, 15, 15, 63, 127, 15, 15, 783, 1807, 4095, 8191], [0, 1, 2, 3, 4, 5, 6, 7, 8, 9, 10, 11, 12, 13], []⟩ | false => match Nat.beq id 5 with | true => some ⟨[0, 0, 3, 7, 15, 15, 63, 127, 15, 15, 783, 1807, 4095, 8191, 16383], [0, 1, 2, 3, 4, 5, 6, 7, 8, 9, 10, 11, 12, 13, 14], []⟩ | false => match Nat.beq id 8 with | true => some ⟨[0, 0, 0, 0, 0, 0, 48, 112, 0, 0, 768, 1792, 4083, 8179, 16383, 32767], [0, 1, 2, 3, 4, 5, 6, 7, 8, 9, 10, 11, 12, 13, 14, 15], []⟩ | false => match Nat.beq id 10 with | true => some ⟨[0, 0, 0, 0, 0, 0, 48, 112, 0, 0, 768, 1792, 4083, 8179, 16383, 32767], [0, 1, 2, 3, 4, 5, 6, 7, 8, 9, 10, 11, 12, 13, 14, 15], []⟩ | false => match Nat.beq id 13 with | true => some ⟨[0, 0, 3, 7, 15, 15, 63, 127, 15, 15, 783, 1807, 4095, 8191], [0, 1, 2, 3, 4, 5, 6, 7, 8, 9, 10, 11, 12, 13], []⟩ | false => match Nat.beq id 15 with | true => some ⟨[0, 0, 3, 7, 15, 15, 63, 127, 15, 15, 783, 1807, 4095, 8191, 16383], [0, 1, 2, 3, 4, 5, 6, 7, 8, 9, 10, 11, 12, 13, 14], []⟩ | false => match Nat.beq id 18 with | true => some ⟨[0, 0, 0, 0, 0, 0, 48, 112, 0, 0, 768, 1792, 4083, 8179, 16383, 32767], [0, 1, 2, 3, 4, 5, 6, 7, 8, 9, 10, 11, 12, 13, 14, 15], []⟩ | false => match Nat.beq id 21 with | true => some ⟨[0, 0, 0, 0, 0, 0, 48, 112, 0, 0, 768, 1792, 4083, 8179, 16383, 32767], [0, 1, 2, 3, 4, 5, 6, 7, 8, 9, 10, 11, 12, 13, 14, 15], []⟩ | false => none
theorem okf257 : OkF Tryz.prog 257 (Tryz.f257, ord257) := okF_of rfl Tryz.func257 Tryz.call257 (by kernel_rfl)
noncomputable def ord258 : Nat → Option RO := fun id => match Nat.beq id 3 with | true => some ⟨[0, 1, 3, 7, 0, 16, 48, 112, 255], [0, 1, 2, 3, 4, 5, 6, 7, 8], []⟩ | false => none
theorem okf258 : OkF Tryz.prog 258 (Tryz.f258, ord258) := okF_of rfl Tryz.func258 Tryz.call258 (by kernel_rfl)
noncomputable def ord259 : Nat → Option RO := fun id => none
theorem okf259 : OkF Tryz.prog 259 (Tryz.f259, ord259) := okF_of rfl Tryz.func259 Tryz.call259 (by kernel_rfl)
noncomputable def ord260 : Nat → Option RO := fun id => match Nat.beq id 0 with | true => some ⟨[0, 1, 3, 7, 0, 16, 48, 0, 128, 384, 896, 1920, 3968, 8064, 0, 32752, 65535, 131071, 262143], [0, 1, 2, 3, 4, 5, 6, 7, 8, 9, 10, 11, 12, 13, 14, 15, 16, 17, 18], []⟩ | false => match Nat.beq id 6 with | true => some ⟨[0, 1, 3, 0, 8, 24, 56, 120, 248, 504, 1016, 2040, 504, 8184, 16376, 32767], [0, 1, 2, 3, 4, 5, 6, 7, 8, 9, 10, 11, 12, 13, 14, 15], []⟩ | false => none
theorem okf260 : OkF Tryz.prog 260 (Tryz.f260, ord260) := okF_of rfl Tryz.func260 Tryz.call260 (by kernel_rfl)
noncomputable def ord261 : Nat → Option RO := fun id => none
theorem okf261 : OkF Tryz.prog 261 (Tryz.f261, ord261) := okF_of rfl Tryz.func261 Tryz.call261 (by kernel_rfl)
noncomputable def ord262 : Nat → Option RO := fun id => none
theorem okf262 : OkF Tryz.prog 262 (Tryz.f262, ord262) := okF_of rfl Tryz.func262 Tryz.call262 (by kernel_rfl)
noncomputable def ord263 : Nat → Option RO := fun id => none
theorem okf263 : OkF Tryz.prog 263 (Tryz.f263, ord263) := okF_of rfl Tryz.func263 Tryz.call263 (by kernel_rfl)
noncomputable def ord264 : Nat → Option RO := fun id => none
theorem okf264 : OkF Tryz.prog 264 (Tryz.f264, ord264) := okF_of rfl Tryz.func264 Tryz.call264 (by kernel_rfl)
noncomputable def ord265 : Nat → Option RO := fun id => none
theorem okf265 : OkF Tryz.prog 265 (Tryz.f265, ord265) := okF_of rfl Tryz.func265 Tryz.call265 (by kernel_rfl)
noncomputable def ord266 : Nat → Option RO := fun id => none
theorem okf266 : OkF Tryz.prog 266 (Tryz.f266, ord266) := okF_of rfl Tryz.func266 Tryz.call266 (by kernel_rfl)
noncomputable def ord267 : Nat → Option RO := fun id => none
theorem okf267 : OkF Tryz.prog 267 (Tryz.f267, ord267) := okF_of rfl Tryz.func267 Tryz.call267 (by kernel_rfl)
noncomputable def ord268 : Nat → Option RO := fun id => none
theorem okf268 : OkF Tryz.prog 268 (Tryz.f268, ord268) := okF_of rfl Tryz.func268 Tryz.call268 (by kernel_rfl)
noncomputable def ord269 : Nat → Option RO := fun id => none
theorem okf269 : OkF Tryz.prog 269 (Tryz.f269, ord269) := okF_of rfl Tryz.func269 Tryz.call269 (by kernel_rfl)
noncomputable def ord270 : Nat → Option RO := fun id => none
theorem okf270 : OkF Tryz.prog 270 (Tryz.f270, ord270) := okF_of rfl Tryz.func270 Tryz.call270 (by kernel_rfl)
noncomputable def ord271 : Nat → Option RO := fun id => none
theorem okf271 : OkF Tryz.prog 271 (Tryz.f271, ord271) := okF_of rfl Tryz.func271 Tryz.call271 (by kernel_rfl)
noncomputable def ord272 : Nat → Option RO := fun id => none
theorem okf272 : OkF Tryz.prog 272 (Tryz.f272, ord272) := okF_of rfl Tryz.func272 Tryz.call272 (by kernel_rfl)
noncomputable def ord273 : Nat → Option RO := fun id => none
theorem okf273 : OkF Tryz.prog 273 (Tryz.f273, ord273) := okF_of rfl Tryz.func273 Tryz.call273 (by kernel_rfl)
noncomputable def ord274 : Nat → Option RO := fun id => none
theorem okf274 : OkF Tryz.prog 274 (Tryz.f274, ord274) := okF_of rfl Tryz.func274 Tryz.call274 (by kernel_rfl)
noncomputable def ord275 : Nat → Option RO := fun id => none
theorem okf275 : OkF Tryz.prog 275 (Tryz.f275, ord275) := okF_of rfl Tryz.func275 Tryz.call275 (by kernel_rfl)
noncomputable def ord276 : Nat → Option RO := fun id => none
theorem okf276 : OkF Tryz.prog 276 (Tryz.f276, ord276) := okF_of rfl Tryz.func276 Tryz.call276 (by kernel_rfl)
noncomputable def ord277 : Nat → Option RO := fun id => none
theorem okf277 : OkF Tryz.prog 277 (Tryz.f277, ord277) := okF_of rfl Tryz.func277 Tryz.call277 (by kernel_rfl)
noncomputable def ord278 : Nat → Option RO := fun id => none
theorem okf278 : OkF Tryz.prog 278 (Tryz.f278, ord278) := okF_of rfl Tryz.func278 Tryz.call278 (by kernel_rfl)
noncomputable def ord279 : Nat → Option RO := fun id => match Nat.beq id 2 with | true => some ⟨[0, 0, 0, 4, 12, 28, 0, 64, 192, 508, 0, 1024, 3072, 7168, 0, 16384, 64512, 16381, 147453, 409597, 1048575, 2097151, 4194303], [0, 1, 2, 3, 4, 5, 6, 10, 11, 12, 13, 14, 15, 16, 7, 8, 9, 17, 18, 19, 20, 21, 22], []⟩ | false => none
theorem okf279 : OkF Tryz.prog 279 (Tryz.f279, ord279) := okF_of rfl Tryz.func279 Tryz.call279 (by kernel_rfl)
noncomputable def ord280 : Nat → Option RO := fun id => match Nat.beq id 5 with | true => some ⟨[0, 1, 3, 7, 0, 16, 48, 112, 0, 496, 0, 1024, 3072, 7168, 16383, 32767, 65535], [0, 1, 2, 3, 4, 5, 6, 7, 8, 9, 10, 11, 12, 13, 14, 15, 16], []⟩ | false => none
theorem okf280 : OkF Tryz.prog 280 (Tryz.f280, ord280) := okF_of rfl Tryz.func280 Tryz.call280 (by kernel_rfl)
noncomputable def ord281 : Nat → Option RO := fun id => none
theorem okf281 : OkF Tryz.prog 281 (Tryz.f281, ord281) := okF_of rfl Tryz.func281 Tryz.call281 (by kernel_rfl)
noncomputable def ord282 : Nat → Option RO := fun id => none
theorem okf282 : OkF Tryz.prog 282 (Tryz.f282, ord282) := okF_of rfl Tryz.func282 Tryz.call282 (by kernel_rfl)
noncomputable def ord283 : Nat → Option RO := fun id => none
theorem okf283 : OkF Tryz.prog 283 (Tryz.f283, ord283) := okF_of rfl Tryz.func283 Tryz.call283 (by kernel_rfl)
noncomputable def ord284 : Nat → Option RO := fun id => none
theorem okf284 : OkF Tryz.prog 284 (Tryz.f284, ord284) := okF_of rfl Tryz.func284 Tryz.call284 (by kernel_rfl)
noncomputable def ord285 : Nat → Option RO := fun id => match Nat.beq id 1 with | true => some ⟨[0, 1, 3, 0, 8, 24, 7, 127], [0, 1, 2, 3, 4, 5, 6, 7], []⟩ | false => none
theorem okf285 : OkF Tryz.prog 285 (Tryz.f285, ord285) := okF_of rfl Tryz.func285 Tryz.call285 (by kernel_rfl)
noncomputable def ord286 : Nat → Option RO := fun id => match Nat.beq id 18 with | true => some ⟨[0, 1, 3, 7, 3, 3, 51, 115, 255, 511, 1023], [0, 1, 2, 3, 4, 5, 6, 7, 8, 9, 10], []⟩ | false => match Nat.beq id 20 with | true => some ⟨[0, 0, 1, 7], [0, 1, 2, 3], []⟩ | false => none
theorem okf286 : OkF Tryz.prog 286 (Tryz.f286, ord286) := okF_of rfl Tryz.func286 Tryz.call286 (by kernel_rfl)
noncomputable def ord287 : Nat → Option RO := fun id => none
theorem okf287 : OkF Tryz.prog 287 (Tryz.f287, ord287) := okF_of rfl Tryz.func287 Tryz.call287 (by kernel_rfl)
noncomputable def ord288 : Nat → Option RO := fun id => none
theorem okf288 : OkF Tryz.prog 288 (Tryz.f288, ord288) := okF_of rfl Tryz.func288 Tryz.call288 (by kernel_rfl)
noncomputable def ord289 : Nat → Option RO := fun id => match Nat.beq id 3 with | true => some ⟨[0, 1, 0, 7, 15, 31, 31, 31, 31, 415, 991, 2015, 31, 31, 31, 24607, 57375, 127007, 258079, 524287, 1048575, 2097151], [0, 1, 2, 3, 4, 5, 6, 7, 8, 9, 10, 11, 12, 13, 14, 15, 16, 17, 18, 19, 20, 21], []⟩ | false => match Nat.beq id 5 with | true => some ⟨[0, 0, 0, 0, 12, 30, 62, 0, 0, 0, 768, 1920, 3968, 8191, 16383, 32767], [0, 1, 2, 3, 4, 5, 6, 7, 8, 9, 10, 11, 12, 13, 14, 15], []⟩ | false => match Nat.beq id 6 with | true => some ⟨[0, 0, 0, 6, 0, 0, 0, 96, 0, 0, 0, 1536, 3840, 7936, 0, 0, 0, 98304, 245760, 507904, 1048335, 2096911, 4194303, 8388607], [0, 1, 2, 3, 4, 5, 6, 7, 8, 9, 10, 11, 12, 13, 14, 15, 16, 17, 18, 19, 20, 21, 22, 23], []⟩ | false => none
theorem okf289 : OkF Tryz.prog 289 (Tryz.f289, ord289) := okF_of rfl Tryz.func289 Tryz.call289 (by kernel_rfl)
noncomputable def ord290 : Nat → Option RO := fun id => none
theorem okf290 : OkF Tryz.prog 290 (Tryz.f290, ord290) := okF_of rfl Tryz.func290 Tryz.call290 (by kernel_rfl)
noncomputable def ord291 : Nat → Option RO := fun id => match Nat.beq id 1 with | true => some ⟨[0, 1, 3, 0, 8, 24, 56, 127, 255, 511], [0, 1, 2, 3, 4, 5, 6, 7, 8, 9], []⟩ | false => match Nat.beq id 2 with | true => some ⟨[0, 1, 3, 0, 8, 24, 56, 127, 255, 511], [0, 1, 2, 3, 4, 5, 6, 7, 8, 9], []⟩ | false => match Nat.beq id 3 with | true => some ⟨[0, 1, 3, 0, 8, 24, 56, 127, 255, 511], [0, 1, 2, 3, 4, 5, 6, 7, 8, 9], []⟩ | false => none
theorem okf291 : OkF Tryz.prog 291 (Tryz.f291, ord291) := okF_of rfl Tryz.func291 Tryz.call291 (by kernel_rfl)
noncomputable def ord292 : Nat → Option RO := fun id => none
theorem okf292 : OkF Tryz.prog 292 (Tryz.f292, ord292) := okF_of rfl Tryz.func292 Tryz.call292 (by kernel_rfl)
noncomputable def ord293 : Nat → Option RO := fun id => none
theorem okf293 : OkF Tryz.prog 293 (Tryz.f293, ord293) := okF_of rfl Tryz.func293 Tryz.call293 (by kernel_rfl)
noncomputable def ord297 : Nat → Option RO := fun id => none
theorem okf297 : OkF Tryz.prog 297 (Tryz.f297, ord297) := okF_of rfl Tryz.func297 Tryz.call297 (by kernel_rfl)
noncomputable def ord302 : Nat → Option RO := fun id => match Nat.beq id 3 with | true => some ⟨[0, 1, 0, 7, 15, 31, 31, 31, 223, 511, 1023, 31, 31, 31, 12319, 28703, 63519, 129055, 262143, 524287], [0, 1, 2, 3, 4, 5, 6, 7, 8, 9, 10, 11, 12, 13, 14, 15, 16, 17, 18, 19], []⟩ | false => match Nat.beq id 5 with | true => some ⟨[0, 0, 0, 6, 15, 31, 0, 0, 0, 384, 960, 1984, 4095, 8191], [0, 1, 2, 3, 4, 5, 6, 7, 8, 9, 10, 11, 12, 13], []⟩ | false => match Nat.beq id 6 with | true => some ⟨[0, 0, 0, 6, 0, 0, 0, 96, 0, 0, 0, 1536, 3840, 7936, 0, 0, 0, 98304, 245760, 507904, 1048335, 2096911, 4194303, 8388607], [0, 1, 2, 3, 4, 5, 6, 7, 8, 9, 10, 11, 12, 13, 14, 15, 16, 17, 18, 19, 20, 21, 22, 23], []⟩ | false => none
theorem okf302 : OkF Tryz.prog 302 (Tryz.f302, ord302) := okF_of rfl Tryz.func302 Tryz.call302 (by kernel_rfl)
noncomputable def ord303 : Nat → Option RO := fun id => none
theorem okf303 : OkF Tryz.prog 303 (Tryz.f303, ord303) := okF_of rfl Tryz.func303 Tryz.call303 (by kernel_rfl)
noncomputable def ord304 : Nat → Option RO := fun id => none
theorem okf304 : OkF Tryz.prog 304 (Tryz.f304, ord304) := okF_of rfl Tryz.func304 Tryz.call304 (by kernel_rfl)
noncomputable def ord305 : Nat → Option RO := fun id => none
theorem okf305 : OkF Tryz.prog 305 (Tryz.f305, ord305) := okF_of rfl Tryz.func305 Tryz.call305 (by kernel_rfl)
noncomputable def ord306 : Nat → Option RO := fun id => none
theorem okf306 : OkF Tryz.prog 306 (Tryz.f306, ord306) := okF_of rfl Tryz.func306 Tryz.call306 (by kernel_rfl)
noncomputable def ord307 : Nat → Option RO := fun id => none
theorem okf307 : OkF Tryz.prog 307 (Tryz.f307, ord307) := okF_of rfl Tryz.func307 Tryz.call307 (by kernel_rfl)
noncomputable def ord308 : Nat → Option RO := fun id => none
theorem okf308 : OkF Tryz.prog 308 (Tryz.f308, ord308) := okF_of rfl Tryz.func308 Tryz.call308 (by kernel_rfl)
noncomputable def ord309 : Nat → Option RO := fun id => none
theorem okf309 : OkF Tryz.prog 309 (Tryz.f309, ord309) := okF_of rfl Tryz.func309 Tryz.call309 (by kernel_rfl)
noncomputable def ord310 : Nat → Option RO := fun id => none
theorem okf310 : OkF Tryz.prog 310 (Tryz.f310, ord310) := okF_of rfl Tryz.func310 Tryz.call310 (by kernel_rfl)
noncomputable def ord311 : Nat → Option RO := fun id => none
theorem okf311 : OkF Tryz.prog 311 (Tryz.f311, ord311) := okF_of rfl Tryz.func311 Tryz.call311 (by kernel_rfl)
noncomputable def ord312 : Nat → Option RO := fun id => none
theorem okf312 : OkF Tryz.prog 312 (Tryz.f312, ord312) := okF_of rfl Tryz.func312 Tryz.call312 (by kernel_rfl)
noncomputable def ord313 : Nat → Option RO := fun id => none
theorem okf313 : OkF Tryz.prog 313 (Tryz.f313, ord313) := okF_of rfl Tryz.func313 Tryz.call313 (by kernel_rfl)
noncomputable def ord314 : Nat → Option RO := fun id => none
theorem okf314 : OkF Tryz.prog 314 (Tryz.f314, ord314) := okF_of rfl Tryz.func314 Tryz.call314 (by kernel_rfl)
noncomputable def ord315 : Nat → Option RO := fun id => none
theorem okf315 : OkF Tryz.prog 315 (Tryz.f315, ord315) := okF_of rfl Tryz.func315 Tryz.call315 (by kernel_rfl)
noncomputable def ord316 : Nat → Option RO := fun id => none
theorem okf316 : OkF Tryz.prog 316 (Tryz.f316, ord316) := okF_of rfl Tryz.func316 Tryz.call316 (by kernel_rfl)
noncomputable def ord317 : Nat → Option RO := fun id => match Nat.beq id 3 with | true => some ⟨[0, 1, 3, 7, 15, 0, 32, 96, 224, 511, 1023], [0, 1, 2, 3, 4, 5, 6, 7, 8, 9, 10], []⟩ | false => none
theorem okf317 : OkF Tryz.prog 317 (Tryz.f317, ord317) := okF_of rfl Tryz.func317 Tryz.call317 (by kernel_rfl)
noncomputable def ord318 : Nat → Option RO := fun id => none
theorem okf318 : OkF Tryz.prog 318 (Tryz.f318, ord318) := okF_of rfl Tryz.func318 Tryz.call318 (by kernel_rfl)
noncomputable def ord319 : Nat → Option RO := fun id => none
theorem okf319 : OkF Tryz.prog 319 (Tryz.f319, ord319) := okF_of rfl Tryz.func319 Tryz.call319 (by kernel_rfl)
noncomputable def ord320 : Nat → Option RO := fun id => none
theorem okf320 : OkF Tryz.prog 320 (Tryz.f320, ord320) := okF_of rfl Tryz.func320 Tryz.call320 (by kernel_rfl)
noncomputable def ord321 : Nat → Option RO := fun id => none
theorem okf321 : OkF Tryz.prog 321 (Tryz.f321, ord321) := okF_of rfl Tryz.func321 Tryz.call321 (by kernel_rfl)
noncomputable def ord322 : Nat → Option RO := fun id => match Nat.beq id 2 with | true => some ⟨[0, 1, 3, 7, 7, 23, 63, 127, 255, 511, 1023, 511, 4095, 8191, 16383, 32767, 65535, 131071, 262143, 524287, 1048575, 2097151, 4194303, 2097151, 2097151, 27262975, 60817407, 134217727, 268435455, 536870911, 1073741823, 2147483647, 1073741823, 5368709119, 17179869183, 34359738367, 68719476735], [0, 1, 2, 3, 4, 5, 6, 7, 8, 9, 10, 11, 12, 13, 14, 15, 16, 17, 18, 19, 20, 21, 22, 23, 24, 25, 26, 27, 28, 29, 30, 31, 32, 33, 34, 35, 36], []⟩ | false => match Nat.beq id 4 with | true => some ⟨[0, 0, 0, 4, 0, 16, 15, 79, 255], [0, 1, 2, 3, 4, 5, 6, 7, 8], []⟩ | false => none
theorem okf322 : OkF Tryz.prog 322 (Tryz.f322, ord322) := okF_of rfl Tryz.func322 Tryz.call322 (by kernel_rfl)
noncomputable def ord323 : Nat → Option RO := fun id => match Nat.beq id 1 with | true => some ⟨[0, 0, 0, 6, 14, 0, 0, 96, 224, 511, 1023], [0, 1, 2, 3, 4, 5, 6, 7, 8, 9, 10], []⟩ | false => none
theorem okf323 : OkF Tryz.prog 323 (Tryz.f323, ord323) := okF_of rfl Tryz.func323 Tryz.call323 (by kernel_rfl)
noncomputable def ord325 : Nat → Option RO := fun id => match Nat.beq id 3 with | true => some ⟨[0, 0, 0, 6, 0, 0, 0, 96, 0, 0, 0, 1536, 3840, 7936, 0, 0, 0, 98304, 245760, 507904, 1048335, 2096911, 4194303, 8388607], [0, 1, 2, 3, 4, 5, 6, 7, 8, 9, 10, 11, 12, 13, 14, 15, 16, 17, 18, 19, 20, 21, 22, 23], []⟩ | false => none
theorem okf325 : OkF Tryz.prog 325 (Tryz.f325, ord325) := okF_of rfl Tryz.func325 Tryz.call325 (by kernel_rfl)
noncomputable def ord327 : Nat → Option RO := fun id => match Nat.beq id 1 with | true => some ⟨[0, 0, 3, 7, 0, 0, 48, 112, 255], [0, 1, 2, 3, 4, 5, 6, 7, 8], []⟩ | false => none
theorem okf327 : OkF Tryz.prog 327 (Tryz.f327, ord327) := okF_of rfl Tryz.func327 Tryz.call327 (by kernel_rfl)
noncomputable def ord328 : Nat → Option RO := fun id => none
theorem okf328 : OkF Tryz.prog 328 (Tryz.f328, ord328) := okF_of rfl Tryz.func328 Tryz.call328 (by kernel_rfl)
noncomputable def ord329 : Nat → Option RO := fun id => none
theorem okf329 : OkF Tryz.prog 329 (Tryz.f329, ord329) := okF_of rfl Tryz.func329 Tryz.call329 (by kernel_rfl)
noncomputable def ord330 : Nat → Option RO := fun id => none
theorem okf330 : OkF Tryz.prog 330 (Tryz.f330, ord330) := okF_of rfl Tryz.func330 Tryz.call330 (by kernel_rfl)
noncomputable def ord331 : Nat → Option RO := fun id => none
theorem okf331 : OkF Tryz.prog 331 (Tryz.f331, ord331) := okF_of rfl Tryz.func331 Tryz.call331 (by kernel_rfl)
noncomputable def tab : FT := (.node 178 (Tryz.f178, ord178) (.node 100 (Tryz.f100, ord100) (.node 44 (Tryz.f44, ord44) (.node 28 (Tryz.f28, ord28) (.node 11 (Tryz.f11, ord11) (.node 7 (Tryz.f7, ord7) (.node 5 (Tryz.f5, ord5) (.node 3 (Tryz.f3, ord3) .nil .nil) (.node 6 (Tryz.f6, ord6) .nil .nil)) (.node 9 (Tryz.f9, ord9) (.node 8 (Tryz.f8, ord8) .nil .nil) (.node 10 (Tryz.f10, ord10) .nil .nil))) (.node 18 (Tryz.f18, ord18) (.node 13 (Tryz.f13, ord13) (.node 12 (Tryz.f12, ord12) .nil .nil) (.node 14 (Tryz.f14, ord14) .nil .nil)) (.node 26 (Tryz.f26, ord26) (.node 19 (Tryz.f19, ord19) .nil .nil) (.node 27 (Tryz.f27, ord27) .nil .nil)))) (.node 36 (Tryz.f36, ord36) (.node 32 (Tryz.f32, ord32) (.node 30 (Tryz.f30, ord30) (.node 29 (Tryz.f29, ord29) .nil .nil) (.node 31 (Tryz.f31, ord31) .nil .nil)) (.node 34 (Tryz.f34, ord34) (.node 33 (Tryz.f33, ord33) .nil .nil) (.node 35 (Tryz.f35, ord35) .nil .nil))) (.node 40 (Tryz.f40, ord40) (.node 38 (Tryz.f38, ord38) (.node 37 (Tryz.f37, ord37) .nil .nil) (.node 39 (Tryz.f39, ord39) .nil .nil)) (.node 42 (Tryz.f42, ord42) (.node 41 (Tryz.f41, ord41) .nil .nil) (.node 43 (Tryz.f43, ord43) .nil .nil))))) (.node 84 (Tryz.f84, ord84) (.node 54 (Tryz.f54, ord54) (.node 48 (Tryz.f48, ord48) (.node 46 (Tryz.f46, ord46) (.node 45 (Tryz.f45, ord45) .nil .nil) (.node 47 (Tryz.f47, ord47) .nil .nil)) (.node 50 (Tryz.f50, ord50) (.node 49 (Tryz.f49, ord49) .nil .nil) (.node 51 (Tryz.f51, ord51) .nil .nil))) (.node 80 (Tryz.f80, ord80) (.node 78 (Tryz.f78, ord78) (.node 72 (Tryz.f72, ord72) .nil .nil) (.node 79 (Tryz.f79, ord79) .nil .nil)) (.node 82 (Tryz.f82, ord82) (.node 81 (Tryz.f81, ord81) .nil .nil) (.node 83 (Tryz.f83, ord83) .nil .nil)))) (.node 92 (Tryz.f92, ord92) (.node 88 (Tryz.f88, ord88) (.node 86 (Tryz.f86, ord86) (.node 85 (Tryz.f85, ord85) .nil .nil) (.node 87 (Tryz.f87, ord87) .nil .nil)) (.node 90 (Tryz.f90, ord90) (.node 89 (Tryz.f89, ord89) .nil .nil) (.node 91 (Tryz.f91, ord91) .nil .nil))) (.node 96 (Tryz.f96, ord96) (.node 94 (Tryz.f94, ord94) (.node 93 (Tryz.f93, ord93) .nil .nil) (.node 95 (Tryz.f95, ord95) .nil .nil)) (.node 98 (Tryz.f98, ord98) (.node 97 (Tryz.f97, ord97) .nil .nil) (.node 99 (Tryz.f99, ord99) .nil .nil)))))) (.node 143 (Tryz.f143, ord143) (.node 119 (Tryz.f119, ord119) (.node 108 (Tryz.f108, ord108) (.node 104 (Tryz.f104, ord104) (.node 102 (Tryz.f102, ord102) (.node 101 (Tryz.f101, ord101) .nil .nil) (.node 103 (Tryz.f103, ord103) .nil .nil)) (.node 106 (Tryz.f106, ord106) (.node 105 (Tryz.f105, ord105) .nil .nil) (.node 107 (Tryz.f107, ord107) .nil .nil))) (.node 112 (Tryz.f112, ord112) (.node 110 (Tryz.f110, ord110) (.node 109 (Tryz.f109, ord109) .nil .nil) (.node 111 (Tryz.f111, ord111) .nil .nil)) (.node 114 (Tryz.f114, ord114) (.node 113 (Tryz.f113, ord113) .nil .nil) (.node 115 (Tryz.f115, ord115) .nil .nil)))) (.node 135 (Tryz.f135, ord135) (.node 131 (Tryz.f131, ord131) (.node 129 (Tryz.f129, ord129) (.node 120 (Tryz.f120, ord120) .nil .nil) (.node 130 (Tryz.f130, ord130) .nil .nil)) (.node 133 (Tryz.f133, ord133) (.node 132 (Tryz.f132, ord132) .nil .nil) (.node 134 (Tryz.f134, ord134) .nil .nil))) (.node 139 (Tryz.f139, ord139) (.node 137 (Tryz.f137, ord137) (.node 136 (Tryz.f136, ord136) .nil .nil) (.node 138 (Tryz.f138, ord138) .nil .nil)) (.node 141 (Tryz.f141, ord141) (.node 140 (Tryz.f140, ord140) .nil .nil) (.node 142 (Tryz.f142, ord142) .nil .nil))))) (.node 159 (Tryz.f159, ord159) (.node 151 (Tryz.f151, ord151) (.node 147 (Tryz.f147, ord147) (.node 145 (Tryz.f145, ord145) (.node 144 (Tryz.f144, ord144) .nil .nil) (.node 146 (Tryz.f146, ord146) .nil .nil)) (.node 149 (Tryz.f149, ord149) (.node 148 (Tryz.f148, ord148) .nil .nil) (.node 150 (Tryz.f150, ord150) .nil .nil))) (.node 155 (Tryz.f155, ord155) (.node 153 (Tryz.f153, ord153) (.node 152 (Tryz.f152, ord152) .nil .nil) (.node 154 (Tryz.f154, ord154) .nil .nil)) (.node 157 (Tryz.f157, ord157) (.node 156 (Tryz.f156, ord156) .nil .nil) (.node 158 (Tryz.f158, ord158) .nil .nil)))) (.node 171 (Tryz.f171, ord171) (.node 163 (Tryz.f163, ord163) (.node 161 (Tryz.f161, ord161) (.node 160 (Tryz.f160, ord160) .nil .nil) (.node 162 (Tryz.f162, ord162) .nil .nil)) (.node 165 (Tryz.f165, ord165) (.node 164 (Tryz.f164, ord164) .nil .nil) (.node 168 (Tryz.f168, ord168) .nil .nil))) (.node 175 (Tryz.f175, ord175) (.node 173 (Tryz.f173, ord173) (.node 172 (Tryz.f172, ord172) .nil .nil) (.node 174 (Tryz.f174, ord174) .nil .nil)) (.node 177 (Tryz.f177, ord177) (.node 176 (Tryz.f176, ord176) .nil .nil) .nil)))))) (.node 260 (Tryz.f260, ord260) (.node 210 (Tryz.f210, ord210) (.node 194 (Tryz.f194, ord194) (.node 186 (Tryz.f186, ord186) (.node 182 (Tryz.f182, ord182) (.node 180 (Tryz.f180, ord180) (.node 179 (Tryz.f179, ord179) .nil .nil) (.node 181 (Tryz.f181, ord181) .nil .nil)) (.node 184 (Tryz.f184, ord184) (.node 183 (Tryz.f183, ord183) .nil .nil) (.node 185 (Tryz.f185, ord185) .nil .nil))) (.node 190 (Tryz.f190, ord190) (.node 188 (Tryz.f188, ord188) (.node 187 (Tryz.f187, ord187) .nil .nil) (.node 189 (Tryz.f189, ord189) .nil .nil)) (.node 192 (Tryz.f192, ord192) (.node 191 (Tryz.f191, ord191) .nil .nil) (.node 193 (Tryz.f193, ord193) .nil .nil)))) (.node 202 (Tryz.f202, ord202) (.node 198 (Tryz.f198, ord198) (.node 196 (Tryz.f196, ord196) (.node 195 (Tryz.f195, ord195) .nil .nil) (.node 197 (Tryz.f197, ord197) .nil .nil)) (.node 200 (Tryz.f200, ord200) (.node 199 (Tryz.f199, ord199) .nil .nil) (.node 201 (Tryz.f201, ord201) .nil .nil))) (.node 206 (Tryz.f206, ord206) (.node 204 (Tryz.f204, ord204) (.node 203 (Tryz.f203, ord203) .nil .nil) (.node 205 (Tryz.f205, ord205) .nil .nil)) (.node 208 (Tryz.f208, ord208) (.node 207 (Tryz.f207, ord207) .nil .nil) (.node 209 (Tryz.f209, ord209) .nil .nil))))) (.node 226 (Tryz.f226, ord226) (.node 218 (Tryz.f218, ord218) (.node 214 (Tryz.f214, ord214) (.node 212 (Tryz.f212, ord212) (.node 211 (Tryz.f211, ord211) .nil .nil) (.node 213 (Tryz.f213, ord213) .nil .nil)) (.node 216 (Tryz.f216, ord216) (.node 215 (Tryz.f215, ord215) .nil .nil) (.node 217 (Tryz.f217, ord217) .nil .nil))) (.node 222 (Tryz.f222, ord222) (.node 220 (Tryz.f220, ord220) (.node 219 (Tryz.f219, ord219) .nil .nil) (.node 221 (Tryz.f221, ord221) .nil .nil)) (.node 224 (Tryz.f224, ord224) (.node 223 (Tryz.f223, ord223) .nil .nil) (.node 225 (Tryz.f225, ord225) .nil .nil)))) (.node 252 (Tryz.f252, ord252) (.node 239 (Tryz.f239, ord239) (.node 228 (Tryz.f228, ord228) (.node 227 (Tryz.f227, ord227) .nil .nil) (.node 238 (Tryz.f238, ord238) .nil .nil)) (.node 250 (Tryz.f250, ord250) (.node 249 (Tryz.f249, ord249) .nil .nil) (.node 251 (Tryz.f251, ord251) .nil .nil))) (.node 256 (Tryz.f256, ord256) (.node 254 (Tryz.f254, ord254) (.node 253 (Tryz.f253, ord253) .nil .nil) (.node 255 (Tryz.f255, ord255) .nil .nil)) (.node 258 (Tryz.f258, ord258) (.node 257 (Tryz.f257, ord257) .nil .nil) (.node 259 (Tryz.f259, ord259) .nil .nil)))))) (.node 292 (Tryz.f292, ord292) (.node 276 (Tryz.f276, ord276) (.node 268 (Tryz.f268, ord268) (.node 264 (Tryz.f264, ord264) (.node 262 (Tryz.f262, ord262) (.node 261 (Tryz.f261, ord261) .nil .nil) (.node 263 (Tryz.f263, ord263) .nil .nil)) (.node 266 (Tryz.f266, ord266) (.node 265 (Tryz.f265, ord265) .nil .nil) (.node 267 (Tryz.f267, ord267) .nil .nil))) (.node 272 (Tryz.f272, ord272) (.node 270 (Tryz.f270, ord270) (.node 269 (Tryz.f269, ord269) .nil .nil) (.node 271 (Tryz.f271, ord271) .nil .nil)) (.node 274 (Tryz.f274, ord274) (.node 273 (Tryz.f273, ord273) .nil .nil) (.node 275 (Tryz.f275, ord275) .nil .nil)))) (.node 284 (Tryz.f284, ord284) (.node 280 (Tryz.f280, ord280) (.node 278 (Tryz.f278, ord278) (.node 277 (Tryz.f277, ord277) .nil .nil) (.node 279 (Tryz.f279, ord279) .nil .nil)) (.node 282 (Tryz.f282, ord282) (.node 281 (Tryz.f281, ord281) .nil .nil) (.node 283 (Tryz.f283, ord283) .nil .nil))) (.node 288 (Tryz.f288, ord288) (.node 286 (Tryz.f286, ord286) (.node 285 (Tryz.f285, ord285) .nil .nil) (.node 287 (Tryz.f287, ord287) .nil .nil)) (.node 290 (Tryz.f290, ord290) (.node 289 (Tryz.f289, ord289) .nil .nil) (.node 291 (Tryz.f291, ord291) .nil .nil))))) (.node 315 (Tryz.f315, ord315) (.node 307 (Tryz.f307, ord307) (.node 303 (Tryz.f303, ord303) (.node 297 (Tryz.f297, ord297) (.node 293 (Tryz.f293, ord293) .nil .nil) (.node 302 (Tryz.f302, ord302) .nil .nil)) (.node 305 (Tryz.f305, ord305) (.node 304 (Tryz.f304, ord304) .nil .nil) (.node 306 (Tryz.f306, ord306) .nil .nil))) (.node 311 (Tryz.f311, ord311) (.node 309 (Tryz.f309, ord309) (.node 308 (Tryz.f308, ord308) .nil .nil) (.node 310 (Tryz.f310, ord310) .nil .nil)) (.node 313 (Tryz.f313, ord313) (.node 312 (Tryz.f312, ord312) .nil .nil) (.node 314 (Tryz.f314, ord314) .nil .nil)))) (.node 323 (Tryz.f323, ord323) (.node 319 (Tryz.f319, ord319) (.node 317 (Tryz.f317, ord317) (.node 316 (Tryz.f316, ord316) .nil .nil) (.node 318 (Tryz.f318, ord318) .nil .nil)) (.node 321 (Tryz.f321, ord321) (.node 320 (Tryz.f320, ord320) .nil .nil) (.node 322 (Tryz.f322, ord322) .nil .nil))) (.node 329 (Tryz.f329, ord329) (.node 327 (Tryz.f327, ord327) (.node 325 (Tryz.f325, ord325) .nil .nil) (.node 328 (Tryz.f328, ord328) .nil .nil)) (.node 331 (Tryz.f331, ord331) (.node 330 (Tryz.f330, ord330) .nil .nil) .nil)))))))
theorem tabOk : tab.All Tryz.prog := ⟨okf178, ⟨okf100, ⟨okf44, ⟨okf28, ⟨okf11, ⟨okf7, ⟨okf5, ⟨okf3, trivial, trivial⟩, ⟨okf6, trivial, trivial⟩⟩, ⟨okf9, ⟨okf8, trivial, trivial⟩, ⟨okf10, trivial, trivial⟩⟩⟩, ⟨okf18, ⟨okf13, ⟨okf12, trivial, trivial⟩, ⟨okf14, trivial, trivial⟩⟩, ⟨okf26, ⟨okf19, trivial, trivial⟩, ⟨okf27, trivial, trivial⟩⟩⟩⟩, ⟨okf36, ⟨okf32, ⟨okf30, ⟨okf29, trivial, trivial⟩, ⟨okf31, trivial, trivial⟩⟩, ⟨okf34, ⟨okf33, trivial, trivial⟩, ⟨okf35, trivial, trivial⟩⟩⟩, ⟨okf40, ⟨okf38, ⟨okf37, trivial, trivial⟩, ⟨okf39, trivial, trivial⟩⟩, ⟨okf42, ⟨okf41, trivial, trivial⟩, ⟨okf43, trivial, trivial⟩⟩⟩⟩⟩, ⟨okf84, ⟨okf54, ⟨okf48, ⟨okf46, ⟨okf45, trivial, trivial⟩, ⟨okf47, trivial, trivial⟩⟩, ⟨okf50, ⟨okf49, trivial, trivial⟩, ⟨okf51, trivial, trivial⟩⟩⟩, ⟨okf80, ⟨okf78, ⟨okf72, trivial, trivial⟩, ⟨okf79, trivial, trivial⟩⟩, ⟨okf82, ⟨okf81, trivial, trivial⟩, ⟨okf83, trivial, trivial⟩⟩⟩⟩, ⟨okf92, ⟨okf88, ⟨okf86, ⟨okf85, trivial, trivial⟩, ⟨okf87, trivial, trivial⟩⟩, ⟨okf90, ⟨okf89, trivial, trivial⟩, ⟨okf91, trivial, trivial⟩⟩⟩, ⟨okf96, ⟨okf94, ⟨okf93, trivial, trivial⟩, ⟨okf95, trivial, trivial⟩⟩, ⟨okf98, ⟨okf97, trivial, trivial⟩, ⟨okf99, trivial, trivial⟩⟩⟩⟩⟩⟩, ⟨okf143, ⟨okf119, ⟨okf108, ⟨okf104, ⟨okf102, ⟨okf101, trivial, trivial⟩, ⟨okf103, trivial, trivial⟩⟩, ⟨okf106, ⟨okf105, trivial, trivial⟩, ⟨okf107, trivial, trivial⟩⟩⟩, ⟨okf112, ⟨okf110, ⟨okf109, trivial, trivial⟩, ⟨okf111, trivial, trivial⟩⟩, ⟨okf114, ⟨okf113, trivial, trivial⟩, ⟨okf115, trivial, trivial⟩⟩⟩⟩, ⟨okf135, ⟨okf131, ⟨okf129, ⟨okf120, trivial, trivial⟩, ⟨okf130, trivial, trivial⟩⟩, ⟨okf133, ⟨okf132, trivial, trivial⟩, ⟨okf134, trivial, trivial⟩⟩⟩, ⟨okf139, ⟨okf137, ⟨okf136, trivial, trivial⟩, ⟨okf138, trivial, trivial⟩⟩, ⟨okf141, ⟨okf140, trivial, trivial⟩, ⟨okf142, trivial, trivial⟩⟩⟩⟩⟩, ⟨okf159, ⟨okf151, ⟨okf147, ⟨okf145, ⟨okf144, trivial, trivial⟩, ⟨okf146, trivial, trivial⟩⟩, ⟨okf149, ⟨okf148, trivial, trivial⟩, ⟨okf150, trivial, trivial⟩⟩⟩, ⟨okf155, ⟨okf153, ⟨okf152, trivial, trivial⟩, ⟨okf154, trivial, trivial⟩⟩, ⟨okf157, ⟨okf156, trivial, trivial⟩, ⟨okf158, trivial, trivial⟩⟩⟩⟩, ⟨okf171, ⟨okf163, ⟨okf161, ⟨okf160, trivial, trivial⟩, ⟨okf162, trivial, trivial⟩⟩, ⟨okf165, ⟨okf164, trivial, trivial⟩, ⟨okf168, trivial, trivial⟩⟩⟩, ⟨okf175, ⟨okf173, ⟨okf172, trivial, trivial⟩, ⟨okf174, trivial, trivial⟩⟩, ⟨okf177, ⟨okf176, trivial, trivial⟩, trivial⟩⟩⟩⟩⟩⟩, ⟨okf260, ⟨okf210, ⟨okf194, ⟨okf186, ⟨okf182, ⟨okf180, ⟨okf179, trivial, trivial⟩, ⟨okf181, trivial, trivial⟩⟩, ⟨okf184, ⟨okf183, trivial, trivial⟩, ⟨okf185, trivial, trivial⟩⟩⟩, ⟨okf190, ⟨okf188, ⟨okf187, trivial, trivial⟩, ⟨okf189, trivial, trivial⟩⟩, ⟨okf192, ⟨okf191, trivial, trivial⟩, ⟨okf193, trivial, trivial⟩⟩⟩⟩, ⟨okf202, ⟨okf198, ⟨okf196, ⟨okf195, trivial, trivial⟩, ⟨okf197, trivial, trivial⟩⟩, ⟨okf200, ⟨okf199, trivial, trivial⟩, ⟨okf201, trivial, trivial⟩⟩⟩, ⟨okf206, ⟨okf204, ⟨okf203, trivial, trivial⟩, ⟨okf205, trivial, trivial⟩⟩, ⟨okf208, ⟨okf207, trivial, trivial⟩, ⟨okf209, trivial, trivial⟩⟩⟩⟩⟩, ⟨okf226, ⟨okf218, ⟨okf214, ⟨okf212, ⟨okf211, trivial, trivial⟩, ⟨okf213, trivial, trivial⟩⟩, ⟨okf216, ⟨okf215, trivial, trivial⟩, ⟨okf217, trivial, trivial⟩⟩⟩, ⟨okf222, ⟨okf220, ⟨okf219, trivial, trivial⟩, ⟨okf221, trivial, trivial⟩⟩, ⟨okf224, ⟨okf223, trivial, trivial⟩, ⟨okf225, trivial, trivial⟩⟩⟩⟩, ⟨okf252, ⟨okf239, ⟨okf228, ⟨okf227, trivial, trivial⟩, ⟨okf238, trivial, trivial⟩⟩, ⟨okf250, ⟨okf249, trivial, trivial⟩, ⟨okf251, trivial, trivial⟩⟩⟩, ⟨okf256, ⟨okf254, ⟨okf253, trivial, trivial⟩, ⟨okf255, trivial, trivial⟩⟩, ⟨okf258, ⟨okf257, trivial, trivial⟩, ⟨okf259, trivial, trivial⟩⟩⟩⟩⟩⟩, ⟨okf292, ⟨okf276, ⟨okf268, ⟨okf264, ⟨okf262, ⟨okf261, trivial, trivial⟩, ⟨okf263, trivial, trivial⟩⟩, ⟨okf266, ⟨okf265, trivial, trivial⟩, ⟨okf267, trivial, trivial⟩⟩⟩, ⟨okf272, ⟨okf270, ⟨okf269, trivial, trivial⟩, ⟨okf271, trivial, trivial⟩⟩, ⟨okf274, ⟨okf273, trivial, trivial⟩, ⟨okf275, trivial, trivial⟩⟩⟩⟩, ⟨okf284, ⟨okf280, ⟨okf278, ⟨okf277, trivial, trivial⟩, ⟨okf279, trivial, trivial⟩⟩, ⟨okf282, ⟨okf281, trivial, trivial⟩, ⟨okf283, trivial, trivial⟩⟩⟩, ⟨okf288, ⟨okf286, ⟨okf285, trivial, trivial⟩, ⟨okf287, trivial, trivial⟩⟩, ⟨okf290, ⟨okf289, trivial, trivial⟩, ⟨okf291, trivial, trivial⟩⟩⟩⟩⟩, ⟨okf315, ⟨okf307, ⟨okf303, ⟨okf297, ⟨okf293, trivial, trivial⟩, ⟨okf302, trivial, trivial⟩⟩, ⟨okf305, ⟨okf304, trivial, trivial⟩, ⟨okf306, trivial, trivial⟩⟩⟩, ⟨okf311, ⟨okf309, ⟨okf308, trivial, trivial⟩, ⟨okf310, trivial, trivial⟩⟩, ⟨okf313, ⟨okf312, trivial, trivial⟩, ⟨okf314, trivial, trivial⟩⟩⟩⟩, ⟨okf323, ⟨okf319, ⟨okf317, ⟨okf316, trivial, trivial⟩, ⟨okf318, trivial, trivial⟩⟩, ⟨okf321, ⟨okf320, trivial, trivial⟩, ⟨okf322, trivial, trivial⟩⟩⟩, ⟨okf329, ⟨okf327, ⟨okf325, trivial, trivial⟩, ⟨okf328, trivial, trivial⟩⟩, ⟨okf331, ⟨okf330, trivial, trivial⟩, trivial⟩⟩⟩⟩⟩⟩⟩
end
end Go.Vc.F
