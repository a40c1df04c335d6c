/- PostStamps answers true for every input, and its arguments read as they did: as its row says (Rows), under the conditions of the row, no more. Part 5 of 8: by one AI agent and its programs; no person has read it. -/
import Derived.Test.YtfdnbokgakjplaaPostStampsA
import Derived.Test.YtfdnbokgakjplaaPostStampsB
import Derived.Test.YtfdnbokgakjplaaPostStampsC
import Derived.Test.YtfdnbokgakjplaaPostStampsD
import Derived.Test.YtfdnbokgakjplaaProg
import Derived.KernelRfl
set_option linter.unusedSimpArgs false
set_option linter.unusedVariables false
set_option linter.all false

namespace Go.Pv.Try
open Go.Proofs
noncomputable def T1 : Ty := (tyOf Try.prog 1).getD ⟨.invalid, 0, 0, none⟩
@[go_sem] theorem ty1 : tyOf Try.prog 1 = some T1 := by kernel_rfl
@[go_sem] theorem T1_desc : T1.desc = .func #[] #[] false := by kernel_rfl
@[go_sem] theorem T1_size : T1.size = 1 := by kernel_rfl
@[go_sem] theorem T1_bytes : T1.bytes = 8 := by kernel_rfl
@[go_sem] theorem T1_zero : zeroPV T1 = some (.d .nilfunc) := by kernel_rfl
@[go_sem] theorem T1_ok : zeroOk T1 = true := by kernel_rfl
noncomputable def T2 : Ty := (tyOf Try.prog 2).getD ⟨.invalid, 0, 0, none⟩
@[go_sem] theorem ty2 : tyOf Try.prog 2 = some T2 := by kernel_rfl
@[go_sem] theorem T2_desc : T2.desc = .int .i64 := by kernel_rfl
@[go_sem] theorem T2_size : T2.size = 1 := by kernel_rfl
@[go_sem] theorem T2_bytes : T2.bytes = 8 := by kernel_rfl
@[go_sem] theorem T2_zero : zeroPV T2 = some (.d (.int .i64 0)) := by kernel_rfl
@[go_sem] theorem T2_ok : zeroOk T2 = true := by kernel_rfl
noncomputable def T3 : Ty := (tyOf Try.prog 3).getD ⟨.invalid, 0, 0, none⟩
@[go_sem] theorem ty3 : tyOf Try.prog 3 = some T3 := by kernel_rfl
@[go_sem] theorem T3_desc : T3.desc = .int .i64 := by kernel_rfl
@[go_sem] theorem T3_size : T3.size = 1 := by kernel_rfl
@[go_sem] theorem T3_bytes : T3.bytes = 8 := by kernel_rfl
@[go_sem] theorem T3_zero : zeroPV T3 = some (.d (.int .i64 0)) := by kernel_rfl
@[go_sem] theorem T3_ok : zeroOk T3 = true := by kernel_rfl
noncomputable def T4 : Ty := (tyOf Try.prog 4).getD ⟨.invalid, 0, 0, none⟩
@[go_sem] theorem ty4 : tyOf Try.prog 4 = some T4 := by kernel_rfl
@[go_sem] theorem T4_desc : T4.desc = .bool := by kernel_rfl
@[go_sem] theorem T4_size : T4.size = 1 := by kernel_rfl
@[go_sem] theorem T4_bytes : T4.bytes = 1 := by kernel_rfl
@[go_sem] theorem T4_zero : zeroPV T4 = some (.d (.bool false)) := by kernel_rfl
@[go_sem] theorem T4_ok : zeroOk T4 = true := by kernel_rfl
noncomputable def T5 : Ty := (tyOf Try.prog 5).getD ⟨.invalid, 0, 0, none⟩
@[go_sem] theorem ty5 : tyOf Try.prog 5 = some T5 := by kernel_rfl
@[go_sem] theorem T5_desc : T5.desc = .int .u8 := by kernel_rfl
@[go_sem] theorem T5_size : T5.size = 1 := by kernel_rfl
@[go_sem] theorem T5_bytes : T5.bytes = 1 := by kernel_rfl
@[go_sem] theorem T5_zero : zeroPV T5 = some (.d (.int .u8 0)) := by kernel_rfl
@[go_sem] theorem T5_ok : zeroOk T5 = true := by kernel_rfl
noncomputable def T9 : Ty := (tyOf Try.prog 9).getD ⟨.invalid, 0, 0, none⟩
@[go_sem] theorem ty9 : tyOf Try.prog 9 = some T9 := by kernel_rfl
@[go_sem] theorem T9_desc : T9.desc = .string := by kernel_rfl
@[go_sem] theorem T9_size : T9.size = 1 := by kernel_rfl
@[go_sem] theorem T9_bytes : T9.bytes = 16 := by kernel_rfl
@[go_sem] theorem T9_zero : zeroPV T9 = some (.d (.str ⟨#[]⟩)) := by kernel_rfl
@[go_sem] theorem T9_ok : zeroOk T9 = true := by kernel_rfl
noncomputable def T12 : Ty := (tyOf Try.prog 12).getD ⟨.invalid, 0, 0, none⟩
@[go_sem] theorem ty12 : tyOf Try.prog 12 = some T12 := by kernel_rfl
@[go_sem] theorem T12_desc : T12.desc = .int .u64 := by kernel_rfl
@[go_sem] theorem T12_size : T12.size = 1 := by kernel_rfl
@[go_sem] theorem T12_bytes : T12.bytes = 8 := by kernel_rfl
@[go_sem] theorem T12_zero : zeroPV T12 = some (.d (.int .u64 0)) := by kernel_rfl
@[go_sem] theorem T12_ok : zeroOk T12 = true := by kernel_rfl
noncomputable def T13 : Ty := (tyOf Try.prog 13).getD ⟨.invalid, 0, 0, none⟩
@[go_sem] theorem ty13 : tyOf Try.prog 13 = some T13 := by kernel_rfl
noncomputable def fs13 : Array Field := match T13.desc with | .struct fs => fs | _ => #[]
@[go_sem] theorem T13_desc : T13.desc = .struct fs13 := by kernel_rfl
noncomputable def fs13_0 : Field := fs13.getD 0 default
@[go_sem] theorem fs13_at0 : fs13[0]? = some fs13_0 := by kernel_rfl
@[go_sem] theorem fs13_0_type : fs13_0.type = 9 := by kernel_rfl
@[go_sem] theorem fs13_0_off : fs13_0.offset = 0 := by kernel_rfl
@[go_sem] theorem fo13_0 : fieldOf Try.prog 13 0 = some (0, 1) := by kernel_rfl
noncomputable def fs13_1 : Field := fs13.getD 1 default
@[go_sem] theorem fs13_at1 : fs13[1]? = some fs13_1 := by kernel_rfl
@[go_sem] theorem fs13_1_type : fs13_1.type = 12 := by kernel_rfl
@[go_sem] theorem fs13_1_off : fs13_1.offset = 1 := by kernel_rfl
@[go_sem] theorem fo13_1 : fieldOf Try.prog 13 1 = some (1, 1) := by kernel_rfl
@[go_sem] theorem pl13 : placesOf Try.prog fs13.toList = some [(0, 1), (1, 1)] := by kernel_rfl
@[go_sem] theorem T13_size : T13.size = 2 := by kernel_rfl
@[go_sem] theorem T13_bytes : T13.bytes = 24 := by kernel_rfl
-- zero of 13: strings or floats
@[go_sem] theorem T13_ok : zeroOk T13 = true := by kernel_rfl
noncomputable def T21 : Ty := (tyOf Try.prog 21).getD ⟨.invalid, 0, 0, none⟩
@[go_sem] theorem ty21 : tyOf Try.prog 21 = some T21 := by kernel_rfl
@[go_sem] theorem T21_desc : T21.desc = .int .i32 := by kernel_rfl
@[go_sem] theorem T21_size : T21.size = 1 := by kernel_rfl
@[go_sem] theorem T21_bytes : T21.bytes = 4 := by kernel_rfl
@[go_sem] theorem T21_zero : zeroPV T21 = some (.d (.int .i32 0)) := by kernel_rfl
@[go_sem] theorem T21_ok : zeroOk T21 = true := by kernel_rfl
noncomputable def T22 : Ty := (tyOf Try.prog 22).getD ⟨.invalid, 0, 0, none⟩
@[go_sem] theorem ty22 : tyOf Try.prog 22 = some T22 := by kernel_rfl
@[go_sem] theorem T22_desc : T22.desc = .int .u16 := by kernel_rfl
@[go_sem] theorem T22_size : T22.size = 1 := by kernel_rfl
@[go_sem] theorem T22_bytes : T22.bytes = 2 := by kernel_rfl
@[go_sem] theorem T22_zero : zeroPV T22 = some (.d (.int .u16 0)) := by kernel_rfl
@[go_sem] theorem T22_ok : zeroOk T22 = true := by kernel_rfl
noncomputable def T23 : Ty := (tyOf Try.prog 23).getD ⟨.invalid, 0, 0, none⟩
@[go_sem] theorem ty23 : tyOf Try.prog 23 = some T23 := by kernel_rfl
@[go_sem] theorem T23_desc : T23.desc = .pointer 67 := by kernel_rfl
@[go_sem] theorem T23_size : T23.size = 1 := by kernel_rfl
@[go_sem] theorem T23_bytes : T23.bytes = 8 := by kernel_rfl
@[go_sem] theorem T23_zero : zeroPV T23 = some (.d .nilptr) := by kernel_rfl
@[go_sem] theorem T23_ok : zeroOk T23 = true := by kernel_rfl
noncomputable def T24 : Ty := (tyOf Try.prog 24).getD ⟨.invalid, 0, 0, none⟩
@[go_sem] theorem ty24 : tyOf Try.prog 24 = some T24 := by kernel_rfl
@[go_sem] theorem T24_desc : T24.desc = .int .i64 := by kernel_rfl
@[go_sem] theorem T24_size : T24.size = 1 := by kernel_rfl
@[go_sem] theorem T24_bytes : T24.bytes = 8 := by kernel_rfl
@[go_sem] theorem T24_zero : zeroPV T24 = some (.d (.int .i64 0)) := by kernel_rfl
@[go_sem] theorem T24_ok : zeroOk T24 = true := by kernel_rfl
noncomputable def T26 : Ty := (tyOf Try.prog 26).getD ⟨.invalid, 0, 0, none⟩
@[go_sem] theorem ty26 : tyOf Try.prog 26 = some T26 := by kernel_rfl
@[go_sem] theorem T26_desc : T26.desc = .func #[3] #[23, 24] false := by kernel_rfl
@[go_sem] theorem T26_size : T26.size = 1 := by kernel_rfl
@[go_sem] theorem T26_bytes : T26.bytes = 8 := by kernel_rfl
@[go_sem] theorem T26_zero : zeroPV T26 = some (.d .nilfunc) := by kernel_rfl
@[go_sem] theorem T26_ok : zeroOk T26 = true := by kernel_rfl
noncomputable def T27 : Ty := (tyOf Try.prog 27).getD ⟨.invalid, 0, 0, none⟩
@[go_sem] theorem ty27 : tyOf Try.prog 27 = some T27 := by kernel_rfl
@[go_sem] theorem T27_desc : T27.desc = .func #[3, 3] #[24] false := by kernel_rfl
@[go_sem] theorem T27_size : T27.size = 1 := by kernel_rfl
@[go_sem] theorem T27_bytes : T27.bytes = 8 := by kernel_rfl
@[go_sem] theorem T27_zero : zeroPV T27 = some (.d .nilfunc) := by kernel_rfl
@[go_sem] theorem T27_ok : zeroOk T27 = true := by kernel_rfl
noncomputable def T29 : Ty := (tyOf Try.prog 29).getD ⟨.invalid, 0, 0, none⟩
@[go_sem] theorem ty29 : tyOf Try.prog 29 = some T29 := by kernel_rfl
@[go_sem] theorem T29_desc : T29.desc = .func #[3] #[3, 24] false := by kernel_rfl
@[go_sem] theorem T29_size : T29.size = 1 := by kernel_rfl
@[go_sem] theorem T29_bytes : T29.bytes = 8 := by kernel_rfl
@[go_sem] theorem T29_zero : zeroPV T29 = some (.d .nilfunc) := by kernel_rfl
@[go_sem] theorem T29_ok : zeroOk T29 = true := by kernel_rfl
noncomputable def T30 : Ty := (tyOf Try.prog 30).getD ⟨.invalid, 0, 0, none⟩
@[go_sem] theorem ty30 : tyOf Try.prog 30 = some T30 := by kernel_rfl
@[go_sem] theorem T30_desc : T30.desc = .func #[3] #[24] false := by kernel_rfl
@[go_sem] theorem T30_size : T30.size = 1 := by kernel_rfl
@[go_sem] theorem T30_bytes : T30.bytes = 8 := by kernel_rfl
@[go_sem] theorem T30_zero : zeroPV T30 = some (.d .nilfunc) := by kernel_rfl
@[go_sem] theorem T30_ok : zeroOk T30 = true := by kernel_rfl
noncomputable def T31 : Ty := (tyOf Try.prog 31).getD ⟨.invalid, 0, 0, none⟩
@[go_sem] theorem ty31 : tyOf Try.prog 31 = some T31 := by kernel_rfl
@[go_sem] theorem T31_desc : T31.desc = .slice 51 := by kernel_rfl
@[go_sem] theorem es31 : elemSize Try.prog 31 = some 5 := by kernel_rfl
@[go_sem] theorem T31_size : T31.size = 1 := by kernel_rfl
@[go_sem] theorem T31_bytes : T31.bytes = 24 := by kernel_rfl
@[go_sem] theorem T31_zero : zeroPV T31 = some (.d .nilslice) := by kernel_rfl
@[go_sem] theorem T31_ok : zeroOk T31 = true := by kernel_rfl
noncomputable def T32 : Ty := (tyOf Try.prog 32).getD ⟨.invalid, 0, 0, none⟩
@[go_sem] theorem ty32 : tyOf Try.prog 32 = some T32 := by kernel_rfl
@[go_sem] theorem T32_desc : T32.desc = .func #[] #[31] false := by kernel_rfl
@[go_sem] theorem T32_size : T32.size = 1 := by kernel_rfl
@[go_sem] theorem T32_bytes : T32.bytes = 8 := by kernel_rfl
@[go_sem] theorem T32_zero : zeroPV T32 = some (.d .nilfunc) := by kernel_rfl
@[go_sem] theorem T32_ok : zeroOk T32 = true := by kernel_rfl
noncomputable def T33 : Ty := (tyOf Try.prog 33).getD ⟨.invalid, 0, 0, none⟩
@[go_sem] theorem ty33 : tyOf Try.prog 33 = some T33 := by kernel_rfl
@[go_sem] theorem T33_desc : T33.desc = .func #[] #[4] false := by kernel_rfl
@[go_sem] theorem T33_size : T33.size = 1 := by kernel_rfl
@[go_sem] theorem T33_bytes : T33.bytes = 8 := by kernel_rfl
@[go_sem] theorem T33_zero : zeroPV T33 = some (.d .nilfunc) := by kernel_rfl
@[go_sem] theorem T33_ok : zeroOk T33 = true := by kernel_rfl
noncomputable def T34 : Ty := (tyOf Try.prog 34).getD ⟨.invalid, 0, 0, none⟩
@[go_sem] theorem ty34 : tyOf Try.prog 34 = some T34 := by kernel_rfl
@[go_sem] theorem T34_desc : T34.desc = .slice 88 := by kernel_rfl
@[go_sem] theorem es34 : elemSize Try.prog 34 = some 8 := by kernel_rfl
@[go_sem] theorem T34_size : T34.size = 1 := by kernel_rfl
@[go_sem] theorem T34_bytes : T34.bytes = 24 := by kernel_rfl
@[go_sem] theorem T34_zero : zeroPV T34 = some (.d .nilslice) := by kernel_rfl
@[go_sem] theorem T34_ok : zeroOk T34 = true := by kernel_rfl
noncomputable def T35 : Ty := (tyOf Try.prog 35).getD ⟨.invalid, 0, 0, none⟩
@[go_sem] theorem ty35 : tyOf Try.prog 35 = some T35 := by kernel_rfl
@[go_sem] theorem T35_desc : T35.desc = .func #[] #[34] false := by kernel_rfl
@[go_sem] theorem T35_size : T35.size = 1 := by kernel_rfl
@[go_sem] theorem T35_bytes : T35.bytes = 8 := by kernel_rfl
@[go_sem] theorem T35_zero : zeroPV T35 = some (.d .nilfunc) := by kernel_rfl
@[go_sem] theorem T35_ok : zeroOk T35 = true := by kernel_rfl
noncomputable def T37 : Ty := (tyOf Try.prog 37).getD ⟨.invalid, 0, 0, none⟩
@[go_sem] theorem ty37 : tyOf Try.prog 37 = some T37 := by kernel_rfl
@[go_sem] theorem T37_desc : T37.desc = .func #[3] #[4, 24] false := by kernel_rfl
@[go_sem] theorem T37_size : T37.size = 1 := by kernel_rfl
@[go_sem] theorem T37_bytes : T37.bytes = 8 := by kernel_rfl
@[go_sem] theorem T37_zero : zeroPV T37 = some (.d .nilfunc) := by kernel_rfl
@[go_sem] theorem T37_ok : zeroOk T37 = true := by kernel_rfl
noncomputable def T38 : Ty := (tyOf Try.prog 38).getD ⟨.invalid, 0, 0, none⟩
@[go_sem] theorem ty38 : tyOf Try.prog 38 = some T38 := by kernel_rfl
@[go_sem] theorem T38_desc : T38.desc = .func #[4, 22] #[4] false := by kernel_rfl
@[go_sem] theorem T38_size : T38.size = 1 := by kernel_rfl
@[go_sem] theorem T38_bytes : T38.bytes = 8 := by kernel_rfl
@[go_sem] theorem T38_zero : zeroPV T38 = some (.d .nilfunc) := by kernel_rfl
@[go_sem] theorem T38_ok : zeroOk T38 = true := by kernel_rfl
noncomputable def T39 : Ty := (tyOf Try.prog 39).getD ⟨.invalid, 0, 0, none⟩
@[go_sem] theorem ty39 : tyOf Try.prog 39 = some T39 := by kernel_rfl
@[go_sem] theorem T39_desc : T39.desc = .slice 44 := by kernel_rfl
@[go_sem] theorem es39 : elemSize Try.prog 39 = some 3 := by kernel_rfl
@[go_sem] theorem T39_size : T39.size = 1 := by kernel_rfl
@[go_sem] theorem T39_bytes : T39.bytes = 24 := by kernel_rfl
@[go_sem] theorem T39_zero : zeroPV T39 = some (.d .nilslice) := by kernel_rfl
@[go_sem] theorem T39_ok : zeroOk T39 = true := by kernel_rfl
noncomputable def T40 : Ty := (tyOf Try.prog 40).getD ⟨.invalid, 0, 0, none⟩
@[go_sem] theorem ty40 : tyOf Try.prog 40 = some T40 := by kernel_rfl
@[go_sem] theorem T40_desc : T40.desc = .slice 46 := by kernel_rfl
@[go_sem] theorem es40 : elemSize Try.prog 40 = some 3 := by kernel_rfl
@[go_sem] theorem T40_size : T40.size = 1 := by kernel_rfl
@[go_sem] theorem T40_bytes : T40.bytes = 24 := by kernel_rfl
@[go_sem] theorem T40_zero : zeroPV T40 = some (.d .nilslice) := by kernel_rfl
@[go_sem] theorem T40_ok : zeroOk T40 = true := by kernel_rfl
noncomputable def T41 : Ty := (tyOf Try.prog 41).getD ⟨.invalid, 0, 0, none⟩
@[go_sem] theorem ty41 : tyOf Try.prog 41 = some T41 := by kernel_rfl
@[go_sem] theorem T41_desc : T41.desc = .slice 3 := by kernel_rfl
@[go_sem] theorem es41 : elemSize Try.prog 41 = some 1 := by kernel_rfl
@[go_sem] theorem T41_size : T41.size = 1 := by kernel_rfl
@[go_sem] theorem T41_bytes : T41.bytes = 24 := by kernel_rfl
@[go_sem] theorem T41_zero : zeroPV T41 = some (.d .nilslice) := by kernel_rfl
@[go_sem] theorem T41_ok : zeroOk T41 = true := by kernel_rfl
noncomputable def T42 : Ty := (tyOf Try.prog 42).getD ⟨.invalid, 0, 0, none⟩
@[go_sem] theorem ty42 : tyOf Try.prog 42 = some T42 := by kernel_rfl
@[go_sem] theorem T42_desc : T42.desc = .func #[23, 44] #[] false := by kernel_rfl
@[go_sem] theorem T42_size : T42.size = 1 := by kernel_rfl
@[go_sem] theorem T42_bytes : T42.bytes = 8 := by kernel_rfl
@[go_sem] theorem T42_zero : zeroPV T42 = some (.d .nilfunc) := by kernel_rfl
@[go_sem] theorem T42_ok : zeroOk T42 = true := by kernel_rfl
noncomputable def T43 : Ty := (tyOf Try.prog 43).getD ⟨.invalid, 0, 0, none⟩
@[go_sem] theorem ty43 : tyOf Try.prog 43 = some T43 := by kernel_rfl
noncomputable def fs43 : Array Field := match T43.desc with | .struct fs => fs | _ => #[]
@[go_sem] theorem T43_desc : T43.desc = .struct fs43 := by kernel_rfl
noncomputable def fs43_0 : Field := fs43.getD 0 default
@[go_sem] theorem fs43_at0 : fs43[0]? = some fs43_0 := by kernel_rfl
@[go_sem] theorem fs43_0_type : fs43_0.type = 5 := by kernel_rfl
@[go_sem] theorem fs43_0_off : fs43_0.offset = 0 := by kernel_rfl
@[go_sem] theorem fo43_0 : fieldOf Try.prog 43 0 = some (0, 1) := by kernel_rfl
@[go_sem] theorem fs43_0_nm : (fs43_0.name == "_") = false := by kernel_rfl
noncomputable def fs43_1 : Field := fs43.getD 1 default
@[go_sem] theorem fs43_at1 : fs43[1]? = some fs43_1 := by kernel_rfl
@[go_sem] theorem fs43_1_type : fs43_1.type = 3 := by kernel_rfl
@[go_sem] theorem fs43_1_off : fs43_1.offset = 1 := by kernel_rfl
@[go_sem] theorem fo43_1 : fieldOf Try.prog 43 1 = some (1, 1) := by kernel_rfl
@[go_sem] theorem fs43_1_nm : (fs43_1.name == "_") = false := by kernel_rfl
noncomputable def fs43_2 : Field := fs43.getD 2 default
@[go_sem] theorem fs43_at2 : fs43[2]? = some fs43_2 := by kernel_rfl
@[go_sem] theorem fs43_2_type : fs43_2.type = 3 := by kernel_rfl
@[go_sem] theorem fs43_2_off : fs43_2.offset = 2 := by kernel_rfl
@[go_sem] theorem fo43_2 : fieldOf Try.prog 43 2 = some (2, 1) := by kernel_rfl
@[go_sem] theorem fs43_2_nm : (fs43_2.name == "_") = false := by kernel_rfl
@[go_sem] theorem sih43 : Try.prog.stoodInHeld 43 = false := by kernel_rfl
@[go_sem] theorem egt43 : Try.prog.eqGuardType Try.prog.depth 43 = false := by kernel_rfl
@[go_sem] theorem pl43 : placesOf Try.prog fs43.toList = some [(0, 1), (1, 1), (2, 1)] := by kernel_rfl
@[go_sem] theorem T43_size : T43.size = 3 := by kernel_rfl
@[go_sem] theorem T43_bytes : T43.bytes = 24 := by kernel_rfl
@[go_sem] theorem T43_cells : zeroCells T43.zero = some [.d (.int .u8 0), .d (.int .i64 0), .d (.int .i64 0)] := by kernel_rfl
@[go_sem] theorem T43_zero : zeroPV T43 = some (.d (.agg [(.int .u8 0), (.int .i64 0), (.int .i64 0)])) := by kernel_rfl
@[go_sem] theorem T43_ok : zeroOk T43 = true := by kernel_rfl
noncomputable def T44 : Ty := (tyOf Try.prog 44).getD ⟨.invalid, 0, 0, none⟩
@[go_sem] theorem ty44 : tyOf Try.prog 44 = some T44 := by kernel_rfl
noncomputable def fs44 : Array Field := match T44.desc with | .struct fs => fs | _ => #[]
@[go_sem] theorem T44_desc : T44.desc = .struct fs44 := by kernel_rfl
noncomputable def fs44_0 : Field := fs44.getD 0 default
@[go_sem] theorem fs44_at0 : fs44[0]? = some fs44_0 := by kernel_rfl
@[go_sem] theorem fs44_0_type : fs44_0.type = 5 := by kernel_rfl
@[go_sem] theorem fs44_0_off : fs44_0.offset = 0 := by kernel_rfl
@[go_sem] theorem fo44_0 : fieldOf Try.prog 44 0 = some (0, 1) := by kernel_rfl
@[go_sem] theorem fs44_0_nm : (fs44_0.name == "_") = false := by kernel_rfl
noncomputable def fs44_1 : Field := fs44.getD 1 default
@[go_sem] theorem fs44_at1 : fs44[1]? = some fs44_1 := by kernel_rfl
@[go_sem] theorem fs44_1_type : fs44_1.type = 3 := by kernel_rfl
@[go_sem] theorem fs44_1_off : fs44_1.offset = 1 := by kernel_rfl
@[go_sem] theorem fo44_1 : fieldOf Try.prog 44 1 = some (1, 1) := by kernel_rfl
@[go_sem] theorem fs44_1_nm : (fs44_1.name == "_") = false := by kernel_rfl
noncomputable def fs44_2 : Field := fs44.getD 2 default
@[go_sem] theorem fs44_at2 : fs44[2]? = some fs44_2 := by kernel_rfl
@[go_sem] theorem fs44_2_type : fs44_2.type = 3 := by kernel_rfl
@[go_sem] theorem fs44_2_off : fs44_2.offset = 2 := by kernel_rfl
@[go_sem] theorem fo44_2 : fieldOf Try.prog 44 2 = some (2, 1) := by kernel_rfl
@[go_sem] theorem fs44_2_nm : (fs44_2.name == "_") = false := by kernel_rfl
@[go_sem] theorem sih44 : Try.prog.stoodInHeld 44 = false := by kernel_rfl
@[go_sem] theorem egt44 : Try.prog.eqGuardType Try.prog.depth 44 = false := by kernel_rfl
@[go_sem] theorem pl44 : placesOf Try.prog fs44.toList = some [(0, 1), (1, 1), (2, 1)] := by kernel_rfl
@[go_sem] theorem T44_size : T44.size = 3 := by kernel_rfl
@[go_sem] theorem T44_bytes : T44.bytes = 24 := by kernel_rfl
@[go_sem] theorem T44_cells : zeroCells T44.zero = some [.d (.int .u8 0), .d (.int .i64 0), .d (.int .i64 0)] := by kernel_rfl
@[go_sem] theorem T44_zero : zeroPV T44 = some (.d (.agg [(.int .u8 0), (.int .i64 0), (.int .i64 0)])) := by kernel_rfl
@[go_sem] theorem T44_ok : zeroOk T44 = true := by kernel_rfl
noncomputable def T45 : Ty := (tyOf Try.prog 45).getD ⟨.invalid, 0, 0, none⟩
@[go_sem] theorem ty45 : tyOf Try.prog 45 = some T45 := by kernel_rfl
noncomputable def fs45 : Array Field := match T45.desc with | .struct fs => fs | _ => #[]
@[go_sem] theorem T45_desc : T45.desc = .struct fs45 := by kernel_rfl
noncomputable def fs45_0 : Field := fs45.getD 0 default
@[go_sem] theorem fs45_at0 : fs45[0]? = some fs45_0 := by kernel_rfl
@[go_sem] theorem fs45_0_type : fs45_0.type = 3 := by kernel_rfl
@[go_sem] theorem fs45_0_off : fs45_0.offset = 0 := by kernel_rfl
@[go_sem] theorem fo45_0 : fieldOf Try.prog 45 0 = some (0, 1) := by kernel_rfl
@[go_sem] theorem fs45_0_nm : (fs45_0.name == "_") = false := by kernel_rfl
noncomputable def fs45_1 : Field := fs45.getD 1 default
@[go_sem] theorem fs45_at1 : fs45[1]? = some fs45_1 := by kernel_rfl
@[go_sem] theorem fs45_1_type : fs45_1.type = 3 := by kernel_rfl
@[go_sem] theorem fs45_1_off : fs45_1.offset = 1 := by kernel_rfl
@[go_sem] theorem fo45_1 : fieldOf Try.prog 45 1 = some (1, 1) := by kernel_rfl
@[go_sem] theorem fs45_1_nm : (fs45_1.name == "_") = false := by kernel_rfl
noncomputable def fs45_2 : Field := fs45.getD 2 default
@[go_sem] theorem fs45_at2 : fs45[2]? = some fs45_2 := by kernel_rfl
@[go_sem] theorem fs45_2_type : fs45_2.type = 3 := by kernel_rfl
@[go_sem] theorem fs45_2_off : fs45_2.offset = 2 := by kernel_rfl
@[go_sem] theorem fo45_2 : fieldOf Try.prog 45 2 = some (2, 1) := by kernel_rfl
@[go_sem] theorem fs45_2_nm : (fs45_2.name == "_") = false := by kernel_rfl
@[go_sem] theorem sih45 : Try.prog.stoodInHeld 45 = false := by kernel_rfl
@[go_sem] theorem egt45 : Try.prog.eqGuardType Try.prog.depth 45 = false := by kernel_rfl
@[go_sem] theorem pl45 : placesOf Try.prog fs45.toList = some [(0, 1), (1, 1), (2, 1)] := by kernel_rfl
@[go_sem] theorem T45_size : T45.size = 3 := by kernel_rfl
@[go_sem] theorem T45_bytes : T45.bytes = 24 := by kernel_rfl
@[go_sem] theorem T45_cells : zeroCells T45.zero = some [.d (.int .i64 0), .d (.int .i64 0), .d (.int .i64 0)] := by kernel_rfl
@[go_sem] theorem T45_zero : zeroPV T45 = some (.d (.agg [(.int .i64 0), (.int .i64 0), (.int .i64 0)])) := by kernel_rfl
@[go_sem] theorem T45_ok : zeroOk T45 = true := by kernel_rfl
noncomputable def T46 : Ty := (tyOf Try.prog 46).getD ⟨.invalid, 0, 0, none⟩
@[go_sem] theorem ty46 : tyOf Try.prog 46 = some T46 := by kernel_rfl
noncomputable def fs46 : Array Field := match T46.desc with | .struct fs => fs | _ => #[]
@[go_sem] theorem T46_desc : T46.desc = .struct fs46 := by kernel_rfl
noncomputable def fs46_0 : Field := fs46.getD 0 default
@[go_sem] theorem fs46_at0 : fs46[0]? = some fs46_0 := by kernel_rfl
@[go_sem] theorem fs46_0_type : fs46_0.type = 3 := by kernel_rfl
@[go_sem] theorem fs46_0_off : fs46_0.offset = 0 := by kernel_rfl
@[go_sem] theorem fo46_0 : fieldOf Try.prog 46 0 = some (0, 1) := by kernel_rfl
@[go_sem] theorem fs46_0_nm : (fs46_0.name == "_") = false := by kernel_rfl
noncomputable def fs46_1 : Field := fs46.getD 1 default
@[go_sem] theorem fs46_at1 : fs46[1]? = some fs46_1 := by kernel_rfl
@[go_sem] theorem fs46_1_type : fs46_1.type = 3 := by kernel_rfl
@[go_sem] theorem fs46_1_off : fs46_1.offset = 1 := by kernel_rfl
@[go_sem] theorem fo46_1 : fieldOf Try.prog 46 1 = some (1, 1) := by kernel_rfl
@[go_sem] theorem fs46_1_nm : (fs46_1.name == "_") = false := by kernel_rfl
noncomputable def fs46_2 : Field := fs46.getD 2 default
@[go_sem] theorem fs46_at2 : fs46[2]? = some fs46_2 := by kernel_rfl
@[go_sem] theorem fs46_2_type : fs46_2.type = 3 := by kernel_rfl
@[go_sem] theorem fs46_2_off : fs46_2.offset = 2 := by kernel_rfl
@[go_sem] theorem fo46_2 : fieldOf Try.prog 46 2 = some (2, 1) := by kernel_rfl
@[go_sem] theorem fs46_2_nm : (fs46_2.name == "_") = false := by kernel_rfl
theorem fsl46 : fs46.toList = [fs46_0, fs46_1, fs46_2] := by kernel_rfl
@[go_sem] theorem sih46 : Try.prog.stoodInHeld 46 = false := by kernel_rfl
@[go_sem] theorem egt46 : Try.prog.eqGuardType Try.prog.depth 46 = false := by kernel_rfl
@[go_sem] theorem pl46 : placesOf Try.prog fs46.toList = some [(0, 1), (1, 1), (2, 1)] := by kernel_rfl
@[go_sem] theorem T46_size : T46.size = 3 := by kernel_rfl
@[go_sem] theorem T46_bytes : T46.bytes = 24 := by kernel_rfl
@[go_sem] theorem T46_cells : zeroCells T46.zero = some [.d (.int .i64 0), .d (.int .i64 0), .d (.int .i64 0)] := by kernel_rfl
@[go_sem] theorem T46_zero : zeroPV T46 = some (.d (.agg [(.int .i64 0), (.int .i64 0), (.int .i64 0)])) := by kernel_rfl
@[go_sem] theorem T46_ok : zeroOk T46 = true := by kernel_rfl
noncomputable def T48 : Ty := (tyOf Try.prog 48).getD ⟨.invalid, 0, 0, none⟩
@[go_sem] theorem ty48 : tyOf Try.prog 48 = some T48 := by kernel_rfl
@[go_sem] theorem T48_desc : T48.desc = .func #[3] #[46, 3, 24] false := by kernel_rfl
@[go_sem] theorem T48_size : T48.size = 1 := by kernel_rfl
@[go_sem] theorem T48_bytes : T48.bytes = 8 := by kernel_rfl
@[go_sem] theorem T48_zero : zeroPV T48 = some (.d .nilfunc) := by kernel_rfl
@[go_sem] theorem T48_ok : zeroOk T48 = true := by kernel_rfl
noncomputable def T49 : Ty := (tyOf Try.prog 49).getD ⟨.invalid, 0, 0, none⟩
@[go_sem] theorem ty49 : tyOf Try.prog 49 = some T49 := by kernel_rfl
@[go_sem] theorem T49_desc : T49.desc = .func #[46, 46] #[4] false := by kernel_rfl
@[go_sem] theorem T49_size : T49.size = 1 := by kernel_rfl
@[go_sem] theorem T49_bytes : T49.bytes = 8 := by kernel_rfl
@[go_sem] theorem T49_zero : zeroPV T49 = some (.d .nilfunc) := by kernel_rfl
@[go_sem] theorem T49_ok : zeroOk T49 = true := by kernel_rfl
noncomputable def T50 : Ty := (tyOf Try.prog 50).getD ⟨.invalid, 0, 0, none⟩
@[go_sem] theorem ty50 : tyOf Try.prog 50 = some T50 := by kernel_rfl
noncomputable def fs50 : Array Field := match T50.desc with | .struct fs => fs | _ => #[]
@[go_sem] theorem T50_desc : T50.desc = .struct fs50 := by kernel_rfl
noncomputable def fs50_0 : Field := fs50.getD 0 default
@[go_sem] theorem fs50_at0 : fs50[0]? = some fs50_0 := by kernel_rfl
@[go_sem] theorem fs50_0_type : fs50_0.type = 3 := by kernel_rfl
@[go_sem] theorem fs50_0_off : fs50_0.offset = 0 := by kernel_rfl
@[go_sem] theorem fo50_0 : fieldOf Try.prog 50 0 = some (0, 1) := by kernel_rfl
@[go_sem] theorem fs50_0_nm : (fs50_0.name == "_") = false := by kernel_rfl
noncomputable def fs50_1 : Field := fs50.getD 1 default
@[go_sem] theorem fs50_at1 : fs50[1]? = some fs50_1 := by kernel_rfl
@[go_sem] theorem fs50_1_type : fs50_1.type = 4 := by kernel_rfl
@[go_sem] theorem fs50_1_off : fs50_1.offset = 1 := by kernel_rfl
@[go_sem] theorem fo50_1 : fieldOf Try.prog 50 1 = some (1, 1) := by kernel_rfl
@[go_sem] theorem fs50_1_nm : (fs50_1.name == "_") = false := by kernel_rfl
noncomputable def fs50_2 : Field := fs50.getD 2 default
@[go_sem] theorem fs50_at2 : fs50[2]? = some fs50_2 := by kernel_rfl
@[go_sem] theorem fs50_2_type : fs50_2.type = 3 := by kernel_rfl
@[go_sem] theorem fs50_2_off : fs50_2.offset = 2 := by kernel_rfl
@[go_sem] theorem fo50_2 : fieldOf Try.prog 50 2 = some (2, 1) := by kernel_rfl
@[go_sem] theorem fs50_2_nm : (fs50_2.name == "_") = false := by kernel_rfl
noncomputable def fs50_3 : Field := fs50.getD 3 default
@[go_sem] theorem fs50_at3 : fs50[3]? = some fs50_3 := by kernel_rfl
@[go_sem] theorem fs50_3_type : fs50_3.type = 3 := by kernel_rfl
@[go_sem] theorem fs50_3_off : fs50_3.offset = 3 := by kernel_rfl
@[go_sem] theorem fo50_3 : fieldOf Try.prog 50 3 = some (3, 1) := by kernel_rfl
@[go_sem] theorem fs50_3_nm : (fs50_3.name == "_") = false := by kernel_rfl
noncomputable def fs50_4 : Field := fs50.getD 4 default
@[go_sem] theorem fs50_at4 : fs50[4]? = some fs50_4 := by kernel_rfl
@[go_sem] theorem fs50_4_type : fs50_4.type = 3 := by kernel_rfl
@[go_sem] theorem fs50_4_off : fs50_4.offset = 4 := by kernel_rfl
@[go_sem] theorem fo50_4 : fieldOf Try.prog 50 4 = some (4, 1) := by kernel_rfl
@[go_sem] theorem fs50_4_nm : (fs50_4.name == "_") = false := by kernel_rfl
@[go_sem] theorem sih50 : Try.prog.stoodInHeld 50 = false := by kernel_rfl
@[go_sem] theorem egt50 : Try.prog.eqGuardType Try.prog.depth 50 = false := by kernel_rfl
@[go_sem] theorem pl50 : placesOf Try.prog fs50.toList = some [(0, 1), (1, 1), (2, 1), (3, 1), (4, 1)] := by kernel_rfl
@[go_sem] theorem T50_size : T50.size = 5 := by kernel_rfl
@[go_sem] theorem T50_bytes : T50.bytes = 40 := by kernel_rfl
@[go_sem] theorem T50_cells : zeroCells T50.zero = some [.d (.int .i64 0), .d (.bool false), .d (.int .i64 0), .d (.int .i64 0), .d (.int .i64 0)] := by kernel_rfl
@[go_sem] theorem T50_zero : zeroPV T50 = some (.d (.agg [(.int .i64 0), (.bool false), (.int .i64 0), (.int .i64 0), (.int .i64 0)])) := by kernel_rfl
@[go_sem] theorem T50_ok : zeroOk T50 = true := by kernel_rfl
noncomputable def T51 : Ty := (tyOf Try.prog 51).getD ⟨.invalid, 0, 0, none⟩
@[go_sem] theorem ty51 : tyOf Try.prog 51 = some T51 := by kernel_rfl
noncomputable def fs51 : Array Field := match T51.desc with | .struct fs => fs | _ => #[]
@[go_sem] theorem T51_desc : T51.desc = .struct fs51 := by kernel_rfl
noncomputable def fs51_0 : Field := fs51.getD 0 default
@[go_sem] theorem fs51_at0 : fs51[0]? = some fs51_0 := by kernel_rfl
@[go_sem] theorem fs51_0_type : fs51_0.type = 3 := by kernel_rfl
@[go_sem] theorem fs51_0_off : fs51_0.offset = 0 := by kernel_rfl
@[go_sem] theorem fo51_0 : fieldOf Try.prog 51 0 = some (0, 1) := by kernel_rfl
@[go_sem] theorem fs51_0_nm : (fs51_0.name == "_") = false := by kernel_rfl
noncomputable def fs51_1 : Field := fs51.getD 1 default
@[go_sem] theorem fs51_at1 : fs51[1]? = some fs51_1 := by kernel_rfl
@[go_sem] theorem fs51_1_type : fs51_1.type = 4 := by kernel_rfl
@[go_sem] theorem fs51_1_off : fs51_1.offset = 1 := by kernel_rfl
@[go_sem] theorem fo51_1 : fieldOf Try.prog 51 1 = some (1, 1) := by kernel_rfl
@[go_sem] theorem fs51_1_nm : (fs51_1.name == "_") = false := by kernel_rfl
noncomputable def fs51_2 : Field := fs51.getD 2 default
@[go_sem] theorem fs51_at2 : fs51[2]? = some fs51_2 := by kernel_rfl
@[go_sem] theorem fs51_2_type : fs51_2.type = 3 := by kernel_rfl
@[go_sem] theorem fs51_2_off : fs51_2.offset = 2 := by kernel_rfl
@[go_sem] theorem fo51_2 : fieldOf Try.prog 51 2 = some (2, 1) := by kernel_rfl
@[go_sem] theorem fs51_2_nm : (fs51_2.name == "_") = false := by kernel_rfl
noncomputable def fs51_3 : Field := fs51.getD 3 default
@[go_sem] theorem fs51_at3 : fs51[3]? = some fs51_3 := by kernel_rfl
@[go_sem] theorem fs51_3_type : fs51_3.type = 3 := by kernel_rfl
@[go_sem] theorem fs51_3_off : fs51_3.offset = 3 := by kernel_rfl
@[go_sem] theorem fo51_3 : fieldOf Try.prog 51 3 = some (3, 1) := by kernel_rfl
@[go_sem] theorem fs51_3_nm : (fs51_3.name == "_") = false := by kernel_rfl
noncomputable def fs51_4 : Field := fs51.getD 4 default
@[go_sem] theorem fs51_at4 : fs51[4]? = some fs51_4 := by kernel_rfl
@[go_sem] theorem fs51_4_type : fs51_4.type = 3 := by kernel_rfl
@[go_sem] theorem fs51_4_off : fs51_4.offset = 4 := by kernel_rfl
@[go_sem] theorem fo51_4 : fieldOf Try.prog 51 4 = some (4, 1) := by kernel_rfl
@[go_sem] theorem fs51_4_nm : (fs51_4.name == "_") = false := by kernel_rfl
@[go_sem] theorem sih51 : Try.prog.stoodInHeld 51 = false := by kernel_rfl
@[go_sem] theorem egt51 : Try.prog.eqGuardType Try.prog.depth 51 = false := by kernel_rfl
@[go_sem] theorem pl51 : placesOf Try.prog fs51.toList = some [(0, 1), (1, 1), (2, 1), (3, 1), (4, 1)] := by kernel_rfl
@[go_sem] theorem T51_size : T51.size = 5 := by kernel_rfl
@[go_sem] theorem T51_bytes : T51.bytes = 40 := by kernel_rfl
@[go_sem] theorem T51_cells : zeroCells T51.zero = some [.d (.int .i64 0), .d (.bool false), .d (.int .i64 0), .d (.int .i64 0), .d (.int .i64 0)] := by kernel_rfl
@[go_sem] theorem T51_zero : zeroPV T51 = some (.d (.agg [(.int .i64 0), (.bool false), (.int .i64 0), (.int .i64 0), (.int .i64 0)])) := by kernel_rfl
@[go_sem] theorem T51_ok : zeroOk T51 = true := by kernel_rfl
noncomputable def T52 : Ty := (tyOf Try.prog 52).getD ⟨.invalid, 0, 0, none⟩
@[go_sem] theorem ty52 : tyOf Try.prog 52 = some T52 := by kernel_rfl
@[go_sem] theorem T52_desc : T52.desc = .func #[3, 39] #[4] false := by kernel_rfl
@[go_sem] theorem T52_size : T52.size = 1 := by kernel_rfl
@[go_sem] theorem T52_bytes : T52.bytes = 8 := by kernel_rfl
@[go_sem] theorem T52_zero : zeroPV T52 = some (.d .nilfunc) := by kernel_rfl
@[go_sem] theorem T52_ok : zeroOk T52 = true := by kernel_rfl
noncomputable def T53 : Ty := (tyOf Try.prog 53).getD ⟨.invalid, 0, 0, none⟩
@[go_sem] theorem ty53 : tyOf Try.prog 53 = some T53 := by kernel_rfl
@[go_sem] theorem T53_desc : T53.desc = .slice 96 := by kernel_rfl
@[go_sem] theorem es53 : elemSize Try.prog 53 = some 17 := by kernel_rfl
@[go_sem] theorem T53_size : T53.size = 1 := by kernel_rfl
@[go_sem] theorem T53_bytes : T53.bytes = 24 := by kernel_rfl
@[go_sem] theorem T53_zero : zeroPV T53 = some (.d .nilslice) := by kernel_rfl
@[go_sem] theorem T53_ok : zeroOk T53 = true := by kernel_rfl
noncomputable def T54 : Ty := (tyOf Try.prog 54).getD ⟨.invalid, 0, 0, none⟩
@[go_sem] theorem ty54 : tyOf Try.prog 54 = some T54 := by kernel_rfl
noncomputable def fs54 : Array Field := match T54.desc with | .struct fs => fs | _ => #[]
@[go_sem] theorem T54_desc : T54.desc = .struct fs54 := by kernel_rfl
noncomputable def fs54_0 : Field := fs54.getD 0 default
@[go_sem] theorem fs54_at0 : fs54[0]? = some fs54_0 := by kernel_rfl
@[go_sem] theorem fs54_0_type : fs54_0.type = 53 := by kernel_rfl
@[go_sem] theorem fs54_0_off : fs54_0.offset = 0 := by kernel_rfl
@[go_sem] theorem fo54_0 : fieldOf Try.prog 54 0 = some (0, 1) := by kernel_rfl
noncomputable def fs54_1 : Field := fs54.getD 1 default
@[go_sem] theorem fs54_at1 : fs54[1]? = some fs54_1 := by kernel_rfl
@[go_sem] theorem fs54_1_type : fs54_1.type = 34 := by kernel_rfl
@[go_sem] theorem fs54_1_off : fs54_1.offset = 1 := by kernel_rfl
@[go_sem] theorem fo54_1 : fieldOf Try.prog 54 1 = some (1, 1) := by kernel_rfl
noncomputable def fs54_2 : Field := fs54.getD 2 default
@[go_sem] theorem fs54_at2 : fs54[2]? = some fs54_2 := by kernel_rfl
@[go_sem] theorem fs54_2_type : fs54_2.type = 31 := by kernel_rfl
@[go_sem] theorem fs54_2_off : fs54_2.offset = 2 := by kernel_rfl
@[go_sem] theorem fo54_2 : fieldOf Try.prog 54 2 = some (2, 1) := by kernel_rfl
noncomputable def fs54_3 : Field := fs54.getD 3 default
@[go_sem] theorem fs54_at3 : fs54[3]? = some fs54_3 := by kernel_rfl
@[go_sem] theorem fs54_3_type : fs54_3.type = 3 := by kernel_rfl
@[go_sem] theorem fs54_3_off : fs54_3.offset = 3 := by kernel_rfl
@[go_sem] theorem fo54_3 : fieldOf Try.prog 54 3 = some (3, 1) := by kernel_rfl
@[go_sem] theorem pl54 : placesOf Try.prog fs54.toList = some [(0, 1), (1, 1), (2, 1), (3, 1)] := by kernel_rfl
@[go_sem] theorem T54_size : T54.size = 4 := by kernel_rfl
@[go_sem] theorem T54_bytes : T54.bytes = 80 := by kernel_rfl
@[go_sem] theorem T54_cells : zeroCells T54.zero = some [.d .nilslice, .d .nilslice, .d .nilslice, .d (.int .i64 0)] := by kernel_rfl
@[go_sem] theorem T54_zero : zeroPV T54 = some (.d (.agg [.nilslice, .nilslice, .nilslice, (.int .i64 0)])) := by kernel_rfl
@[go_sem] theorem T54_ok : zeroOk T54 = true := by kernel_rfl
noncomputable def T55 : Ty := (tyOf Try.prog 55).getD ⟨.invalid, 0, 0, none⟩
@[go_sem] theorem ty55 : tyOf Try.prog 55 = some T55 := by kernel_rfl
noncomputable def fs55 : Array Field := match T55.desc with | .struct fs => fs | _ => #[]
@[go_sem] theorem T55_desc : T55.desc = .struct fs55 := by kernel_rfl
noncomputable def fs55_0 : Field := fs55.getD 0 default
@[go_sem] theorem fs55_at0 : fs55[0]? = some fs55_0 := by kernel_rfl
@[go_sem] theorem fs55_0_type : fs55_0.type = 53 := by kernel_rfl
@[go_sem] theorem fs55_0_off : fs55_0.offset = 0 := by kernel_rfl
@[go_sem] theorem fo55_0 : fieldOf Try.prog 55 0 = some (0, 1) := by kernel_rfl
noncomputable def fs55_1 : Field := fs55.getD 1 default
@[go_sem] theorem fs55_at1 : fs55[1]? = some fs55_1 := by kernel_rfl
@[go_sem] theorem fs55_1_type : fs55_1.type = 34 := by kernel_rfl
@[go_sem] theorem fs55_1_off : fs55_1.offset = 1 := by kernel_rfl
@[go_sem] theorem fo55_1 : fieldOf Try.prog 55 1 = some (1, 1) := by kernel_rfl
noncomputable def fs55_2 : Field := fs55.getD 2 default
@[go_sem] theorem fs55_at2 : fs55[2]? = some fs55_2 := by kernel_rfl
@[go_sem] theorem fs55_2_type : fs55_2.type = 31 := by kernel_rfl
@[go_sem] theorem fs55_2_off : fs55_2.offset = 2 := by kernel_rfl
@[go_sem] theorem fo55_2 : fieldOf Try.prog 55 2 = some (2, 1) := by kernel_rfl
noncomputable def fs55_3 : Field := fs55.getD 3 default
@[go_sem] theorem fs55_at3 : fs55[3]? = some fs55_3 := by kernel_rfl
@[go_sem] theorem fs55_3_type : fs55_3.type = 3 := by kernel_rfl
@[go_sem] theorem fs55_3_off : fs55_3.offset = 3 := by kernel_rfl
@[go_sem] theorem fo55_3 : fieldOf Try.prog 55 3 = some (3, 1) := by kernel_rfl
@[go_sem] theorem pl55 : placesOf Try.prog fs55.toList = some [(0, 1), (1, 1), (2, 1), (3, 1)] := by kernel_rfl
@[go_sem] theorem T55_size : T55.size = 4 := by kernel_rfl
@[go_sem] theorem T55_bytes : T55.bytes = 80 := by kernel_rfl
@[go_sem] theorem T55_cells : zeroCells T55.zero = some [.d .nilslice, .d .nilslice, .d .nilslice, .d (.int .i64 0)] := by kernel_rfl
@[go_sem] theorem T55_zero : zeroPV T55 = some (.d (.agg [.nilslice, .nilslice, .nilslice, (.int .i64 0)])) := by kernel_rfl
@[go_sem] theorem T55_ok : zeroOk T55 = true := by kernel_rfl
noncomputable def T57 : Ty := (tyOf Try.prog 57).getD ⟨.invalid, 0, 0, none⟩
@[go_sem] theorem ty57 : tyOf Try.prog 57 = some T57 := by kernel_rfl
@[go_sem] theorem T57_desc : T57.desc = .func #[3] #[55, 24] false := by kernel_rfl
@[go_sem] theorem T57_size : T57.size = 1 := by kernel_rfl
@[go_sem] theorem T57_bytes : T57.bytes = 8 := by kernel_rfl
@[go_sem] theorem T57_zero : zeroPV T57 = some (.d .nilfunc) := by kernel_rfl
@[go_sem] theorem T57_ok : zeroOk T57 = true := by kernel_rfl
noncomputable def T59 : Ty := (tyOf Try.prog 59).getD ⟨.invalid, 0, 0, none⟩
@[go_sem] theorem ty59 : tyOf Try.prog 59 = some T59 := by kernel_rfl
@[go_sem] theorem T59_desc : T59.desc = .func #[23, 55, 44] #[55, 4] false := by kernel_rfl
@[go_sem] theorem T59_size : T59.size = 1 := by kernel_rfl
@[go_sem] theorem T59_bytes : T59.bytes = 8 := by kernel_rfl
@[go_sem] theorem T59_zero : zeroPV T59 = some (.d .nilfunc) := by kernel_rfl
@[go_sem] theorem T59_ok : zeroOk T59 = true := by kernel_rfl
noncomputable def T60 : Ty := (tyOf Try.prog 60).getD ⟨.invalid, 0, 0, none⟩
@[go_sem] theorem ty60 : tyOf Try.prog 60 = some T60 := by kernel_rfl
@[go_sem] theorem T60_desc : T60.desc = .func #[23, 55] #[4] false := by kernel_rfl
@[go_sem] theorem T60_size : T60.size = 1 := by kernel_rfl
@[go_sem] theorem T60_bytes : T60.bytes = 8 := by kernel_rfl
@[go_sem] theorem T60_zero : zeroPV T60 = some (.d .nilfunc) := by kernel_rfl
@[go_sem] theorem T60_ok : zeroOk T60 = true := by kernel_rfl
noncomputable def T61 : Ty := (tyOf Try.prog 61).getD ⟨.invalid, 0, 0, none⟩
@[go_sem] theorem ty61 : tyOf Try.prog 61 = some T61 := by kernel_rfl
@[go_sem] theorem T61_desc : T61.desc = .func #[3, 39] #[23] false := by kernel_rfl
@[go_sem] theorem T61_size : T61.size = 1 := by kernel_rfl
@[go_sem] theorem T61_bytes : T61.bytes = 8 := by kernel_rfl
@[go_sem] theorem T61_zero : zeroPV T61 = some (.d .nilfunc) := by kernel_rfl
@[go_sem] theorem T61_ok : zeroOk T61 = true := by kernel_rfl
noncomputable def T62 : Ty := (tyOf Try.prog 62).getD ⟨.invalid, 0, 0, none⟩
@[go_sem] theorem ty62 : tyOf Try.prog 62 = some T62 := by kernel_rfl
@[go_sem] theorem T62_desc : T62.desc = .func #[] #[23] false := by kernel_rfl
@[go_sem] theorem T62_size : T62.size = 1 := by kernel_rfl
@[go_sem] theorem T62_bytes : T62.bytes = 8 := by kernel_rfl
@[go_sem] theorem T62_zero : zeroPV T62 = some (.d .nilfunc) := by kernel_rfl
@[go_sem] theorem T62_ok : zeroOk T62 = true := by kernel_rfl
noncomputable def T63 : Ty := (tyOf Try.prog 63).getD ⟨.invalid, 0, 0, none⟩
@[go_sem] theorem ty63 : tyOf Try.prog 63 = some T63 := by kernel_rfl
@[go_sem] theorem T63_desc : T63.desc = .func #[3, 39, 5, 4, 22] #[4] false := by kernel_rfl
@[go_sem] theorem T63_size : T63.size = 1 := by kernel_rfl
@[go_sem] theorem T63_bytes : T63.bytes = 8 := by kernel_rfl
@[go_sem] theorem T63_zero : zeroPV T63 = some (.d .nilfunc) := by kernel_rfl
@[go_sem] theorem T63_ok : zeroOk T63 = true := by kernel_rfl
noncomputable def T64 : Ty := (tyOf Try.prog 64).getD ⟨.invalid, 0, 0, none⟩
@[go_sem] theorem ty64 : tyOf Try.prog 64 = some T64 := by kernel_rfl
@[go_sem] theorem T64_desc : T64.desc = .func #[3, 39, 39, 39] #[4] false := by kernel_rfl
@[go_sem] theorem T64_size : T64.size = 1 := by kernel_rfl
@[go_sem] theorem T64_bytes : T64.bytes = 8 := by kernel_rfl
@[go_sem] theorem T64_zero : zeroPV T64 = some (.d .nilfunc) := by kernel_rfl
@[go_sem] theorem T64_ok : zeroOk T64 = true := by kernel_rfl
noncomputable def T65 : Ty := (tyOf Try.prog 65).getD ⟨.invalid, 0, 0, none⟩
@[go_sem] theorem ty65 : tyOf Try.prog 65 = some T65 := by kernel_rfl
@[go_sem] theorem T65_desc : T65.desc = .slice 84 := by kernel_rfl
@[go_sem] theorem es65 : elemSize Try.prog 65 = some 7 := by kernel_rfl
@[go_sem] theorem T65_size : T65.size = 1 := by kernel_rfl
@[go_sem] theorem T65_bytes : T65.bytes = 24 := by kernel_rfl
@[go_sem] theorem T65_zero : zeroPV T65 = some (.d .nilslice) := by kernel_rfl
@[go_sem] theorem T65_ok : zeroOk T65 = true := by kernel_rfl
noncomputable def T66 : Ty := (tyOf Try.prog 66).getD ⟨.invalid, 0, 0, none⟩
@[go_sem] theorem ty66 : tyOf Try.prog 66 = some T66 := by kernel_rfl
noncomputable def fs66 : Array Field := match T66.desc with | .struct fs => fs | _ => #[]
@[go_sem] theorem T66_desc : T66.desc = .struct fs66 := by kernel_rfl
noncomputable def fs66_0 : Field := fs66.getD 0 default
@[go_sem] theorem fs66_at0 : fs66[0]? = some fs66_0 := by kernel_rfl
@[go_sem] theorem fs66_0_type : fs66_0.type = 65 := by kernel_rfl
@[go_sem] theorem fs66_0_off : fs66_0.offset = 0 := by kernel_rfl
@[go_sem] theorem fo66_0 : fieldOf Try.prog 66 0 = some (0, 1) := by kernel_rfl
noncomputable def fs66_1 : Field := fs66.getD 1 default
@[go_sem] theorem fs66_at1 : fs66[1]? = some fs66_1 := by kernel_rfl
@[go_sem] theorem fs66_1_type : fs66_1.type = 34 := by kernel_rfl
@[go_sem] theorem fs66_1_off : fs66_1.offset = 1 := by kernel_rfl
@[go_sem] theorem fo66_1 : fieldOf Try.prog 66 1 = some (1, 1) := by kernel_rfl
noncomputable def fs66_2 : Field := fs66.getD 2 default
@[go_sem] theorem fs66_at2 : fs66[2]? = some fs66_2 := by kernel_rfl
@[go_sem] theorem fs66_2_type : fs66_2.type = 31 := by kernel_rfl
@[go_sem] theorem fs66_2_off : fs66_2.offset = 2 := by kernel_rfl
@[go_sem] theorem fo66_2 : fieldOf Try.prog 66 2 = some (2, 1) := by kernel_rfl
noncomputable def fs66_3 : Field := fs66.getD 3 default
@[go_sem] theorem fs66_at3 : fs66[3]? = some fs66_3 := by kernel_rfl
@[go_sem] theorem fs66_3_type : fs66_3.type = 3 := by kernel_rfl
@[go_sem] theorem fs66_3_off : fs66_3.offset = 3 := by kernel_rfl
@[go_sem] theorem fo66_3 : fieldOf Try.prog 66 3 = some (3, 1) := by kernel_rfl
@[go_sem] theorem pl66 : placesOf Try.prog fs66.toList = some [(0, 1), (1, 1), (2, 1), (3, 1)] := by kernel_rfl
@[go_sem] theorem T66_size : T66.size = 4 := by kernel_rfl
@[go_sem] theorem T66_bytes : T66.bytes = 80 := by kernel_rfl
@[go_sem] theorem T66_cells : zeroCells T66.zero = some [.d .nilslice, .d .nilslice, .d .nilslice, .d (.int .i64 0)] := by kernel_rfl
@[go_sem] theorem T66_zero : zeroPV T66 = some (.d (.agg [.nilslice, .nilslice, .nilslice, (.int .i64 0)])) := by kernel_rfl
@[go_sem] theorem T66_ok : zeroOk T66 = true := by kernel_rfl
noncomputable def T67 : Ty := (tyOf Try.prog 67).getD ⟨.invalid, 0, 0, none⟩
@[go_sem] theorem ty67 : tyOf Try.prog 67 = some T67 := by kernel_rfl
noncomputable def fs67 : Array Field := match T67.desc with | .struct fs => fs | _ => #[]
@[go_sem] theorem T67_desc : T67.desc = .struct fs67 := by kernel_rfl
noncomputable def fs67_0 : Field := fs67.getD 0 default
@[go_sem] theorem fs67_at0 : fs67[0]? = some fs67_0 := by kernel_rfl
@[go_sem] theorem fs67_0_type : fs67_0.type = 65 := by kernel_rfl
@[go_sem] theorem fs67_0_off : fs67_0.offset = 0 := by kernel_rfl
@[go_sem] theorem fo67_0 : fieldOf Try.prog 67 0 = some (0, 1) := by kernel_rfl
noncomputable def fs67_1 : Field := fs67.getD 1 default
@[go_sem] theorem fs67_at1 : fs67[1]? = some fs67_1 := by kernel_rfl
@[go_sem] theorem fs67_1_type : fs67_1.type = 34 := by kernel_rfl
@[go_sem] theorem fs67_1_off : fs67_1.offset = 1 := by kernel_rfl
@[go_sem] theorem fo67_1 : fieldOf Try.prog 67 1 = some (1, 1) := by kernel_rfl
noncomputable def fs67_2 : Field := fs67.getD 2 default
@[go_sem] theorem fs67_at2 : fs67[2]? = some fs67_2 := by kernel_rfl
@[go_sem] theorem fs67_2_type : fs67_2.type = 31 := by kernel_rfl
@[go_sem] theorem fs67_2_off : fs67_2.offset = 2 := by kernel_rfl
@[go_sem] theorem fo67_2 : fieldOf Try.prog 67 2 = some (2, 1) := by kernel_rfl
noncomputable def fs67_3 : Field := fs67.getD 3 default
@[go_sem] theorem fs67_at3 : fs67[3]? = some fs67_3 := by kernel_rfl
@[go_sem] theorem fs67_3_type : fs67_3.type = 3 := by kernel_rfl
@[go_sem] theorem fs67_3_off : fs67_3.offset = 3 := by kernel_rfl
@[go_sem] theorem fo67_3 : fieldOf Try.prog 67 3 = some (3, 1) := by kernel_rfl
@[go_sem] theorem pl67 : placesOf Try.prog fs67.toList = some [(0, 1), (1, 1), (2, 1), (3, 1)] := by kernel_rfl
@[go_sem] theorem T67_size : T67.size = 4 := by kernel_rfl
@[go_sem] theorem T67_bytes : T67.bytes = 80 := by kernel_rfl
@[go_sem] theorem T67_cells : zeroCells T67.zero = some [.d .nilslice, .d .nilslice, .d .nilslice, .d (.int .i64 0)] := by kernel_rfl
@[go_sem] theorem T67_zero : zeroPV T67 = some (.d (.agg [.nilslice, .nilslice, .nilslice, (.int .i64 0)])) := by kernel_rfl
@[go_sem] theorem T67_ok : zeroOk T67 = true := by kernel_rfl
noncomputable def T68 : Ty := (tyOf Try.prog 68).getD ⟨.invalid, 0, 0, none⟩
@[go_sem] theorem ty68 : tyOf Try.prog 68 = some T68 := by kernel_rfl
@[go_sem] theorem T68_desc : T68.desc = .func #[44, 4] #[4] false := by kernel_rfl
@[go_sem] theorem T68_size : T68.size = 1 := by kernel_rfl
@[go_sem] theorem T68_bytes : T68.bytes = 8 := by kernel_rfl
@[go_sem] theorem T68_zero : zeroPV T68 = some (.d .nilfunc) := by kernel_rfl
@[go_sem] theorem T68_ok : zeroOk T68 = true := by kernel_rfl
noncomputable def T70 : Ty := (tyOf Try.prog 70).getD ⟨.invalid, 0, 0, none⟩
@[go_sem] theorem ty70 : tyOf Try.prog 70 = some T70 := by kernel_rfl
@[go_sem] theorem T70_desc : T70.desc = .func #[31] #[41, 24] false := by kernel_rfl
@[go_sem] theorem T70_size : T70.size = 1 := by kernel_rfl
@[go_sem] theorem T70_bytes : T70.bytes = 8 := by kernel_rfl
@[go_sem] theorem T70_zero : zeroPV T70 = some (.d .nilfunc) := by kernel_rfl
@[go_sem] theorem T70_ok : zeroOk T70 = true := by kernel_rfl
noncomputable def T71 : Ty := (tyOf Try.prog 71).getD ⟨.invalid, 0, 0, none⟩
@[go_sem] theorem ty71 : tyOf Try.prog 71 = some T71 := by kernel_rfl
@[go_sem] theorem T71_desc : T71.desc = .func #[31, 5] #[4] false := by kernel_rfl
@[go_sem] theorem T71_size : T71.size = 1 := by kernel_rfl
@[go_sem] theorem T71_bytes : T71.bytes = 8 := by kernel_rfl
@[go_sem] theorem T71_zero : zeroPV T71 = some (.d .nilfunc) := by kernel_rfl
@[go_sem] theorem T71_ok : zeroOk T71 = true := by kernel_rfl
noncomputable def T72 : Ty := (tyOf Try.prog 72).getD ⟨.invalid, 0, 0, none⟩
@[go_sem] theorem ty72 : tyOf Try.prog 72 = some T72 := by kernel_rfl
@[go_sem] theorem T72_desc : T72.desc = .func #[41, 41] #[4] false := by kernel_rfl
@[go_sem] theorem T72_size : T72.size = 1 := by kernel_rfl
@[go_sem] theorem T72_bytes : T72.bytes = 8 := by kernel_rfl
@[go_sem] theorem T72_zero : zeroPV T72 = some (.d .nilfunc) := by kernel_rfl
@[go_sem] theorem T72_ok : zeroOk T72 = true := by kernel_rfl
noncomputable def T73 : Ty := (tyOf Try.prog 73).getD ⟨.invalid, 0, 0, none⟩
@[go_sem] theorem ty73 : tyOf Try.prog 73 = some T73 := by kernel_rfl
@[go_sem] theorem T73_desc : T73.desc = .func #[31, 41] #[4, 24] false := by kernel_rfl
@[go_sem] theorem T73_size : T73.size = 1 := by kernel_rfl
@[go_sem] theorem T73_bytes : T73.bytes = 8 := by kernel_rfl
@[go_sem] theorem T73_zero : zeroPV T73 = some (.d .nilfunc) := by kernel_rfl
@[go_sem] theorem T73_ok : zeroOk T73 = true := by kernel_rfl
noncomputable def T74 : Ty := (tyOf Try.prog 74).getD ⟨.invalid, 0, 0, none⟩
@[go_sem] theorem ty74 : tyOf Try.prog 74 = some T74 := by kernel_rfl
@[go_sem] theorem T74_desc : T74.desc = .func #[31, 31] #[4] false := by kernel_rfl
@[go_sem] theorem T74_size : T74.size = 1 := by kernel_rfl
@[go_sem] theorem T74_bytes : T74.bytes = 8 := by kernel_rfl
@[go_sem] theorem T74_zero : zeroPV T74 = some (.d .nilfunc) := by kernel_rfl
@[go_sem] theorem T74_ok : zeroOk T74 = true := by kernel_rfl
noncomputable def T75 : Ty := (tyOf Try.prog 75).getD ⟨.invalid, 0, 0, none⟩
@[go_sem] theorem ty75 : tyOf Try.prog 75 = some T75 := by kernel_rfl
@[go_sem] theorem T75_desc : T75.desc = .func #[31, 41] #[4] false := by kernel_rfl
@[go_sem] theorem T75_size : T75.size = 1 := by kernel_rfl
@[go_sem] theorem T75_bytes : T75.bytes = 8 := by kernel_rfl
@[go_sem] theorem T75_zero : zeroPV T75 = some (.d .nilfunc) := by kernel_rfl
@[go_sem] theorem T75_ok : zeroOk T75 = true := by kernel_rfl
noncomputable def T77 : Ty := (tyOf Try.prog 77).getD ⟨.invalid, 0, 0, none⟩
@[go_sem] theorem ty77 : tyOf Try.prog 77 = some T77 := by kernel_rfl
@[go_sem] theorem T77_desc : T77.desc = .func #[31] #[3, 4, 24] false := by kernel_rfl
@[go_sem] theorem T77_size : T77.size = 1 := by kernel_rfl
@[go_sem] theorem T77_bytes : T77.bytes = 8 := by kernel_rfl
@[go_sem] theorem T77_zero : zeroPV T77 = some (.d .nilfunc) := by kernel_rfl
@[go_sem] theorem T77_ok : zeroOk T77 = true := by kernel_rfl
noncomputable def T78 : Ty := (tyOf Try.prog 78).getD ⟨.invalid, 0, 0, none⟩
@[go_sem] theorem ty78 : tyOf Try.prog 78 = some T78 := by kernel_rfl
@[go_sem] theorem T78_desc : T78.desc = .func #[31] #[4] false := by kernel_rfl
@[go_sem] theorem T78_size : T78.size = 1 := by kernel_rfl
@[go_sem] theorem T78_bytes : T78.bytes = 8 := by kernel_rfl
@[go_sem] theorem T78_zero : zeroPV T78 = some (.d .nilfunc) := by kernel_rfl
@[go_sem] theorem T78_ok : zeroOk T78 = true := by kernel_rfl
noncomputable def T79 : Ty := (tyOf Try.prog 79).getD ⟨.invalid, 0, 0, none⟩
@[go_sem] theorem ty79 : tyOf Try.prog 79 = some T79 := by kernel_rfl
@[go_sem] theorem T79_desc : T79.desc = .slice 5 := by kernel_rfl
@[go_sem] theorem es79 : elemSize Try.prog 79 = some 1 := by kernel_rfl
@[go_sem] theorem T79_size : T79.size = 1 := by kernel_rfl
@[go_sem] theorem T79_bytes : T79.bytes = 24 := by kernel_rfl
@[go_sem] theorem T79_zero : zeroPV T79 = some (.d .nilslice) := by kernel_rfl
@[go_sem] theorem T79_ok : zeroOk T79 = true := by kernel_rfl
noncomputable def T80 : Ty := (tyOf Try.prog 80).getD ⟨.invalid, 0, 0, none⟩
@[go_sem] theorem ty80 : tyOf Try.prog 80 = some T80 := by kernel_rfl
@[go_sem] theorem T80_desc : T80.desc = .slice 4 := by kernel_rfl
@[go_sem] theorem es80 : elemSize Try.prog 80 = some 1 := by kernel_rfl
@[go_sem] theorem T80_size : T80.size = 1 := by kernel_rfl
@[go_sem] theorem T80_bytes : T80.bytes = 24 := by kernel_rfl
@[go_sem] theorem T80_zero : zeroPV T80 = some (.d .nilslice) := by kernel_rfl
@[go_sem] theorem T80_ok : zeroOk T80 = true := by kernel_rfl
noncomputable def T81 : Ty := (tyOf Try.prog 81).getD ⟨.invalid, 0, 0, none⟩
@[go_sem] theorem ty81 : tyOf Try.prog 81 = some T81 := by kernel_rfl
@[go_sem] theorem T81_desc : T81.desc = .func #[79, 79, 80] #[4] false := by kernel_rfl
@[go_sem] theorem T81_size : T81.size = 1 := by kernel_rfl
@[go_sem] theorem T81_bytes : T81.bytes = 8 := by kernel_rfl
@[go_sem] theorem T81_zero : zeroPV T81 = some (.d .nilfunc) := by kernel_rfl
@[go_sem] theorem T81_ok : zeroOk T81 = true := by kernel_rfl
noncomputable def T82 : Ty := (tyOf Try.prog 82).getD ⟨.invalid, 0, 0, none⟩
@[go_sem] theorem ty82 : tyOf Try.prog 82 = some T82 := by kernel_rfl
@[go_sem] theorem T82_desc : T82.desc = .pointer 103 := by kernel_rfl
@[go_sem] theorem T82_size : T82.size = 1 := by kernel_rfl
@[go_sem] theorem T82_bytes : T82.bytes = 8 := by kernel_rfl
@[go_sem] theorem T82_zero : zeroPV T82 = some (.d .nilptr) := by kernel_rfl
@[go_sem] theorem T82_ok : zeroOk T82 = true := by kernel_rfl
noncomputable def T83 : Ty := (tyOf Try.prog 83).getD ⟨.invalid, 0, 0, none⟩
@[go_sem] theorem ty83 : tyOf Try.prog 83 = some T83 := by kernel_rfl
noncomputable def fs83 : Array Field := match T83.desc with | .struct fs => fs | _ => #[]
@[go_sem] theorem T83_desc : T83.desc = .struct fs83 := by kernel_rfl
noncomputable def fs83_0 : Field := fs83.getD 0 default
@[go_sem] theorem fs83_at0 : fs83[0]? = some fs83_0 := by kernel_rfl
@[go_sem] theorem fs83_0_type : fs83_0.type = 4 := by kernel_rfl
@[go_sem] theorem fs83_0_off : fs83_0.offset = 0 := by kernel_rfl
@[go_sem] theorem fo83_0 : fieldOf Try.prog 83 0 = some (0, 1) := by kernel_rfl
noncomputable def fs83_1 : Field := fs83.getD 1 default
@[go_sem] theorem fs83_at1 : fs83[1]? = some fs83_1 := by kernel_rfl
@[go_sem] theorem fs83_1_type : fs83_1.type = 46 := by kernel_rfl
@[go_sem] theorem fs83_1_off : fs83_1.offset = 1 := by kernel_rfl
@[go_sem] theorem fo83_1 : fieldOf Try.prog 83 1 = some (1, 3) := by kernel_rfl
noncomputable def fs83_2 : Field := fs83.getD 2 default
@[go_sem] theorem fs83_at2 : fs83[2]? = some fs83_2 := by kernel_rfl
@[go_sem] theorem fs83_2_type : fs83_2.type = 3 := by kernel_rfl
@[go_sem] theorem fs83_2_off : fs83_2.offset = 4 := by kernel_rfl
@[go_sem] theorem fo83_2 : fieldOf Try.prog 83 2 = some (4, 1) := by kernel_rfl
noncomputable def fs83_3 : Field := fs83.getD 3 default
@[go_sem] theorem fs83_at3 : fs83[3]? = some fs83_3 := by kernel_rfl
@[go_sem] theorem fs83_3_type : fs83_3.type = 3 := by kernel_rfl
@[go_sem] theorem fs83_3_off : fs83_3.offset = 5 := by kernel_rfl
@[go_sem] theorem fo83_3 : fieldOf Try.prog 83 3 = some (5, 1) := by kernel_rfl
noncomputable def fs83_4 : Field := fs83.getD 4 default
@[go_sem] theorem fs83_at4 : fs83[4]? = some fs83_4 := by kernel_rfl
@[go_sem] theorem fs83_4_type : fs83_4.type = 82 := by kernel_rfl
@[go_sem] theorem fs83_4_off : fs83_4.offset = 6 := by kernel_rfl
@[go_sem] theorem fo83_4 : fieldOf Try.prog 83 4 = some (6, 1) := by kernel_rfl
@[go_sem] theorem pl83 : placesOf Try.prog fs83.toList = some [(0, 1), (1, 3), (4, 1), (5, 1), (6, 1)] := by kernel_rfl
@[go_sem] theorem T83_size : T83.size = 7 := by kernel_rfl
@[go_sem] theorem T83_bytes : T83.bytes = 56 := by kernel_rfl
@[go_sem] theorem T83_cells : zeroCells T83.zero = some [.d (.bool false), .d (.int .i64 0), .d (.int .i64 0), .d (.int .i64 0), .d (.int .i64 0), .d (.int .i64 0), .d .nilptr] := by kernel_rfl
@[go_sem] theorem T83_zero : zeroPV T83 = some (.d (.agg [(.bool false), (.int .i64 0), (.int .i64 0), (.int .i64 0), (.int .i64 0), (.int .i64 0), .nilptr])) := by kernel_rfl
@[go_sem] theorem T83_ok : zeroOk T83 = true := by kernel_rfl
noncomputable def T84 : Ty := (tyOf Try.prog 84).getD ⟨.invalid, 0, 0, none⟩
@[go_sem] theorem ty84 : tyOf Try.prog 84 = some T84 := by kernel_rfl
noncomputable def fs84 : Array Field := match T84.desc with | .struct fs => fs | _ => #[]
@[go_sem] theorem T84_desc : T84.desc = .struct fs84 := by kernel_rfl
noncomputable def fs84_0 : Field := fs84.getD 0 default
@[go_sem] theorem fs84_at0 : fs84[0]? = some fs84_0 := by kernel_rfl
@[go_sem] theorem fs84_0_type : fs84_0.type = 4 := by kernel_rfl
@[go_sem] theorem fs84_0_off : fs84_0.offset = 0 := by kernel_rfl
@[go_sem] theorem fo84_0 : fieldOf Try.prog 84 0 = some (0, 1) := by kernel_rfl
noncomputable def fs84_1 : Field := fs84.getD 1 default
@[go_sem] theorem fs84_at1 : fs84[1]? = some fs84_1 := by kernel_rfl
@[go_sem] theorem fs84_1_type : fs84_1.type = 46 := by kernel_rfl
@[go_sem] theorem fs84_1_off : fs84_1.offset = 1 := by kernel_rfl
@[go_sem] theorem fo84_1 : fieldOf Try.prog 84 1 = some (1, 3) := by kernel_rfl
noncomputable def fs84_2 : Field := fs84.getD 2 default
@[go_sem] theorem fs84_at2 : fs84[2]? = some fs84_2 := by kernel_rfl
@[go_sem] theorem fs84_2_type : fs84_2.type = 3 := by kernel_rfl
@[go_sem] theorem fs84_2_off : fs84_2.offset = 4 := by kernel_rfl
@[go_sem] theorem fo84_2 : fieldOf Try.prog 84 2 = some (4, 1) := by kernel_rfl
noncomputable def fs84_3 : Field := fs84.getD 3 default
@[go_sem] theorem fs84_at3 : fs84[3]? = some fs84_3 := by kernel_rfl
@[go_sem] theorem fs84_3_type : fs84_3.type = 3 := by kernel_rfl
@[go_sem] theorem fs84_3_off : fs84_3.offset = 5 := by kernel_rfl
@[go_sem] theorem fo84_3 : fieldOf Try.prog 84 3 = some (5, 1) := by kernel_rfl
noncomputable def fs84_4 : Field := fs84.getD 4 default
@[go_sem] theorem fs84_at4 : fs84[4]? = some fs84_4 := by kernel_rfl
@[go_sem] theorem fs84_4_type : fs84_4.type = 82 := by kernel_rfl
@[go_sem] theorem fs84_4_off : fs84_4.offset = 6 := by kernel_rfl
@[go_sem] theorem fo84_4 : fieldOf Try.prog 84 4 = some (6, 1) := by kernel_rfl
@[go_sem] theorem pl84 : placesOf Try.prog fs84.toList = some [(0, 1), (1, 3), (4, 1), (5, 1), (6, 1)] := by kernel_rfl
@[go_sem] theorem T84_size : T84.size = 7 := by kernel_rfl
@[go_sem] theorem T84_bytes : T84.bytes = 56 := by kernel_rfl
@[go_sem] theorem T84_cells : zeroCells T84.zero = some [.d (.bool false), .d (.int .i64 0), .d (.int .i64 0), .d (.int .i64 0), .d (.int .i64 0), .d (.int .i64 0), .d .nilptr] := by kernel_rfl
@[go_sem] theorem T84_zero : zeroPV T84 = some (.d (.agg [(.bool false), (.int .i64 0), (.int .i64 0), (.int .i64 0), (.int .i64 0), (.int .i64 0), .nilptr])) := by kernel_rfl
@[go_sem] theorem T84_ok : zeroOk T84 = true := by kernel_rfl
noncomputable def T85 : Ty := (tyOf Try.prog 85).getD ⟨.invalid, 0, 0, none⟩
@[go_sem] theorem ty85 : tyOf Try.prog 85 = some T85 := by kernel_rfl
@[go_sem] theorem T85_desc : T85.desc = .func #[3, 4, 3] #[24] false := by kernel_rfl
@[go_sem] theorem T85_size : T85.size = 1 := by kernel_rfl
@[go_sem] theorem T85_bytes : T85.bytes = 8 := by kernel_rfl
@[go_sem] theorem T85_zero : zeroPV T85 = some (.d .nilfunc) := by kernel_rfl
@[go_sem] theorem T85_ok : zeroOk T85 = true := by kernel_rfl
noncomputable def T86 : Ty := (tyOf Try.prog 86).getD ⟨.invalid, 0, 0, none⟩
@[go_sem] theorem ty86 : tyOf Try.prog 86 = some T86 := by kernel_rfl
@[go_sem] theorem T86_desc : T86.desc = .func #[31] #[31] false := by kernel_rfl
@[go_sem] theorem T86_size : T86.size = 1 := by kernel_rfl
@[go_sem] theorem T86_bytes : T86.bytes = 8 := by kernel_rfl
@[go_sem] theorem T86_zero : zeroPV T86 = some (.d .nilfunc) := by kernel_rfl
@[go_sem] theorem T86_ok : zeroOk T86 = true := by kernel_rfl
noncomputable def T87 : Ty := (tyOf Try.prog 87).getD ⟨.invalid, 0, 0, none⟩
@[go_sem] theorem ty87 : tyOf Try.prog 87 = some T87 := by kernel_rfl
noncomputable def fs87 : Array Field := match T87.desc with | .struct fs => fs | _ => #[]
@[go_sem] theorem T87_desc : T87.desc = .struct fs87 := by kernel_rfl
noncomputable def fs87_0 : Field := fs87.getD 0 default
@[go_sem] theorem fs87_at0 : fs87[0]? = some fs87_0 := by kernel_rfl
@[go_sem] theorem fs87_0_type : fs87_0.type = 3 := by kernel_rfl
@[go_sem] theorem fs87_0_off : fs87_0.offset = 0 := by kernel_rfl
@[go_sem] theorem fo87_0 : fieldOf Try.prog 87 0 = some (0, 1) := by kernel_rfl
@[go_sem] theorem fs87_0_nm : (fs87_0.name == "_") = false := by kernel_rfl
noncomputable def fs87_1 : Field := fs87.getD 1 default
@[go_sem] theorem fs87_at1 : fs87[1]? = some fs87_1 := by kernel_rfl
@[go_sem] theorem fs87_1_type : fs87_1.type = 3 := by kernel_rfl
@[go_sem] theorem fs87_1_off : fs87_1.offset = 1 := by kernel_rfl
@[go_sem] theorem fo87_1 : fieldOf Try.prog 87 1 = some (1, 1) := by kernel_rfl
@[go_sem] theorem fs87_1_nm : (fs87_1.name == "_") = false := by kernel_rfl
noncomputable def fs87_2 : Field := fs87.getD 2 default
@[go_sem] theorem fs87_at2 : fs87[2]? = some fs87_2 := by kernel_rfl
@[go_sem] theorem fs87_2_type : fs87_2.type = 3 := by kernel_rfl
@[go_sem] theorem fs87_2_off : fs87_2.offset = 2 := by kernel_rfl
@[go_sem] theorem fo87_2 : fieldOf Try.prog 87 2 = some (2, 1) := by kernel_rfl
@[go_sem] theorem fs87_2_nm : (fs87_2.name == "_") = false := by kernel_rfl
noncomputable def fs87_3 : Field := fs87.getD 3 default
@[go_sem] theorem fs87_at3 : fs87[3]? = some fs87_3 := by kernel_rfl
@[go_sem] theorem fs87_3_type : fs87_3.type = 3 := by kernel_rfl
@[go_sem] theorem fs87_3_off : fs87_3.offset = 3 := by kernel_rfl
@[go_sem] theorem fo87_3 : fieldOf Try.prog 87 3 = some (3, 1) := by kernel_rfl
@[go_sem] theorem fs87_3_nm : (fs87_3.name == "_") = false := by kernel_rfl
noncomputable def fs87_4 : Field := fs87.getD 4 default
@[go_sem] theorem fs87_at4 : fs87[4]? = some fs87_4 := by kernel_rfl
@[go_sem] theorem fs87_4_type : fs87_4.type = 46 := by kernel_rfl
@[go_sem] theorem fs87_4_off : fs87_4.offset = 4 := by kernel_rfl
@[go_sem] theorem fo87_4 : fieldOf Try.prog 87 4 = some (4, 3) := by kernel_rfl
@[go_sem] theorem fs87_4_nm : (fs87_4.name == "_") = false := by kernel_rfl
noncomputable def fs87_5 : Field := fs87.getD 5 default
@[go_sem] theorem fs87_at5 : fs87[5]? = some fs87_5 := by kernel_rfl
@[go_sem] theorem fs87_5_type : fs87_5.type = 3 := by kernel_rfl
@[go_sem] theorem fs87_5_off : fs87_5.offset = 7 := by kernel_rfl
@[go_sem] theorem fo87_5 : fieldOf Try.prog 87 5 = some (7, 1) := by kernel_rfl
@[go_sem] theorem fs87_5_nm : (fs87_5.name == "_") = false := by kernel_rfl
@[go_sem] theorem sih87 : Try.prog.stoodInHeld 87 = false := by kernel_rfl
@[go_sem] theorem egt87 : Try.prog.eqGuardType Try.prog.depth 87 = false := by kernel_rfl
@[go_sem] theorem pl87 : placesOf Try.prog fs87.toList = some [(0, 1), (1, 1), (2, 1), (3, 1), (4, 3), (7, 1)] := by kernel_rfl
@[go_sem] theorem T87_size : T87.size = 8 := by kernel_rfl
@[go_sem] theorem T87_bytes : T87.bytes = 64 := by kernel_rfl
@[go_sem] theorem T87_cells : zeroCells T87.zero = some [.d (.int .i64 0), .d (.int .i64 0), .d (.int .i64 0), .d (.int .i64 0), .d (.int .i64 0), .d (.int .i64 0), .d (.int .i64 0), .d (.int .i64 0)] := by kernel_rfl
@[go_sem] theorem T87_zero : zeroPV T87 = some (.d (.agg [(.int .i64 0), (.int .i64 0), (.int .i64 0), (.int .i64 0), (.int .i64 0), (.int .i64 0), (.int .i64 0), (.int .i64 0)])) := by kernel_rfl
@[go_sem] theorem T87_ok : zeroOk T87 = true := by kernel_rfl
noncomputable def T88 : Ty := (tyOf Try.prog 88).getD ⟨.invalid, 0, 0, none⟩
@[go_sem] theorem ty88 : tyOf Try.prog 88 = some T88 := by kernel_rfl
noncomputable def fs88 : Array Field := match T88.desc with | .struct fs => fs | _ => #[]
@[go_sem] theorem T88_desc : T88.desc = .struct fs88 := by kernel_rfl
noncomputable def fs88_0 : Field := fs88.getD 0 default
@[go_sem] theorem fs88_at0 : fs88[0]? = some fs88_0 := by kernel_rfl
@[go_sem] theorem fs88_0_type : fs88_0.type = 3 := by kernel_rfl
@[go_sem] theorem fs88_0_off : fs88_0.offset = 0 := by kernel_rfl
@[go_sem] theorem fo88_0 : fieldOf Try.prog 88 0 = some (0, 1) := by kernel_rfl
@[go_sem] theorem fs88_0_nm : (fs88_0.name == "_") = false := by kernel_rfl
noncomputable def fs88_1 : Field := fs88.getD 1 default
@[go_sem] theorem fs88_at1 : fs88[1]? = some fs88_1 := by kernel_rfl
@[go_sem] theorem fs88_1_type : fs88_1.type = 3 := by kernel_rfl
@[go_sem] theorem fs88_1_off : fs88_1.offset = 1 := by kernel_rfl
@[go_sem] theorem fo88_1 : fieldOf Try.prog 88 1 = some (1, 1) := by kernel_rfl
@[go_sem] theorem fs88_1_nm : (fs88_1.name == "_") = false := by kernel_rfl
noncomputable def fs88_2 : Field := fs88.getD 2 default
@[go_sem] theorem fs88_at2 : fs88[2]? = some fs88_2 := by kernel_rfl
@[go_sem] theorem fs88_2_type : fs88_2.type = 3 := by kernel_rfl
@[go_sem] theorem fs88_2_off : fs88_2.offset = 2 := by kernel_rfl
@[go_sem] theorem fo88_2 : fieldOf Try.prog 88 2 = some (2, 1) := by kernel_rfl
@[go_sem] theorem fs88_2_nm : (fs88_2.name == "_") = false := by kernel_rfl
noncomputable def fs88_3 : Field := fs88.getD 3 default
@[go_sem] theorem fs88_at3 : fs88[3]? = some fs88_3 := by kernel_rfl
@[go_sem] theorem fs88_3_type : fs88_3.type = 3 := by kernel_rfl
@[go_sem] theorem fs88_3_off : fs88_3.offset = 3 := by kernel_rfl
@[go_sem] theorem fo88_3 : fieldOf Try.prog 88 3 = some (3, 1) := by kernel_rfl
@[go_sem] theorem fs88_3_nm : (fs88_3.name == "_") = false := by kernel_rfl
noncomputable def fs88_4 : Field := fs88.getD 4 default
@[go_sem] theorem fs88_at4 : fs88[4]? = some fs88_4 := by kernel_rfl
@[go_sem] theorem fs88_4_type : fs88_4.type = 46 := by kernel_rfl
@[go_sem] theorem fs88_4_off : fs88_4.offset = 4 := by kernel_rfl
@[go_sem] theorem fo88_4 : fieldOf Try.prog 88 4 = some (4, 3) := by kernel_rfl
@[go_sem] theorem fs88_4_nm : (fs88_4.name == "_") = false := by kernel_rfl
noncomputable def fs88_5 : Field := fs88.getD 5 default
@[go_sem] theorem fs88_at5 : fs88[5]? = some fs88_5 := by kernel_rfl
@[go_sem] theorem fs88_5_type : fs88_5.type = 3 := by kernel_rfl
@[go_sem] theorem fs88_5_off : fs88_5.offset = 7 := by kernel_rfl
@[go_sem] theorem fo88_5 : fieldOf Try.prog 88 5 = some (7, 1) := by kernel_rfl
@[go_sem] theorem fs88_5_nm : (fs88_5.name == "_") = false := by kernel_rfl
@[go_sem] theorem sih88 : Try.prog.stoodInHeld 88 = false := by kernel_rfl
@[go_sem] theorem egt88 : Try.prog.eqGuardType Try.prog.depth 88 = false := by kernel_rfl
@[go_sem] theorem pl88 : placesOf Try.prog fs88.toList = some [(0, 1), (1, 1), (2, 1), (3, 1), (4, 3), (7, 1)] := by kernel_rfl
@[go_sem] theorem T88_size : T88.size = 8 := by kernel_rfl
@[go_sem] theorem T88_bytes : T88.bytes = 64 := by kernel_rfl
@[go_sem] theorem T88_cells : zeroCells T88.zero = some [.d (.int .i64 0), .d (.int .i64 0), .d (.int .i64 0), .d (.int .i64 0), .d (.int .i64 0), .d (.int .i64 0), .d (.int .i64 0), .d (.int .i64 0)] := by kernel_rfl
@[go_sem] theorem T88_zero : zeroPV T88 = some (.d (.agg [(.int .i64 0), (.int .i64 0), (.int .i64 0), (.int .i64 0), (.int .i64 0), (.int .i64 0), (.int .i64 0), (.int .i64 0)])) := by kernel_rfl
@[go_sem] theorem T88_ok : zeroOk T88 = true := by kernel_rfl
noncomputable def T89 : Ty := (tyOf Try.prog 89).getD ⟨.invalid, 0, 0, none⟩
@[go_sem] theorem ty89 : tyOf Try.prog 89 = some T89 := by kernel_rfl
@[go_sem] theorem T89_desc : T89.desc = .func #[34] #[34] false := by kernel_rfl
@[go_sem] theorem T89_size : T89.size = 1 := by kernel_rfl
@[go_sem] theorem T89_bytes : T89.bytes = 8 := by kernel_rfl
@[go_sem] theorem T89_zero : zeroPV T89 = some (.d .nilfunc) := by kernel_rfl
@[go_sem] theorem T89_ok : zeroOk T89 = true := by kernel_rfl
noncomputable def T90 : Ty := (tyOf Try.prog 90).getD ⟨.invalid, 0, 0, none⟩
@[go_sem] theorem ty90 : tyOf Try.prog 90 = some T90 := by kernel_rfl
@[go_sem] theorem T90_desc : T90.desc = .func #[34, 3, 3] #[34] false := by kernel_rfl
@[go_sem] theorem T90_size : T90.size = 1 := by kernel_rfl
@[go_sem] theorem T90_bytes : T90.bytes = 8 := by kernel_rfl
@[go_sem] theorem T90_zero : zeroPV T90 = some (.d .nilfunc) := by kernel_rfl
@[go_sem] theorem T90_ok : zeroOk T90 = true := by kernel_rfl
noncomputable def T91 : Ty := (tyOf Try.prog 91).getD ⟨.invalid, 0, 0, none⟩
@[go_sem] theorem ty91 : tyOf Try.prog 91 = some T91 := by kernel_rfl
@[go_sem] theorem T91_desc : T91.desc = .pointer 84 := by kernel_rfl
@[go_sem] theorem T91_size : T91.size = 1 := by kernel_rfl
@[go_sem] theorem T91_bytes : T91.bytes = 8 := by kernel_rfl
@[go_sem] theorem T91_zero : zeroPV T91 = some (.d .nilptr) := by kernel_rfl
@[go_sem] theorem T91_ok : zeroOk T91 = true := by kernel_rfl
noncomputable def T92 : Ty := (tyOf Try.prog 92).getD ⟨.invalid, 0, 0, none⟩
@[go_sem] theorem ty92 : tyOf Try.prog 92 = some T92 := by kernel_rfl
@[go_sem] theorem T92_desc : T92.desc = .func #[91, 88] #[] false := by kernel_rfl
@[go_sem] theorem T92_size : T92.size = 1 := by kernel_rfl
@[go_sem] theorem T92_bytes : T92.bytes = 8 := by kernel_rfl
@[go_sem] theorem T92_zero : zeroPV T92 = some (.d .nilfunc) := by kernel_rfl
@[go_sem] theorem T92_ok : zeroOk T92 = true := by kernel_rfl
noncomputable def T93 : Ty := (tyOf Try.prog 93).getD ⟨.invalid, 0, 0, none⟩
@[go_sem] theorem ty93 : tyOf Try.prog 93 = some T93 := by kernel_rfl
noncomputable def fs93 : Array Field := match T93.desc with | .struct fs => fs | _ => #[]
@[go_sem] theorem T93_desc : T93.desc = .struct fs93 := by kernel_rfl
noncomputable def fs93_0 : Field := fs93.getD 0 default
@[go_sem] theorem fs93_at0 : fs93[0]? = some fs93_0 := by kernel_rfl
@[go_sem] theorem fs93_0_type : fs93_0.type = 4 := by kernel_rfl
@[go_sem] theorem fs93_0_off : fs93_0.offset = 0 := by kernel_rfl
@[go_sem] theorem fo93_0 : fieldOf Try.prog 93 0 = some (0, 1) := by kernel_rfl
noncomputable def fs93_1 : Field := fs93.getD 1 default
@[go_sem] theorem fs93_at1 : fs93[1]? = some fs93_1 := by kernel_rfl
@[go_sem] theorem fs93_1_type : fs93_1.type = 4 := by kernel_rfl
@[go_sem] theorem fs93_1_off : fs93_1.offset = 1 := by kernel_rfl
@[go_sem] theorem fo93_1 : fieldOf Try.prog 93 1 = some (1, 1) := by kernel_rfl
noncomputable def fs93_2 : Field := fs93.getD 2 default
@[go_sem] theorem fs93_at2 : fs93[2]? = some fs93_2 := by kernel_rfl
@[go_sem] theorem fs93_2_type : fs93_2.type = 4 := by kernel_rfl
@[go_sem] theorem fs93_2_off : fs93_2.offset = 2 := by kernel_rfl
@[go_sem] theorem fo93_2 : fieldOf Try.prog 93 2 = some (2, 1) := by kernel_rfl
noncomputable def fs93_3 : Field := fs93.getD 3 default
@[go_sem] theorem fs93_at3 : fs93[3]? = some fs93_3 := by kernel_rfl
@[go_sem] theorem fs93_3_type : fs93_3.type = 3 := by kernel_rfl
@[go_sem] theorem fs93_3_off : fs93_3.offset = 3 := by kernel_rfl
@[go_sem] theorem fo93_3 : fieldOf Try.prog 93 3 = some (3, 1) := by kernel_rfl
noncomputable def fs93_4 : Field := fs93.getD 4 default
@[go_sem] theorem fs93_at4 : fs93[4]? = some fs93_4 := by kernel_rfl
@[go_sem] theorem fs93_4_type : fs93_4.type = 3 := by kernel_rfl
@[go_sem] theorem fs93_4_off : fs93_4.offset = 4 := by kernel_rfl
@[go_sem] theorem fo93_4 : fieldOf Try.prog 93 4 = some (4, 1) := by kernel_rfl
noncomputable def fs93_5 : Field := fs93.getD 5 default
@[go_sem] theorem fs93_at5 : fs93[5]? = some fs93_5 := by kernel_rfl
@[go_sem] theorem fs93_5_type : fs93_5.type = 80 := by kernel_rfl
@[go_sem] theorem fs93_5_off : fs93_5.offset = 5 := by kernel_rfl
@[go_sem] theorem fo93_5 : fieldOf Try.prog 93 5 = some (5, 1) := by kernel_rfl
noncomputable def fs93_6 : Field := fs93.getD 6 default
@[go_sem] theorem fs93_at6 : fs93[6]? = some fs93_6 := by kernel_rfl
@[go_sem] theorem fs93_6_type : fs93_6.type = 46 := by kernel_rfl
@[go_sem] theorem fs93_6_off : fs93_6.offset = 6 := by kernel_rfl
@[go_sem] theorem fo93_6 : fieldOf Try.prog 93 6 = some (6, 3) := by kernel_rfl
noncomputable def fs93_7 : Field := fs93.getD 7 default
@[go_sem] theorem fs93_at7 : fs93[7]? = some fs93_7 := by kernel_rfl
@[go_sem] theorem fs93_7_type : fs93_7.type = 3 := by kernel_rfl
@[go_sem] theorem fs93_7_off : fs93_7.offset = 9 := by kernel_rfl
@[go_sem] theorem fo93_7 : fieldOf Try.prog 93 7 = some (9, 1) := by kernel_rfl
noncomputable def fs93_8 : Field := fs93.getD 8 default
@[go_sem] theorem fs93_at8 : fs93[8]? = some fs93_8 := by kernel_rfl
@[go_sem] theorem fs93_8_type : fs93_8.type = 3 := by kernel_rfl
@[go_sem] theorem fs93_8_off : fs93_8.offset = 10 := by kernel_rfl
@[go_sem] theorem fo93_8 : fieldOf Try.prog 93 8 = some (10, 1) := by kernel_rfl
@[go_sem] theorem pl93 : placesOf Try.prog fs93.toList = some [(0, 1), (1, 1), (2, 1), (3, 1), (4, 1), (5, 1), (6, 3), (9, 1), (10, 1)] := by kernel_rfl
@[go_sem] theorem T93_size : T93.size = 11 := by kernel_rfl
@[go_sem] theorem T93_bytes : T93.bytes = 88 := by kernel_rfl
@[go_sem] theorem T93_cells : zeroCells T93.zero = some [.d (.bool false), .d (.bool false), .d (.bool false), .d (.int .i64 0), .d (.int .i64 0), .d .nilslice, .d (.int .i64 0), .d (.int .i64 0), .d (.int .i64 0), .d (.int .i64 0), .d (.int .i64 0)] := by kernel_rfl
@[go_sem] theorem T93_zero : zeroPV T93 = some (.d (.agg [(.bool false), (.bool false), (.bool false), (.int .i64 0), (.int .i64 0), .nilslice, (.int .i64 0), (.int .i64 0), (.int .i64 0), (.int .i64 0), (.int .i64 0)])) := by kernel_rfl
@[go_sem] theorem T93_ok : zeroOk T93 = true := by kernel_rfl
noncomputable def T94 : Ty := (tyOf Try.prog 94).getD ⟨.invalid, 0, 0, none⟩
@[go_sem] theorem ty94 : tyOf Try.prog 94 = some T94 := by kernel_rfl
noncomputable def fs94 : Array Field := match T94.desc with | .struct fs => fs | _ => #[]
@[go_sem] theorem T94_desc : T94.desc = .struct fs94 := by kernel_rfl
noncomputable def fs94_0 : Field := fs94.getD 0 default
@[go_sem] theorem fs94_at0 : fs94[0]? = some fs94_0 := by kernel_rfl
@[go_sem] theorem fs94_0_type : fs94_0.type = 4 := by kernel_rfl
@[go_sem] theorem fs94_0_off : fs94_0.offset = 0 := by kernel_rfl
@[go_sem] theorem fo94_0 : fieldOf Try.prog 94 0 = some (0, 1) := by kernel_rfl
noncomputable def fs94_1 : Field := fs94.getD 1 default
@[go_sem] theorem fs94_at1 : fs94[1]? = some fs94_1 := by kernel_rfl
@[go_sem] theorem fs94_1_type : fs94_1.type = 4 := by kernel_rfl
@[go_sem] theorem fs94_1_off : fs94_1.offset = 1 := by kernel_rfl
@[go_sem] theorem fo94_1 : fieldOf Try.prog 94 1 = some (1, 1) := by kernel_rfl
noncomputable def fs94_2 : Field := fs94.getD 2 default
@[go_sem] theorem fs94_at2 : fs94[2]? = some fs94_2 := by kernel_rfl
@[go_sem] theorem fs94_2_type : fs94_2.type = 4 := by kernel_rfl
@[go_sem] theorem fs94_2_off : fs94_2.offset = 2 := by kernel_rfl
@[go_sem] theorem fo94_2 : fieldOf Try.prog 94 2 = some (2, 1) := by kernel_rfl
noncomputable def fs94_3 : Field := fs94.getD 3 default
@[go_sem] theorem fs94_at3 : fs94[3]? = some fs94_3 := by kernel_rfl
@[go_sem] theorem fs94_3_type : fs94_3.type = 3 := by kernel_rfl
@[go_sem] theorem fs94_3_off : fs94_3.offset = 3 := by kernel_rfl
@[go_sem] theorem fo94_3 : fieldOf Try.prog 94 3 = some (3, 1) := by kernel_rfl
noncomputable def fs94_4 : Field := fs94.getD 4 default
@[go_sem] theorem fs94_at4 : fs94[4]? = some fs94_4 := by kernel_rfl
@[go_sem] theorem fs94_4_type : fs94_4.type = 3 := by kernel_rfl
@[go_sem] theorem fs94_4_off : fs94_4.offset = 4 := by kernel_rfl
@[go_sem] theorem fo94_4 : fieldOf Try.prog 94 4 = some (4, 1) := by kernel_rfl
noncomputable def fs94_5 : Field := fs94.getD 5 default
@[go_sem] theorem fs94_at5 : fs94[5]? = some fs94_5 := by kernel_rfl
@[go_sem] theorem fs94_5_type : fs94_5.type = 80 := by kernel_rfl
@[go_sem] theorem fs94_5_off : fs94_5.offset = 5 := by kernel_rfl
@[go_sem] theorem fo94_5 : fieldOf Try.prog 94 5 = some (5, 1) := by kernel_rfl
noncomputable def fs94_6 : Field := fs94.getD 6 default
@[go_sem] theorem fs94_at6 : fs94[6]? = some fs94_6 := by kernel_rfl
@[go_sem] theorem fs94_6_type : fs94_6.type = 46 := by kernel_rfl
@[go_sem] theorem fs94_6_off : fs94_6.offset = 6 := by kernel_rfl
@[go_sem] theorem fo94_6 : fieldOf Try.prog 94 6 = some (6, 3) := by kernel_rfl
noncomputable def fs94_7 : Field := fs94.getD 7 default
@[go_sem] theorem fs94_at7 : fs94[7]? = some fs94_7 := by kernel_rfl
@[go_sem] theorem fs94_7_type : fs94_7.type = 3 := by kernel_rfl
@[go_sem] theorem fs94_7_off : fs94_7.offset = 9 := by kernel_rfl
@[go_sem] theorem fo94_7 : fieldOf Try.prog 94 7 = some (9, 1) := by kernel_rfl
noncomputable def fs94_8 : Field := fs94.getD 8 default
@[go_sem] theorem fs94_at8 : fs94[8]? = some fs94_8 := by kernel_rfl
@[go_sem] theorem fs94_8_type : fs94_8.type = 3 := by kernel_rfl
@[go_sem] theorem fs94_8_off : fs94_8.offset = 10 := by kernel_rfl
@[go_sem] theorem fo94_8 : fieldOf Try.prog 94 8 = some (10, 1) := by kernel_rfl
@[go_sem] theorem pl94 : placesOf Try.prog fs94.toList = some [(0, 1), (1, 1), (2, 1), (3, 1), (4, 1), (5, 1), (6, 3), (9, 1), (10, 1)] := by kernel_rfl
@[go_sem] theorem T94_size : T94.size = 11 := by kernel_rfl
@[go_sem] theorem T94_bytes : T94.bytes = 88 := by kernel_rfl
@[go_sem] theorem T94_cells : zeroCells T94.zero = some [.d (.bool false), .d (.bool false), .d (.bool false), .d (.int .i64 0), .d (.int .i64 0), .d .nilslice, .d (.int .i64 0), .d (.int .i64 0), .d (.int .i64 0), .d (.int .i64 0), .d (.int .i64 0)] := by kernel_rfl
@[go_sem] theorem T94_zero : zeroPV T94 = some (.d (.agg [(.bool false), (.bool false), (.bool false), (.int .i64 0), (.int .i64 0), .nilslice, (.int .i64 0), (.int .i64 0), (.int .i64 0), (.int .i64 0), (.int .i64 0)])) := by kernel_rfl
@[go_sem] theorem T94_ok : zeroOk T94 = true := by kernel_rfl
noncomputable def T95 : Ty := (tyOf Try.prog 95).getD ⟨.invalid, 0, 0, none⟩
@[go_sem] theorem ty95 : tyOf Try.prog 95 = some T95 := by kernel_rfl
noncomputable def fs95 : Array Field := match T95.desc with | .struct fs => fs | _ => #[]
@[go_sem] theorem T95_desc : T95.desc = .struct fs95 := by kernel_rfl
noncomputable def fs95_0 : Field := fs95.getD 0 default
@[go_sem] theorem fs95_at0 : fs95[0]? = some fs95_0 := by kernel_rfl
@[go_sem] theorem fs95_0_type : fs95_0.type = 4 := by kernel_rfl
@[go_sem] theorem fs95_0_off : fs95_0.offset = 0 := by kernel_rfl
@[go_sem] theorem fo95_0 : fieldOf Try.prog 95 0 = some (0, 1) := by kernel_rfl
noncomputable def fs95_1 : Field := fs95.getD 1 default
@[go_sem] theorem fs95_at1 : fs95[1]? = some fs95_1 := by kernel_rfl
@[go_sem] theorem fs95_1_type : fs95_1.type = 46 := by kernel_rfl
@[go_sem] theorem fs95_1_off : fs95_1.offset = 1 := by kernel_rfl
@[go_sem] theorem fo95_1 : fieldOf Try.prog 95 1 = some (1, 3) := by kernel_rfl
noncomputable def fs95_2 : Field := fs95.getD 2 default
@[go_sem] theorem fs95_at2 : fs95[2]? = some fs95_2 := by kernel_rfl
@[go_sem] theorem fs95_2_type : fs95_2.type = 3 := by kernel_rfl
@[go_sem] theorem fs95_2_off : fs95_2.offset = 4 := by kernel_rfl
@[go_sem] theorem fo95_2 : fieldOf Try.prog 95 2 = some (4, 1) := by kernel_rfl
noncomputable def fs95_3 : Field := fs95.getD 3 default
@[go_sem] theorem fs95_at3 : fs95[3]? = some fs95_3 := by kernel_rfl
@[go_sem] theorem fs95_3_type : fs95_3.type = 3 := by kernel_rfl
@[go_sem] theorem fs95_3_off : fs95_3.offset = 5 := by kernel_rfl
@[go_sem] theorem fo95_3 : fieldOf Try.prog 95 3 = some (5, 1) := by kernel_rfl
noncomputable def fs95_4 : Field := fs95.getD 4 default
@[go_sem] theorem fs95_at4 : fs95[4]? = some fs95_4 := by kernel_rfl
@[go_sem] theorem fs95_4_type : fs95_4.type = 94 := by kernel_rfl
@[go_sem] theorem fs95_4_off : fs95_4.offset = 6 := by kernel_rfl
@[go_sem] theorem fo95_4 : fieldOf Try.prog 95 4 = some (6, 11) := by kernel_rfl
@[go_sem] theorem pl95 : placesOf Try.prog fs95.toList = some [(0, 1), (1, 3), (4, 1), (5, 1), (6, 11)] := by kernel_rfl
@[go_sem] theorem T95_size : T95.size = 17 := by kernel_rfl
@[go_sem] theorem T95_bytes : T95.bytes = 136 := by kernel_rfl
@[go_sem] theorem T95_cells : zeroCells T95.zero = some [.d (.bool false), .d (.int .i64 0), .d (.int .i64 0), .d (.int .i64 0), .d (.int .i64 0), .d (.int .i64 0), .d (.bool false), .d (.bool false), .d (.bool false), .d (.int .i64 0), .d (.int .i64 0), .d .nilslice, .d (.int .i64 0), .d (.int .i64 0), .d (.int .i64 0), .d (.int .i64 0), .d (.int .i64 0)] := by kernel_rfl
@[go_sem] theorem T95_zero : zeroPV T95 = some (.d (.agg [(.bool false), (.int .i64 0), (.int .i64 0), (.int .i64 0), (.int .i64 0), (.int .i64 0), (.bool false), (.bool false), (.bool false), (.int .i64 0), (.int .i64 0), .nilslice, (.int .i64 0), (.int .i64 0), (.int .i64 0), (.int .i64 0), (.int .i64 0)])) := by kernel_rfl
@[go_sem] theorem T95_ok : zeroOk T95 = true := by kernel_rfl
noncomputable def T96 : Ty := (tyOf Try.prog 96).getD ⟨.invalid, 0, 0, none⟩
@[go_sem] theorem ty96 : tyOf Try.prog 96 = some T96 := by kernel_rfl
noncomputable def fs96 : Array Field := match T96.desc with | .struct fs => fs | _ => #[]
@[go_sem] theorem T96_desc : T96.desc = .struct fs96 := by kernel_rfl
noncomputable def fs96_0 : Field := fs96.getD 0 default
@[go_sem] theorem fs96_at0 : fs96[0]? = some fs96_0 := by kernel_rfl
@[go_sem] theorem fs96_0_type : fs96_0.type = 4 := by kernel_rfl
@[go_sem] theorem fs96_0_off : fs96_0.offset = 0 := by kernel_rfl
@[go_sem] theorem fo96_0 : fieldOf Try.prog 96 0 = some (0, 1) := by kernel_rfl
noncomputable def fs96_1 : Field := fs96.getD 1 default
@[go_sem] theorem fs96_at1 : fs96[1]? = some fs96_1 := by kernel_rfl
@[go_sem] theorem fs96_1_type : fs96_1.type = 46 := by kernel_rfl
@[go_sem] theorem fs96_1_off : fs96_1.offset = 1 := by kernel_rfl
@[go_sem] theorem fo96_1 : fieldOf Try.prog 96 1 = some (1, 3) := by kernel_rfl
noncomputable def fs96_2 : Field := fs96.getD 2 default
@[go_sem] theorem fs96_at2 : fs96[2]? = some fs96_2 := by kernel_rfl
@[go_sem] theorem fs96_2_type : fs96_2.type = 3 := by kernel_rfl
@[go_sem] theorem fs96_2_off : fs96_2.offset = 4 := by kernel_rfl
@[go_sem] theorem fo96_2 : fieldOf Try.prog 96 2 = some (4, 1) := by kernel_rfl
noncomputable def fs96_3 : Field := fs96.getD 3 default
@[go_sem] theorem fs96_at3 : fs96[3]? = some fs96_3 := by kernel_rfl
@[go_sem] theorem fs96_3_type : fs96_3.type = 3 := by kernel_rfl
@[go_sem] theorem fs96_3_off : fs96_3.offset = 5 := by kernel_rfl
@[go_sem] theorem fo96_3 : fieldOf Try.prog 96 3 = some (5, 1) := by kernel_rfl
noncomputable def fs96_4 : Field := fs96.getD 4 default
@[go_sem] theorem fs96_at4 : fs96[4]? = some fs96_4 := by kernel_rfl
@[go_sem] theorem fs96_4_type : fs96_4.type = 94 := by kernel_rfl
@[go_sem] theorem fs96_4_off : fs96_4.offset = 6 := by kernel_rfl
@[go_sem] theorem fo96_4 : fieldOf Try.prog 96 4 = some (6, 11) := by kernel_rfl
@[go_sem] theorem pl96 : placesOf Try.prog fs96.toList = some [(0, 1), (1, 3), (4, 1), (5, 1), (6, 11)] := by kernel_rfl
@[go_sem] theorem T96_size : T96.size = 17 := by kernel_rfl
@[go_sem] theorem T96_bytes : T96.bytes = 136 := by kernel_rfl
@[go_sem] theorem T96_cells : zeroCells T96.zero = some [.d (.bool false), .d (.int .i64 0), .d (.int .i64 0), .d (.int .i64 0), .d (.int .i64 0), .d (.int .i64 0), .d (.bool false), .d (.bool false), .d (.bool false), .d (.int .i64 0), .d (.int .i64 0), .d .nilslice, .d (.int .i64 0), .d (.int .i64 0), .d (.int .i64 0), .d (.int .i64 0), .d (.int .i64 0)] := by kernel_rfl
@[go_sem] theorem T96_zero : zeroPV T96 = some (.d (.agg [(.bool false), (.int .i64 0), (.int .i64 0), (.int .i64 0), (.int .i64 0), (.int .i64 0), (.bool false), (.bool false), (.bool false), (.int .i64 0), (.int .i64 0), .nilslice, (.int .i64 0), (.int .i64 0), (.int .i64 0), (.int .i64 0), (.int .i64 0)])) := by kernel_rfl
@[go_sem] theorem T96_ok : zeroOk T96 = true := by kernel_rfl
noncomputable def T97 : Ty := (tyOf Try.prog 97).getD ⟨.invalid, 0, 0, none⟩
@[go_sem] theorem ty97 : tyOf Try.prog 97 = some T97 := by kernel_rfl
@[go_sem] theorem T97_desc : T97.desc = .func #[3, 3] #[55, 24] false := by kernel_rfl
@[go_sem] theorem T97_size : T97.size = 1 := by kernel_rfl
@[go_sem] theorem T97_bytes : T97.bytes = 8 := by kernel_rfl
@[go_sem] theorem T97_zero : zeroPV T97 = some (.d .nilfunc) := by kernel_rfl
@[go_sem] theorem T97_ok : zeroOk T97 = true := by kernel_rfl
noncomputable def T99 : Ty := (tyOf Try.prog 99).getD ⟨.invalid, 0, 0, none⟩
@[go_sem] theorem ty99 : tyOf Try.prog 99 = some T99 := by kernel_rfl
@[go_sem] theorem T99_desc : T99.desc = .func #[3] #[55, 3, 24] false := by kernel_rfl
@[go_sem] theorem T99_size : T99.size = 1 := by kernel_rfl
@[go_sem] theorem T99_bytes : T99.bytes = 8 := by kernel_rfl
@[go_sem] theorem T99_zero : zeroPV T99 = some (.d .nilfunc) := by kernel_rfl
@[go_sem] theorem T99_ok : zeroOk T99 = true := by kernel_rfl
noncomputable def T100 : Ty := (tyOf Try.prog 100).getD ⟨.invalid, 0, 0, none⟩
@[go_sem] theorem ty100 : tyOf Try.prog 100 = some T100 := by kernel_rfl
@[go_sem] theorem T100_desc : T100.desc = .func #[34, 34] #[4] false := by kernel_rfl
@[go_sem] theorem T100_size : T100.size = 1 := by kernel_rfl
@[go_sem] theorem T100_bytes : T100.bytes = 8 := by kernel_rfl
@[go_sem] theorem T100_zero : zeroPV T100 = some (.d .nilfunc) := by kernel_rfl
@[go_sem] theorem T100_ok : zeroOk T100 = true := by kernel_rfl
noncomputable def T101 : Ty := (tyOf Try.prog 101).getD ⟨.invalid, 0, 0, none⟩
@[go_sem] theorem ty101 : tyOf Try.prog 101 = some T101 := by kernel_rfl
@[go_sem] theorem T101_desc : T101.desc = .func #[65] #[65] false := by kernel_rfl
@[go_sem] theorem T101_size : T101.size = 1 := by kernel_rfl
@[go_sem] theorem T101_bytes : T101.bytes = 8 := by kernel_rfl
@[go_sem] theorem T101_zero : zeroPV T101 = some (.d .nilfunc) := by kernel_rfl
@[go_sem] theorem T101_ok : zeroOk T101 = true := by kernel_rfl
noncomputable def T102 : Ty := (tyOf Try.prog 102).getD ⟨.invalid, 0, 0, none⟩
@[go_sem] theorem ty102 : tyOf Try.prog 102 = some T102 := by kernel_rfl
noncomputable def fs102 : Array Field := match T102.desc with | .struct fs => fs | _ => #[]
@[go_sem] theorem T102_desc : T102.desc = .struct fs102 := by kernel_rfl
noncomputable def fs102_0 : Field := fs102.getD 0 default
@[go_sem] theorem fs102_at0 : fs102[0]? = some fs102_0 := by kernel_rfl
@[go_sem] theorem fs102_0_type : fs102_0.type = 3 := by kernel_rfl
@[go_sem] theorem fs102_0_off : fs102_0.offset = 0 := by kernel_rfl
@[go_sem] theorem fo102_0 : fieldOf Try.prog 102 0 = some (0, 1) := by kernel_rfl
noncomputable def fs102_1 : Field := fs102.getD 1 default
@[go_sem] theorem fs102_at1 : fs102[1]? = some fs102_1 := by kernel_rfl
@[go_sem] theorem fs102_1_type : fs102_1.type = 3 := by kernel_rfl
@[go_sem] theorem fs102_1_off : fs102_1.offset = 1 := by kernel_rfl
@[go_sem] theorem fo102_1 : fieldOf Try.prog 102 1 = some (1, 1) := by kernel_rfl
noncomputable def fs102_2 : Field := fs102.getD 2 default
@[go_sem] theorem fs102_at2 : fs102[2]? = some fs102_2 := by kernel_rfl
@[go_sem] theorem fs102_2_type : fs102_2.type = 4 := by kernel_rfl
@[go_sem] theorem fs102_2_off : fs102_2.offset = 2 := by kernel_rfl
@[go_sem] theorem fo102_2 : fieldOf Try.prog 102 2 = some (2, 1) := by kernel_rfl
noncomputable def fs102_3 : Field := fs102.getD 3 default
@[go_sem] theorem fs102_at3 : fs102[3]? = some fs102_3 := by kernel_rfl
@[go_sem] theorem fs102_3_type : fs102_3.type = 4 := by kernel_rfl
@[go_sem] theorem fs102_3_off : fs102_3.offset = 3 := by kernel_rfl
@[go_sem] theorem fo102_3 : fieldOf Try.prog 102 3 = some (3, 1) := by kernel_rfl
noncomputable def fs102_4 : Field := fs102.getD 4 default
@[go_sem] theorem fs102_at4 : fs102[4]? = some fs102_4 := by kernel_rfl
@[go_sem] theorem fs102_4_type : fs102_4.type = 46 := by kernel_rfl
@[go_sem] theorem fs102_4_off : fs102_4.offset = 4 := by kernel_rfl
@[go_sem] theorem fo102_4 : fieldOf Try.prog 102 4 = some (4, 3) := by kernel_rfl
noncomputable def fs102_5 : Field := fs102.getD 5 default
@[go_sem] theorem fs102_at5 : fs102[5]? = some fs102_5 := by kernel_rfl
@[go_sem] theorem fs102_5_type : fs102_5.type = 3 := by kernel_rfl
@[go_sem] theorem fs102_5_off : fs102_5.offset = 7 := by kernel_rfl
@[go_sem] theorem fo102_5 : fieldOf Try.prog 102 5 = some (7, 1) := by kernel_rfl
noncomputable def fs102_6 : Field := fs102.getD 6 default
@[go_sem] theorem fs102_at6 : fs102[6]? = some fs102_6 := by kernel_rfl
@[go_sem] theorem fs102_6_type : fs102_6.type = 80 := by kernel_rfl
@[go_sem] theorem fs102_6_off : fs102_6.offset = 8 := by kernel_rfl
@[go_sem] theorem fo102_6 : fieldOf Try.prog 102 6 = some (8, 1) := by kernel_rfl
@[go_sem] theorem pl102 : placesOf Try.prog fs102.toList = some [(0, 1), (1, 1), (2, 1), (3, 1), (4, 3), (7, 1), (8, 1)] := by kernel_rfl
@[go_sem] theorem T102_size : T102.size = 9 := by kernel_rfl
@[go_sem] theorem T102_bytes : T102.bytes = 80 := by kernel_rfl
@[go_sem] theorem T102_cells : zeroCells T102.zero = some [.d (.int .i64 0), .d (.int .i64 0), .d (.bool false), .d (.bool false), .d (.int .i64 0), .d (.int .i64 0), .d (.int .i64 0), .d (.int .i64 0), .d .nilslice] := by kernel_rfl
@[go_sem] theorem T102_zero : zeroPV T102 = some (.d (.agg [(.int .i64 0), (.int .i64 0), (.bool false), (.bool false), (.int .i64 0), (.int .i64 0), (.int .i64 0), (.int .i64 0), .nilslice])) := by kernel_rfl
@[go_sem] theorem T102_ok : zeroOk T102 = true := by kernel_rfl
noncomputable def T103 : Ty := (tyOf Try.prog 103).getD ⟨.invalid, 0, 0, none⟩
@[go_sem] theorem ty103 : tyOf Try.prog 103 = some T103 := by kernel_rfl
noncomputable def fs103 : Array Field := match T103.desc with | .struct fs => fs | _ => #[]
@[go_sem] theorem T103_desc : T103.desc = .struct fs103 := by kernel_rfl
noncomputable def fs103_0 : Field := fs103.getD 0 default
@[go_sem] theorem fs103_at0 : fs103[0]? = some fs103_0 := by kernel_rfl
@[go_sem] theorem fs103_0_type : fs103_0.type = 3 := by kernel_rfl
@[go_sem] theorem fs103_0_off : fs103_0.offset = 0 := by kernel_rfl
@[go_sem] theorem fo103_0 : fieldOf Try.prog 103 0 = some (0, 1) := by kernel_rfl
noncomputable def fs103_1 : Field := fs103.getD 1 default
@[go_sem] theorem fs103_at1 : fs103[1]? = some fs103_1 := by kernel_rfl
@[go_sem] theorem fs103_1_type : fs103_1.type = 3 := by kernel_rfl
@[go_sem] theorem fs103_1_off : fs103_1.offset = 1 := by kernel_rfl
@[go_sem] theorem fo103_1 : fieldOf Try.prog 103 1 = some (1, 1) := by kernel_rfl
noncomputable def fs103_2 : Field := fs103.getD 2 default
@[go_sem] theorem fs103_at2 : fs103[2]? = some fs103_2 := by kernel_rfl
@[go_sem] theorem fs103_2_type : fs103_2.type = 4 := by kernel_rfl
@[go_sem] theorem fs103_2_off : fs103_2.offset = 2 := by kernel_rfl
@[go_sem] theorem fo103_2 : fieldOf Try.prog 103 2 = some (2, 1) := by kernel_rfl
noncomputable def fs103_3 : Field := fs103.getD 3 default
@[go_sem] theorem fs103_at3 : fs103[3]? = some fs103_3 := by kernel_rfl
@[go_sem] theorem fs103_3_type : fs103_3.type = 4 := by kernel_rfl
@[go_sem] theorem fs103_3_off : fs103_3.offset = 3 := by kernel_rfl
@[go_sem] theorem fo103_3 : fieldOf Try.prog 103 3 = some (3, 1) := by kernel_rfl
noncomputable def fs103_4 : Field := fs103.getD 4 default
@[go_sem] theorem fs103_at4 : fs103[4]? = some fs103_4 := by kernel_rfl
@[go_sem] theorem fs103_4_type : fs103_4.type = 46 := by kernel_rfl
@[go_sem] theorem fs103_4_off : fs103_4.offset = 4 := by kernel_rfl
@[go_sem] theorem fo103_4 : fieldOf Try.prog 103 4 = some (4, 3) := by kernel_rfl
noncomputable def fs103_5 : Field := fs103.getD 5 default
@[go_sem] theorem fs103_at5 : fs103[5]? = some fs103_5 := by kernel_rfl
@[go_sem] theorem fs103_5_type : fs103_5.type = 3 := by kernel_rfl
@[go_sem] theorem fs103_5_off : fs103_5.offset = 7 := by kernel_rfl
@[go_sem] theorem fo103_5 : fieldOf Try.prog 103 5 = some (7, 1) := by kernel_rfl
noncomputable def fs103_6 : Field := fs103.getD 6 default
@[go_sem] theorem fs103_at6 : fs103[6]? = some fs103_6 := by kernel_rfl
@[go_sem] theorem fs103_6_type : fs103_6.type = 80 := by kernel_rfl
@[go_sem] theorem fs103_6_off : fs103_6.offset = 8 := by kernel_rfl
@[go_sem] theorem fo103_6 : fieldOf Try.prog 103 6 = some (8, 1) := by kernel_rfl
@[go_sem] theorem pl103 : placesOf Try.prog fs103.toList = some [(0, 1), (1, 1), (2, 1), (3, 1), (4, 3), (7, 1), (8, 1)] := by kernel_rfl
@[go_sem] theorem T103_size : T103.size = 9 := by kernel_rfl
@[go_sem] theorem T103_bytes : T103.bytes = 80 := by kernel_rfl
@[go_sem] theorem T103_cells : zeroCells T103.zero = some [.d (.int .i64 0), .d (.int .i64 0), .d (.bool false), .d (.bool false), .d (.int .i64 0), .d (.int .i64 0), .d (.int .i64 0), .d (.int .i64 0), .d .nilslice] := by kernel_rfl
@[go_sem] theorem T103_zero : zeroPV T103 = some (.d (.agg [(.int .i64 0), (.int .i64 0), (.bool false), (.bool false), (.int .i64 0), (.int .i64 0), (.int .i64 0), (.int .i64 0), .nilslice])) := by kernel_rfl
@[go_sem] theorem T103_ok : zeroOk T103 = true := by kernel_rfl
noncomputable def T104 : Ty := (tyOf Try.prog 104).getD ⟨.invalid, 0, 0, none⟩
@[go_sem] theorem ty104 : tyOf Try.prog 104 = some T104 := by kernel_rfl
@[go_sem] theorem T104_desc : T104.desc = .func #[3, 4] #[24] false := by kernel_rfl
@[go_sem] theorem T104_size : T104.size = 1 := by kernel_rfl
@[go_sem] theorem T104_bytes : T104.bytes = 8 := by kernel_rfl
@[go_sem] theorem T104_zero : zeroPV T104 = some (.d .nilfunc) := by kernel_rfl
@[go_sem] theorem T104_ok : zeroOk T104 = true := by kernel_rfl
noncomputable def T105 : Ty := (tyOf Try.prog 105).getD ⟨.invalid, 0, 0, none⟩
@[go_sem] theorem ty105 : tyOf Try.prog 105 = some T105 := by kernel_rfl
@[go_sem] theorem T105_desc : T105.desc = .func #[31] #[24] false := by kernel_rfl
@[go_sem] theorem T105_size : T105.size = 1 := by kernel_rfl
@[go_sem] theorem T105_bytes : T105.bytes = 8 := by kernel_rfl
@[go_sem] theorem T105_zero : zeroPV T105 = some (.d .nilfunc) := by kernel_rfl
@[go_sem] theorem T105_ok : zeroOk T105 = true := by kernel_rfl
noncomputable def T106 : Ty := (tyOf Try.prog 106).getD ⟨.invalid, 0, 0, none⟩
@[go_sem] theorem ty106 : tyOf Try.prog 106 = some T106 := by kernel_rfl
@[go_sem] theorem T106_desc : T106.desc = .func #[51, 51] #[4] false := by kernel_rfl
@[go_sem] theorem T106_size : T106.size = 1 := by kernel_rfl
@[go_sem] theorem T106_bytes : T106.bytes = 8 := by kernel_rfl
@[go_sem] theorem T106_zero : zeroPV T106 = some (.d .nilfunc) := by kernel_rfl
@[go_sem] theorem T106_ok : zeroOk T106 = true := by kernel_rfl
noncomputable def T107 : Ty := (tyOf Try.prog 107).getD ⟨.invalid, 0, 0, none⟩
@[go_sem] theorem ty107 : tyOf Try.prog 107 = some T107 := by kernel_rfl
noncomputable def fs107 : Array Field := match T107.desc with | .struct fs => fs | _ => #[]
@[go_sem] theorem T107_desc : T107.desc = .struct fs107 := by kernel_rfl
noncomputable def fs107_0 : Field := fs107.getD 0 default
@[go_sem] theorem fs107_at0 : fs107[0]? = some fs107_0 := by kernel_rfl
@[go_sem] theorem fs107_0_type : fs107_0.type = 31 := by kernel_rfl
@[go_sem] theorem fs107_0_off : fs107_0.offset = 0 := by kernel_rfl
@[go_sem] theorem fo107_0 : fieldOf Try.prog 107 0 = some (0, 1) := by kernel_rfl
noncomputable def fs107_1 : Field := fs107.getD 1 default
@[go_sem] theorem fs107_at1 : fs107[1]? = some fs107_1 := by kernel_rfl
@[go_sem] theorem fs107_1_type : fs107_1.type = 106 := by kernel_rfl
@[go_sem] theorem fs107_1_off : fs107_1.offset = 1 := by kernel_rfl
@[go_sem] theorem fo107_1 : fieldOf Try.prog 107 1 = some (1, 1) := by kernel_rfl
@[go_sem] theorem pl107 : placesOf Try.prog fs107.toList = some [(0, 1), (1, 1)] := by kernel_rfl
@[go_sem] theorem T107_size : T107.size = 2 := by kernel_rfl
@[go_sem] theorem T107_bytes : T107.bytes = 32 := by kernel_rfl
@[go_sem] theorem T107_cells : zeroCells T107.zero = some [.d .nilslice, .d .nilfunc] := by kernel_rfl
@[go_sem] theorem T107_zero : zeroPV T107 = some (.d (.agg [.nilslice, .nilfunc])) := by kernel_rfl
@[go_sem] theorem T107_ok : zeroOk T107 = true := by kernel_rfl
noncomputable def T108 : Ty := (tyOf Try.prog 108).getD ⟨.invalid, 0, 0, none⟩
@[go_sem] theorem ty108 : tyOf Try.prog 108 = some T108 := by kernel_rfl
noncomputable def fs108 : Array Field := match T108.desc with | .struct fs => fs | _ => #[]
@[go_sem] theorem T108_desc : T108.desc = .struct fs108 := by kernel_rfl
noncomputable def fs108_0 : Field := fs108.getD 0 default
@[go_sem] theorem fs108_at0 : fs108[0]? = some fs108_0 := by kernel_rfl
@[go_sem] theorem fs108_0_type : fs108_0.type = 31 := by kernel_rfl
@[go_sem] theorem fs108_0_off : fs108_0.offset = 0 := by kernel_rfl
@[go_sem] theorem fo108_0 : fieldOf Try.prog 108 0 = some (0, 1) := by kernel_rfl
noncomputable def fs108_1 : Field := fs108.getD 1 default
@[go_sem] theorem fs108_at1 : fs108[1]? = some fs108_1 := by kernel_rfl
@[go_sem] theorem fs108_1_type : fs108_1.type = 106 := by kernel_rfl
@[go_sem] theorem fs108_1_off : fs108_1.offset = 1 := by kernel_rfl
@[go_sem] theorem fo108_1 : fieldOf Try.prog 108 1 = some (1, 1) := by kernel_rfl
@[go_sem] theorem pl108 : placesOf Try.prog fs108.toList = some [(0, 1), (1, 1)] := by kernel_rfl
@[go_sem] theorem T108_size : T108.size = 2 := by kernel_rfl
@[go_sem] theorem T108_bytes : T108.bytes = 32 := by kernel_rfl
@[go_sem] theorem T108_cells : zeroCells T108.zero = some [.d .nilslice, .d .nilfunc] := by kernel_rfl
@[go_sem] theorem T108_zero : zeroPV T108 = some (.d (.agg [.nilslice, .nilfunc])) := by kernel_rfl
@[go_sem] theorem T108_ok : zeroOk T108 = true := by kernel_rfl
noncomputable def T109 : Ty := (tyOf Try.prog 109).getD ⟨.invalid, 0, 0, none⟩
@[go_sem] theorem ty109 : tyOf Try.prog 109 = some T109 := by kernel_rfl
@[go_sem] theorem T109_desc : T109.desc = .func #[] #[41, 24] false := by kernel_rfl
@[go_sem] theorem T109_size : T109.size = 1 := by kernel_rfl
@[go_sem] theorem T109_bytes : T109.bytes = 8 := by kernel_rfl
@[go_sem] theorem T109_zero : zeroPV T109 = some (.d .nilfunc) := by kernel_rfl
@[go_sem] theorem T109_ok : zeroOk T109 = true := by kernel_rfl
noncomputable def T110 : Ty := (tyOf Try.prog 110).getD ⟨.invalid, 0, 0, none⟩
@[go_sem] theorem ty110 : tyOf Try.prog 110 = some T110 := by kernel_rfl
@[go_sem] theorem T110_desc : T110.desc = .func #[31, 4] #[41, 24] false := by kernel_rfl
@[go_sem] theorem T110_size : T110.size = 1 := by kernel_rfl
@[go_sem] theorem T110_bytes : T110.bytes = 8 := by kernel_rfl
@[go_sem] theorem T110_zero : zeroPV T110 = some (.d .nilfunc) := by kernel_rfl
@[go_sem] theorem T110_ok : zeroOk T110 = true := by kernel_rfl
noncomputable def T111 : Ty := (tyOf Try.prog 111).getD ⟨.invalid, 0, 0, none⟩
@[go_sem] theorem ty111 : tyOf Try.prog 111 = some T111 := by kernel_rfl
noncomputable def fs111 : Array Field := match T111.desc with | .struct fs => fs | _ => #[]
@[go_sem] theorem T111_desc : T111.desc = .struct fs111 := by kernel_rfl
noncomputable def fs111_0 : Field := fs111.getD 0 default
@[go_sem] theorem fs111_at0 : fs111[0]? = some fs111_0 := by kernel_rfl
@[go_sem] theorem fs111_0_type : fs111_0.type = 3 := by kernel_rfl
@[go_sem] theorem fs111_0_off : fs111_0.offset = 0 := by kernel_rfl
@[go_sem] theorem fo111_0 : fieldOf Try.prog 111 0 = some (0, 1) := by kernel_rfl
@[go_sem] theorem fs111_0_nm : (fs111_0.name == "_") = false := by kernel_rfl
noncomputable def fs111_1 : Field := fs111.getD 1 default
@[go_sem] theorem fs111_at1 : fs111[1]? = some fs111_1 := by kernel_rfl
@[go_sem] theorem fs111_1_type : fs111_1.type = 3 := by kernel_rfl
@[go_sem] theorem fs111_1_off : fs111_1.offset = 1 := by kernel_rfl
@[go_sem] theorem fo111_1 : fieldOf Try.prog 111 1 = some (1, 1) := by kernel_rfl
@[go_sem] theorem fs111_1_nm : (fs111_1.name == "_") = false := by kernel_rfl
@[go_sem] theorem sih111 : Try.prog.stoodInHeld 111 = false := by kernel_rfl
@[go_sem] theorem egt111 : Try.prog.eqGuardType Try.prog.depth 111 = false := by kernel_rfl
@[go_sem] theorem pl111 : placesOf Try.prog fs111.toList = some [(0, 1), (1, 1)] := by kernel_rfl
@[go_sem] theorem T111_size : T111.size = 2 := by kernel_rfl
@[go_sem] theorem T111_bytes : T111.bytes = 16 := by kernel_rfl
@[go_sem] theorem T111_cells : zeroCells T111.zero = some [.d (.int .i64 0), .d (.int .i64 0)] := by kernel_rfl
@[go_sem] theorem T111_zero : zeroPV T111 = some (.d (.agg [(.int .i64 0), (.int .i64 0)])) := by kernel_rfl
@[go_sem] theorem T111_ok : zeroOk T111 = true := by kernel_rfl
noncomputable def T112 : Ty := (tyOf Try.prog 112).getD ⟨.invalid, 0, 0, none⟩
@[go_sem] theorem ty112 : tyOf Try.prog 112 = some T112 := by kernel_rfl
noncomputable def fs112 : Array Field := match T112.desc with | .struct fs => fs | _ => #[]
@[go_sem] theorem T112_desc : T112.desc = .struct fs112 := by kernel_rfl
noncomputable def fs112_0 : Field := fs112.getD 0 default
@[go_sem] theorem fs112_at0 : fs112[0]? = some fs112_0 := by kernel_rfl
@[go_sem] theorem fs112_0_type : fs112_0.type = 3 := by kernel_rfl
@[go_sem] theorem fs112_0_off : fs112_0.offset = 0 := by kernel_rfl
@[go_sem] theorem fo112_0 : fieldOf Try.prog 112 0 = some (0, 1) := by kernel_rfl
@[go_sem] theorem fs112_0_nm : (fs112_0.name == "_") = false := by kernel_rfl
noncomputable def fs112_1 : Field := fs112.getD 1 default
@[go_sem] theorem fs112_at1 : fs112[1]? = some fs112_1 := by kernel_rfl
@[go_sem] theorem fs112_1_type : fs112_1.type = 3 := by kernel_rfl
@[go_sem] theorem fs112_1_off : fs112_1.offset = 1 := by kernel_rfl
@[go_sem] theorem fo112_1 : fieldOf Try.prog 112 1 = some (1, 1) := by kernel_rfl
@[go_sem] theorem fs112_1_nm : (fs112_1.name == "_") = false := by kernel_rfl
@[go_sem] theorem sih112 : Try.prog.stoodInHeld 112 = false := by kernel_rfl
@[go_sem] theorem egt112 : Try.prog.eqGuardType Try.prog.depth 112 = false := by kernel_rfl
@[go_sem] theorem pl112 : placesOf Try.prog fs112.toList = some [(0, 1), (1, 1)] := by kernel_rfl
@[go_sem] theorem T112_size : T112.size = 2 := by kernel_rfl
@[go_sem] theorem T112_bytes : T112.bytes = 16 := by kernel_rfl
@[go_sem] theorem T112_cells : zeroCells T112.zero = some [.d (.int .i64 0), .d (.int .i64 0)] := by kernel_rfl
@[go_sem] theorem T112_zero : zeroPV T112 = some (.d (.agg [(.int .i64 0), (.int .i64 0)])) := by kernel_rfl
@[go_sem] theorem T112_ok : zeroOk T112 = true := by kernel_rfl
noncomputable def T113 : Ty := (tyOf Try.prog 113).getD ⟨.invalid, 0, 0, none⟩
@[go_sem] theorem ty113 : tyOf Try.prog 113 = some T113 := by kernel_rfl
@[go_sem] theorem T113_desc : T113.desc = .func #[112, 3] #[4] false := by kernel_rfl
@[go_sem] theorem T113_size : T113.size = 1 := by kernel_rfl
@[go_sem] theorem T113_bytes : T113.bytes = 8 := by kernel_rfl
@[go_sem] theorem T113_zero : zeroPV T113 = some (.d .nilfunc) := by kernel_rfl
@[go_sem] theorem T113_ok : zeroOk T113 = true := by kernel_rfl
noncomputable def T114 : Ty := (tyOf Try.prog 114).getD ⟨.invalid, 0, 0, none⟩
@[go_sem] theorem ty114 : tyOf Try.prog 114 = some T114 := by kernel_rfl
@[go_sem] theorem T114_desc : T114.desc = .func #[112, 3] #[112] false := by kernel_rfl
@[go_sem] theorem T114_size : T114.size = 1 := by kernel_rfl
@[go_sem] theorem T114_bytes : T114.bytes = 8 := by kernel_rfl
@[go_sem] theorem T114_zero : zeroPV T114 = some (.d .nilfunc) := by kernel_rfl
@[go_sem] theorem T114_ok : zeroOk T114 = true := by kernel_rfl
noncomputable def T115 : Ty := (tyOf Try.prog 115).getD ⟨.invalid, 0, 0, none⟩
@[go_sem] theorem ty115 : tyOf Try.prog 115 = some T115 := by kernel_rfl
@[go_sem] theorem T115_desc : T115.desc = .func #[112] #[4] false := by kernel_rfl
@[go_sem] theorem T115_size : T115.size = 1 := by kernel_rfl
@[go_sem] theorem T115_bytes : T115.bytes = 8 := by kernel_rfl
@[go_sem] theorem T115_zero : zeroPV T115 = some (.d .nilfunc) := by kernel_rfl
@[go_sem] theorem T115_ok : zeroOk T115 = true := by kernel_rfl
noncomputable def T116 : Ty := (tyOf Try.prog 116).getD ⟨.invalid, 0, 0, none⟩
@[go_sem] theorem ty116 : tyOf Try.prog 116 = some T116 := by kernel_rfl
@[go_sem] theorem T116_desc : T116.desc = .pointer 119 := by kernel_rfl
@[go_sem] theorem T116_size : T116.size = 1 := by kernel_rfl
@[go_sem] theorem T116_bytes : T116.bytes = 8 := by kernel_rfl
@[go_sem] theorem T116_zero : zeroPV T116 = some (.d .nilptr) := by kernel_rfl
@[go_sem] theorem T116_ok : zeroOk T116 = true := by kernel_rfl
noncomputable def T117 : Ty := (tyOf Try.prog 117).getD ⟨.invalid, 0, 0, none⟩
@[go_sem] theorem ty117 : tyOf Try.prog 117 = some T117 := by kernel_rfl
@[go_sem] theorem T117_desc : T117.desc = .slice 173 := by kernel_rfl
@[go_sem] theorem es117 : elemSize Try.prog 117 = some 2 := by kernel_rfl
@[go_sem] theorem T117_size : T117.size = 1 := by kernel_rfl
@[go_sem] theorem T117_bytes : T117.bytes = 24 := by kernel_rfl
@[go_sem] theorem T117_zero : zeroPV T117 = some (.d .nilslice) := by kernel_rfl
@[go_sem] theorem T117_ok : zeroOk T117 = true := by kernel_rfl
noncomputable def T118 : Ty := (tyOf Try.prog 118).getD ⟨.invalid, 0, 0, none⟩
@[go_sem] theorem ty118 : tyOf Try.prog 118 = some T118 := by kernel_rfl
noncomputable def fs118 : Array Field := match T118.desc with | .struct fs => fs | _ => #[]
@[go_sem] theorem T118_desc : T118.desc = .struct fs118 := by kernel_rfl
noncomputable def fs118_0 : Field := fs118.getD 0 default
@[go_sem] theorem fs118_at0 : fs118[0]? = some fs118_0 := by kernel_rfl
@[go_sem] theorem fs118_0_type : fs118_0.type = 31 := by kernel_rfl
@[go_sem] theorem fs118_0_off : fs118_0.offset = 0 := by kernel_rfl
@[go_sem] theorem fo118_0 : fieldOf Try.prog 118 0 = some (0, 1) := by kernel_rfl
noncomputable def fs118_1 : Field := fs118.getD 1 default
@[go_sem] theorem fs118_at1 : fs118[1]? = some fs118_1 := by kernel_rfl
@[go_sem] theorem fs118_1_type : fs118_1.type = 4 := by kernel_rfl
@[go_sem] theorem fs118_1_off : fs118_1.offset = 1 := by kernel_rfl
@[go_sem] theorem fo118_1 : fieldOf Try.prog 118 1 = some (1, 1) := by kernel_rfl
noncomputable def fs118_2 : Field := fs118.getD 2 default
@[go_sem] theorem fs118_at2 : fs118[2]? = some fs118_2 := by kernel_rfl
@[go_sem] theorem fs118_2_type : fs118_2.type = 117 := by kernel_rfl
@[go_sem] theorem fs118_2_off : fs118_2.offset = 2 := by kernel_rfl
@[go_sem] theorem fo118_2 : fieldOf Try.prog 118 2 = some (2, 1) := by kernel_rfl
@[go_sem] theorem pl118 : placesOf Try.prog fs118.toList = some [(0, 1), (1, 1), (2, 1)] := by kernel_rfl
@[go_sem] theorem T118_size : T118.size = 3 := by kernel_rfl
@[go_sem] theorem T118_bytes : T118.bytes = 56 := by kernel_rfl
@[go_sem] theorem T118_cells : zeroCells T118.zero = some [.d .nilslice, .d (.bool false), .d .nilslice] := by kernel_rfl
@[go_sem] theorem T118_zero : zeroPV T118 = some (.d (.agg [.nilslice, (.bool false), .nilslice])) := by kernel_rfl
@[go_sem] theorem T118_ok : zeroOk T118 = true := by kernel_rfl
noncomputable def T119 : Ty := (tyOf Try.prog 119).getD ⟨.invalid, 0, 0, none⟩
@[go_sem] theorem ty119 : tyOf Try.prog 119 = some T119 := by kernel_rfl
noncomputable def fs119 : Array Field := match T119.desc with | .struct fs => fs | _ => #[]
@[go_sem] theorem T119_desc : T119.desc = .struct fs119 := by kernel_rfl
noncomputable def fs119_0 : Field := fs119.getD 0 default
@[go_sem] theorem fs119_at0 : fs119[0]? = some fs119_0 := by kernel_rfl
@[go_sem] theorem fs119_0_type : fs119_0.type = 31 := by kernel_rfl
@[go_sem] theorem fs119_0_off : fs119_0.offset = 0 := by kernel_rfl
@[go_sem] theorem fo119_0 : fieldOf Try.prog 119 0 = some (0, 1) := by kernel_rfl
noncomputable def fs119_1 : Field := fs119.getD 1 default
@[go_sem] theorem fs119_at1 : fs119[1]? = some fs119_1 := by kernel_rfl
@[go_sem] theorem fs119_1_type : fs119_1.type = 4 := by kernel_rfl
@[go_sem] theorem fs119_1_off : fs119_1.offset = 1 := by kernel_rfl
@[go_sem] theorem fo119_1 : fieldOf Try.prog 119 1 = some (1, 1) := by kernel_rfl
noncomputable def fs119_2 : Field := fs119.getD 2 default
@[go_sem] theorem fs119_at2 : fs119[2]? = some fs119_2 := by kernel_rfl
@[go_sem] theorem fs119_2_type : fs119_2.type = 117 := by kernel_rfl
@[go_sem] theorem fs119_2_off : fs119_2.offset = 2 := by kernel_rfl
@[go_sem] theorem fo119_2 : fieldOf Try.prog 119 2 = some (2, 1) := by kernel_rfl
@[go_sem] theorem pl119 : placesOf Try.prog fs119.toList = some [(0, 1), (1, 1), (2, 1)] := by kernel_rfl
@[go_sem] theorem T119_size : T119.size = 3 := by kernel_rfl
@[go_sem] theorem T119_bytes : T119.bytes = 56 := by kernel_rfl
@[go_sem] theorem T119_cells : zeroCells T119.zero = some [.d .nilslice, .d (.bool false), .d .nilslice] := by kernel_rfl
@[go_sem] theorem T119_zero : zeroPV T119 = some (.d (.agg [.nilslice, (.bool false), .nilslice])) := by kernel_rfl
@[go_sem] theorem T119_ok : zeroOk T119 = true := by kernel_rfl
noncomputable def T120 : Ty := (tyOf Try.prog 120).getD ⟨.invalid, 0, 0, none⟩
@[go_sem] theorem ty120 : tyOf Try.prog 120 = some T120 := by kernel_rfl
@[go_sem] theorem T120_desc : T120.desc = .func #[3, 3, 3] #[4] false := by kernel_rfl
@[go_sem] theorem T120_size : T120.size = 1 := by kernel_rfl
@[go_sem] theorem T120_bytes : T120.bytes = 8 := by kernel_rfl
@[go_sem] theorem T120_zero : zeroPV T120 = some (.d .nilfunc) := by kernel_rfl
@[go_sem] theorem T120_ok : zeroOk T120 = true := by kernel_rfl
noncomputable def T121 : Ty := (tyOf Try.prog 121).getD ⟨.invalid, 0, 0, none⟩
@[go_sem] theorem ty121 : tyOf Try.prog 121 = some T121 := by kernel_rfl
@[go_sem] theorem T121_desc : T121.desc = .func #[3] #[4] false := by kernel_rfl
@[go_sem] theorem T121_size : T121.size = 1 := by kernel_rfl
@[go_sem] theorem T121_bytes : T121.bytes = 8 := by kernel_rfl
@[go_sem] theorem T121_zero : zeroPV T121 = some (.d .nilfunc) := by kernel_rfl
@[go_sem] theorem T121_ok : zeroOk T121 = true := by kernel_rfl
noncomputable def T122 : Ty := (tyOf Try.prog 122).getD ⟨.invalid, 0, 0, none⟩
@[go_sem] theorem ty122 : tyOf Try.prog 122 = some T122 := by kernel_rfl
@[go_sem] theorem T122_desc : T122.desc = .func #[31, 123] #[3] false := by kernel_rfl
@[go_sem] theorem T122_size : T122.size = 1 := by kernel_rfl
@[go_sem] theorem T122_bytes : T122.bytes = 8 := by kernel_rfl
@[go_sem] theorem T122_zero : zeroPV T122 = some (.d .nilfunc) := by kernel_rfl
@[go_sem] theorem T122_ok : zeroOk T122 = true := by kernel_rfl
noncomputable def T123 : Ty := (tyOf Try.prog 123).getD ⟨.invalid, 0, 0, none⟩
@[go_sem] theorem ty123 : tyOf Try.prog 123 = some T123 := by kernel_rfl
@[go_sem] theorem T123_desc : T123.desc = .func #[51] #[4] false := by kernel_rfl
@[go_sem] theorem T123_size : T123.size = 1 := by kernel_rfl
@[go_sem] theorem T123_bytes : T123.bytes = 8 := by kernel_rfl
@[go_sem] theorem T123_zero : zeroPV T123 = some (.d .nilfunc) := by kernel_rfl
@[go_sem] theorem T123_ok : zeroOk T123 = true := by kernel_rfl
noncomputable def T124 : Ty := (tyOf Try.prog 124).getD ⟨.invalid, 0, 0, none⟩
@[go_sem] theorem ty124 : tyOf Try.prog 124 = some T124 := by kernel_rfl
@[go_sem] theorem T124_desc : T124.desc = .func #[31, 51] #[4] false := by kernel_rfl
@[go_sem] theorem T124_size : T124.size = 1 := by kernel_rfl
@[go_sem] theorem T124_bytes : T124.bytes = 8 := by kernel_rfl
@[go_sem] theorem T124_zero : zeroPV T124 = some (.d .nilfunc) := by kernel_rfl
@[go_sem] theorem T124_ok : zeroOk T124 = true := by kernel_rfl
noncomputable def T125 : Ty := (tyOf Try.prog 125).getD ⟨.invalid, 0, 0, none⟩
@[go_sem] theorem ty125 : tyOf Try.prog 125 = some T125 := by kernel_rfl
@[go_sem] theorem T125_desc : T125.desc = .func #[88] #[] false := by kernel_rfl
@[go_sem] theorem T125_size : T125.size = 1 := by kernel_rfl
@[go_sem] theorem T125_bytes : T125.bytes = 8 := by kernel_rfl
@[go_sem] theorem T125_zero : zeroPV T125 = some (.d .nilfunc) := by kernel_rfl
@[go_sem] theorem T125_ok : zeroOk T125 = true := by kernel_rfl
noncomputable def T126 : Ty := (tyOf Try.prog 126).getD ⟨.invalid, 0, 0, none⟩
@[go_sem] theorem ty126 : tyOf Try.prog 126 = some T126 := by kernel_rfl
@[go_sem] theorem T126_desc : T126.desc = .pointer 51 := by kernel_rfl
@[go_sem] theorem T126_size : T126.size = 1 := by kernel_rfl
@[go_sem] theorem T126_bytes : T126.bytes = 8 := by kernel_rfl
@[go_sem] theorem T126_zero : zeroPV T126 = some (.d .nilptr) := by kernel_rfl
@[go_sem] theorem T126_ok : zeroOk T126 = true := by kernel_rfl
noncomputable def T127 : Ty := (tyOf Try.prog 127).getD ⟨.invalid, 0, 0, none⟩
@[go_sem] theorem ty127 : tyOf Try.prog 127 = some T127 := by kernel_rfl
@[go_sem] theorem T127_desc : T127.desc = .func #[3, 4, 3] #[55, 24] false := by kernel_rfl
@[go_sem] theorem T127_size : T127.size = 1 := by kernel_rfl
@[go_sem] theorem T127_bytes : T127.bytes = 8 := by kernel_rfl
@[go_sem] theorem T127_zero : zeroPV T127 = some (.d .nilfunc) := by kernel_rfl
@[go_sem] theorem T127_ok : zeroOk T127 = true := by kernel_rfl
noncomputable def T128 : Ty := (tyOf Try.prog 128).getD ⟨.invalid, 0, 0, none⟩
@[go_sem] theorem ty128 : tyOf Try.prog 128 = some T128 := by kernel_rfl
@[go_sem] theorem T128_desc : T128.desc = .func #[34, 3] #[34] false := by kernel_rfl
@[go_sem] theorem T128_size : T128.size = 1 := by kernel_rfl
@[go_sem] theorem T128_bytes : T128.bytes = 8 := by kernel_rfl
@[go_sem] theorem T128_zero : zeroPV T128 = some (.d .nilfunc) := by kernel_rfl
@[go_sem] theorem T128_ok : zeroOk T128 = true := by kernel_rfl
noncomputable def T129 : Ty := (tyOf Try.prog 129).getD ⟨.invalid, 0, 0, none⟩
@[go_sem] theorem ty129 : tyOf Try.prog 129 = some T129 := by kernel_rfl
@[go_sem] theorem T129_desc : T129.desc = .func #[88] #[55] false := by kernel_rfl
@[go_sem] theorem T129_size : T129.size = 1 := by kernel_rfl
@[go_sem] theorem T129_bytes : T129.bytes = 8 := by kernel_rfl
@[go_sem] theorem T129_zero : zeroPV T129 = some (.d .nilfunc) := by kernel_rfl
@[go_sem] theorem T129_ok : zeroOk T129 = true := by kernel_rfl
noncomputable def T130 : Ty := (tyOf Try.prog 130).getD ⟨.invalid, 0, 0, none⟩
@[go_sem] theorem ty130 : tyOf Try.prog 130 = some T130 := by kernel_rfl
@[go_sem] theorem T130_desc : T130.desc = .func #[3, 4] #[55, 24] false := by kernel_rfl
@[go_sem] theorem T130_size : T130.size = 1 := by kernel_rfl
@[go_sem] theorem T130_bytes : T130.bytes = 8 := by kernel_rfl
@[go_sem] theorem T130_zero : zeroPV T130 = some (.d .nilfunc) := by kernel_rfl
@[go_sem] theorem T130_ok : zeroOk T130 = true := by kernel_rfl
noncomputable def T132 : Ty := (tyOf Try.prog 132).getD ⟨.invalid, 0, 0, none⟩
@[go_sem] theorem ty132 : tyOf Try.prog 132 = some T132 := by kernel_rfl
noncomputable def fs132 : Array Field := match T132.desc with | .struct fs => fs | _ => #[]
@[go_sem] theorem T132_desc : T132.desc = .struct fs132 := by kernel_rfl
@[go_sem] theorem sih132 : Try.prog.stoodInHeld 132 = false := by kernel_rfl
@[go_sem] theorem egt132 : Try.prog.eqGuardType Try.prog.depth 132 = false := by kernel_rfl
@[go_sem] theorem pl132 : placesOf Try.prog fs132.toList = some [] := by kernel_rfl
@[go_sem] theorem T132_size : T132.size = 0 := by kernel_rfl
@[go_sem] theorem T132_bytes : T132.bytes = 0 := by kernel_rfl
noncomputable def T133 : Ty := (tyOf Try.prog 133).getD ⟨.invalid, 0, 0, none⟩
@[go_sem] theorem ty133 : tyOf Try.prog 133 = some T133 := by kernel_rfl
noncomputable def fs133 : Array Field := match T133.desc with | .struct fs => fs | _ => #[]
@[go_sem] theorem T133_desc : T133.desc = .struct fs133 := by kernel_rfl
@[go_sem] theorem sih133 : Try.prog.stoodInHeld 133 = false := by kernel_rfl
@[go_sem] theorem egt133 : Try.prog.eqGuardType Try.prog.depth 133 = false := by kernel_rfl
@[go_sem] theorem pl133 : placesOf Try.prog fs133.toList = some [] := by kernel_rfl
@[go_sem] theorem T133_size : T133.size = 0 := by kernel_rfl
@[go_sem] theorem T133_bytes : T133.bytes = 0 := by kernel_rfl
noncomputable def T134 : Ty := (tyOf Try.prog 134).getD ⟨.invalid, 0, 0, none⟩
@[go_sem] theorem ty134 : tyOf Try.prog 134 = some T134 := by kernel_rfl
noncomputable def fs134 : Array Field := match T134.desc with | .struct fs => fs | _ => #[]
@[go_sem] theorem T134_desc : T134.desc = .struct fs134 := by kernel_rfl
@[go_sem] theorem sih134 : Try.prog.stoodInHeld 134 = false := by kernel_rfl
@[go_sem] theorem egt134 : Try.prog.eqGuardType Try.prog.depth 134 = false := by kernel_rfl
@[go_sem] theorem pl134 : placesOf Try.prog fs134.toList = some [] := by kernel_rfl
@[go_sem] theorem T134_size : T134.size = 0 := by kernel_rfl
@[go_sem] theorem T134_bytes : T134.bytes = 0 := by kernel_rfl
noncomputable def T135 : Ty := (tyOf Try.prog 135).getD ⟨.invalid, 0, 0, none⟩
@[go_sem] theorem ty135 : tyOf Try.prog 135 = some T135 := by kernel_rfl
noncomputable def fs135 : Array Field := match T135.desc with | .struct fs => fs | _ => #[]
@[go_sem] theorem T135_desc : T135.desc = .struct fs135 := by kernel_rfl
@[go_sem] theorem sih135 : Try.prog.stoodInHeld 135 = false := by kernel_rfl
@[go_sem] theorem egt135 : Try.prog.eqGuardType Try.prog.depth 135 = false := by kernel_rfl
@[go_sem] theorem pl135 : placesOf Try.prog fs135.toList = some [] := by kernel_rfl
@[go_sem] theorem T135_size : T135.size = 0 := by kernel_rfl
@[go_sem] theorem T135_bytes : T135.bytes = 0 := by kernel_rfl
noncomputable def T136 : Ty := (tyOf Try.prog 136).getD ⟨.invalid, 0, 0, none⟩
@[go_sem] theorem ty136 : tyOf Try.prog 136 = some T136 := by kernel_rfl
@[go_sem] theorem T136_desc : T136.desc = .int .u64 := by kernel_rfl
@[go_sem] theorem T136_size : T136.size = 1 := by kernel_rfl
@[go_sem] theorem T136_bytes : T136.bytes = 8 := by kernel_rfl
@[go_sem] theorem T136_zero : zeroPV T136 = some (.d (.int .u64 0)) := by kernel_rfl
@[go_sem] theorem T136_ok : zeroOk T136 = true := by kernel_rfl
noncomputable def T137 : Ty := (tyOf Try.prog 137).getD ⟨.invalid, 0, 0, none⟩
@[go_sem] theorem ty137 : tyOf Try.prog 137 = some T137 := by kernel_rfl
noncomputable def fs137 : Array Field := match T137.desc with | .struct fs => fs | _ => #[]
@[go_sem] theorem T137_desc : T137.desc = .struct fs137 := by kernel_rfl
noncomputable def fs137_0 : Field := fs137.getD 0 default
@[go_sem] theorem fs137_at0 : fs137[0]? = some fs137_0 := by kernel_rfl
@[go_sem] theorem fs137_0_type : fs137_0.type = 134 := by kernel_rfl
@[go_sem] theorem fs137_0_off : fs137_0.offset = 0 := by kernel_rfl
@[go_sem] theorem fo137_0 : fieldOf Try.prog 137 0 = some (0, 0) := by kernel_rfl
noncomputable def fs137_1 : Field := fs137.getD 1 default
@[go_sem] theorem fs137_at1 : fs137[1]? = some fs137_1 := by kernel_rfl
@[go_sem] theorem fs137_1_type : fs137_1.type = 135 := by kernel_rfl
@[go_sem] theorem fs137_1_off : fs137_1.offset = 0 := by kernel_rfl
@[go_sem] theorem fo137_1 : fieldOf Try.prog 137 1 = some (0, 0) := by kernel_rfl
noncomputable def fs137_2 : Field := fs137.getD 2 default
@[go_sem] theorem fs137_at2 : fs137[2]? = some fs137_2 := by kernel_rfl
@[go_sem] theorem fs137_2_type : fs137_2.type = 136 := by kernel_rfl
@[go_sem] theorem fs137_2_off : fs137_2.offset = 0 := by kernel_rfl
@[go_sem] theorem fo137_2 : fieldOf Try.prog 137 2 = some (0, 1) := by kernel_rfl
@[go_sem] theorem pl137 : placesOf Try.prog fs137.toList = some [(0, 0), (0, 0), (0, 1)] := by kernel_rfl
@[go_sem] theorem T137_size : T137.size = 1 := by kernel_rfl
@[go_sem] theorem T137_bytes : T137.bytes = 8 := by kernel_rfl
@[go_sem] theorem T137_cells : zeroCells T137.zero = some [.d (.int .u64 0)] := by kernel_rfl
@[go_sem] theorem T137_zero : zeroPV T137 = some (.d (.agg [(.int .u64 0)])) := by kernel_rfl
@[go_sem] theorem T137_ok : zeroOk T137 = true := by kernel_rfl
noncomputable def T138 : Ty := (tyOf Try.prog 138).getD ⟨.invalid, 0, 0, none⟩
@[go_sem] theorem ty138 : tyOf Try.prog 138 = some T138 := by kernel_rfl
noncomputable def fs138 : Array Field := match T138.desc with | .struct fs => fs | _ => #[]
@[go_sem] theorem T138_desc : T138.desc = .struct fs138 := by kernel_rfl
noncomputable def fs138_0 : Field := fs138.getD 0 default
@[go_sem] theorem fs138_at0 : fs138[0]? = some fs138_0 := by kernel_rfl
@[go_sem] theorem fs138_0_type : fs138_0.type = 134 := by kernel_rfl
@[go_sem] theorem fs138_0_off : fs138_0.offset = 0 := by kernel_rfl
@[go_sem] theorem fo138_0 : fieldOf Try.prog 138 0 = some (0, 0) := by kernel_rfl
noncomputable def fs138_1 : Field := fs138.getD 1 default
@[go_sem] theorem fs138_at1 : fs138[1]? = some fs138_1 := by kernel_rfl
@[go_sem] theorem fs138_1_type : fs138_1.type = 135 := by kernel_rfl
@[go_sem] theorem fs138_1_off : fs138_1.offset = 0 := by kernel_rfl
@[go_sem] theorem fo138_1 : fieldOf Try.prog 138 1 = some (0, 0) := by kernel_rfl
noncomputable def fs138_2 : Field := fs138.getD 2 default
@[go_sem] theorem fs138_at2 : fs138[2]? = some fs138_2 := by kernel_rfl
@[go_sem] theorem fs138_2_type : fs138_2.type = 136 := by kernel_rfl
@[go_sem] theorem fs138_2_off : fs138_2.offset = 0 := by kernel_rfl
@[go_sem] theorem fo138_2 : fieldOf Try.prog 138 2 = some (0, 1) := by kernel_rfl
@[go_sem] theorem pl138 : placesOf Try.prog fs138.toList = some [(0, 0), (0, 0), (0, 1)] := by kernel_rfl
@[go_sem] theorem T138_size : T138.size = 1 := by kernel_rfl
@[go_sem] theorem T138_bytes : T138.bytes = 8 := by kernel_rfl
@[go_sem] theorem T138_cells : zeroCells T138.zero = some [.d (.int .u64 0)] := by kernel_rfl
@[go_sem] theorem T138_zero : zeroPV T138 = some (.d (.agg [(.int .u64 0)])) := by kernel_rfl
@[go_sem] theorem T138_ok : zeroOk T138 = true := by kernel_rfl
noncomputable def T139 : Ty := (tyOf Try.prog 139).getD ⟨.invalid, 0, 0, none⟩
@[go_sem] theorem ty139 : tyOf Try.prog 139 = some T139 := by kernel_rfl
@[go_sem] theorem T139_desc : T139.desc = .int .u32 := by kernel_rfl
@[go_sem] theorem T139_size : T139.size = 1 := by kernel_rfl
@[go_sem] theorem T139_bytes : T139.bytes = 4 := by kernel_rfl
@[go_sem] theorem T139_zero : zeroPV T139 = some (.d (.int .u32 0)) := by kernel_rfl
@[go_sem] theorem T139_ok : zeroOk T139 = true := by kernel_rfl
noncomputable def T140 : Ty := (tyOf Try.prog 140).getD ⟨.invalid, 0, 0, none⟩
@[go_sem] theorem ty140 : tyOf Try.prog 140 = some T140 := by kernel_rfl
noncomputable def fs140 : Array Field := match T140.desc with | .struct fs => fs | _ => #[]
@[go_sem] theorem T140_desc : T140.desc = .struct fs140 := by kernel_rfl
noncomputable def fs140_0 : Field := fs140.getD 0 default
@[go_sem] theorem fs140_at0 : fs140[0]? = some fs140_0 := by kernel_rfl
@[go_sem] theorem fs140_0_type : fs140_0.type = 133 := by kernel_rfl
@[go_sem] theorem fs140_0_off : fs140_0.offset = 0 := by kernel_rfl
@[go_sem] theorem fo140_0 : fieldOf Try.prog 140 0 = some (0, 0) := by kernel_rfl
noncomputable def fs140_1 : Field := fs140.getD 1 default
@[go_sem] theorem fs140_at1 : fs140[1]? = some fs140_1 := by kernel_rfl
@[go_sem] theorem fs140_1_type : fs140_1.type = 138 := by kernel_rfl
@[go_sem] theorem fs140_1_off : fs140_1.offset = 0 := by kernel_rfl
@[go_sem] theorem fo140_1 : fieldOf Try.prog 140 1 = some (0, 1) := by kernel_rfl
noncomputable def fs140_2 : Field := fs140.getD 2 default
@[go_sem] theorem fs140_at2 : fs140[2]? = some fs140_2 := by kernel_rfl
@[go_sem] theorem fs140_2_type : fs140_2.type = 139 := by kernel_rfl
@[go_sem] theorem fs140_2_off : fs140_2.offset = 1 := by kernel_rfl
@[go_sem] theorem fo140_2 : fieldOf Try.prog 140 2 = some (1, 1) := by kernel_rfl
@[go_sem] theorem pl140 : placesOf Try.prog fs140.toList = some [(0, 0), (0, 1), (1, 1)] := by kernel_rfl
@[go_sem] theorem T140_size : T140.size = 2 := by kernel_rfl
@[go_sem] theorem T140_bytes : T140.bytes = 16 := by kernel_rfl
@[go_sem] theorem T140_cells : zeroCells T140.zero = some [.d (.int .u64 0), .d (.int .u32 0)] := by kernel_rfl
@[go_sem] theorem T140_zero : zeroPV T140 = some (.d (.agg [(.int .u64 0), (.int .u32 0)])) := by kernel_rfl
@[go_sem] theorem T140_ok : zeroOk T140 = true := by kernel_rfl
noncomputable def T141 : Ty := (tyOf Try.prog 141).getD ⟨.invalid, 0, 0, none⟩
@[go_sem] theorem ty141 : tyOf Try.prog 141 = some T141 := by kernel_rfl
noncomputable def fs141 : Array Field := match T141.desc with | .struct fs => fs | _ => #[]
@[go_sem] theorem T141_desc : T141.desc = .struct fs141 := by kernel_rfl
noncomputable def fs141_0 : Field := fs141.getD 0 default
@[go_sem] theorem fs141_at0 : fs141[0]? = some fs141_0 := by kernel_rfl
@[go_sem] theorem fs141_0_type : fs141_0.type = 133 := by kernel_rfl
@[go_sem] theorem fs141_0_off : fs141_0.offset = 0 := by kernel_rfl
@[go_sem] theorem fo141_0 : fieldOf Try.prog 141 0 = some (0, 0) := by kernel_rfl
noncomputable def fs141_1 : Field := fs141.getD 1 default
@[go_sem] theorem fs141_at1 : fs141[1]? = some fs141_1 := by kernel_rfl
@[go_sem] theorem fs141_1_type : fs141_1.type = 138 := by kernel_rfl
@[go_sem] theorem fs141_1_off : fs141_1.offset = 0 := by kernel_rfl
@[go_sem] theorem fo141_1 : fieldOf Try.prog 141 1 = some (0, 1) := by kernel_rfl
noncomputable def fs141_2 : Field := fs141.getD 2 default
@[go_sem] theorem fs141_at2 : fs141[2]? = some fs141_2 := by kernel_rfl
@[go_sem] theorem fs141_2_type : fs141_2.type = 139 := by kernel_rfl
@[go_sem] theorem fs141_2_off : fs141_2.offset = 1 := by kernel_rfl
@[go_sem] theorem fo141_2 : fieldOf Try.prog 141 2 = some (1, 1) := by kernel_rfl
@[go_sem] theorem pl141 : placesOf Try.prog fs141.toList = some [(0, 0), (0, 1), (1, 1)] := by kernel_rfl
@[go_sem] theorem T141_size : T141.size = 2 := by kernel_rfl
@[go_sem] theorem T141_bytes : T141.bytes = 16 := by kernel_rfl
@[go_sem] theorem T141_cells : zeroCells T141.zero = some [.d (.int .u64 0), .d (.int .u32 0)] := by kernel_rfl
@[go_sem] theorem T141_zero : zeroPV T141 = some (.d (.agg [(.int .u64 0), (.int .u32 0)])) := by kernel_rfl
@[go_sem] theorem T141_ok : zeroOk T141 = true := by kernel_rfl
noncomputable def T142 : Ty := (tyOf Try.prog 142).getD ⟨.invalid, 0, 0, none⟩
@[go_sem] theorem ty142 : tyOf Try.prog 142 = some T142 := by kernel_rfl
@[go_sem] theorem T142_desc : T142.desc = .func #[3] #[] false := by kernel_rfl
@[go_sem] theorem T142_size : T142.size = 1 := by kernel_rfl
@[go_sem] theorem T142_bytes : T142.bytes = 8 := by kernel_rfl
@[go_sem] theorem T142_zero : zeroPV T142 = some (.d .nilfunc) := by kernel_rfl
@[go_sem] theorem T142_ok : zeroOk T142 = true := by kernel_rfl
noncomputable def T144 : Ty := (tyOf Try.prog 144).getD ⟨.invalid, 0, 0, none⟩
@[go_sem] theorem ty144 : tyOf Try.prog 144 = some T144 := by kernel_rfl
@[go_sem] theorem T144_desc : T144.desc = .func #[112, 145] #[41, 4] false := by kernel_rfl
@[go_sem] theorem T144_size : T144.size = 1 := by kernel_rfl
@[go_sem] theorem T144_bytes : T144.bytes = 8 := by kernel_rfl
@[go_sem] theorem T144_zero : zeroPV T144 = some (.d .nilfunc) := by kernel_rfl
@[go_sem] theorem T144_ok : zeroOk T144 = true := by kernel_rfl
noncomputable def T145 : Ty := (tyOf Try.prog 145).getD ⟨.invalid, 0, 0, none⟩
@[go_sem] theorem ty145 : tyOf Try.prog 145 = some T145 := by kernel_rfl
@[go_sem] theorem T145_desc : T145.desc = .map 112 4 := by kernel_rfl
@[go_sem] theorem T145_size : T145.size = 1 := by kernel_rfl
@[go_sem] theorem T145_bytes : T145.bytes = 8 := by kernel_rfl
@[go_sem] theorem T145_zero : zeroPV T145 = some (.d .nilmap) := by kernel_rfl
@[go_sem] theorem T145_ok : zeroOk T145 = true := by kernel_rfl
noncomputable def T146 : Ty := (tyOf Try.prog 146).getD ⟨.invalid, 0, 0, none⟩
@[go_sem] theorem ty146 : tyOf Try.prog 146 = some T146 := by kernel_rfl
noncomputable def fs146 : Array Field := match T146.desc with | .struct fs => fs | _ => #[]
@[go_sem] theorem T146_desc : T146.desc = .struct fs146 := by kernel_rfl
noncomputable def fs146_0 : Field := fs146.getD 0 default
@[go_sem] theorem fs146_at0 : fs146[0]? = some fs146_0 := by kernel_rfl
@[go_sem] theorem fs146_0_type : fs146_0.type = 3 := by kernel_rfl
@[go_sem] theorem fs146_0_off : fs146_0.offset = 0 := by kernel_rfl
@[go_sem] theorem fo146_0 : fieldOf Try.prog 146 0 = some (0, 1) := by kernel_rfl
noncomputable def fs146_1 : Field := fs146.getD 1 default
@[go_sem] theorem fs146_at1 : fs146[1]? = some fs146_1 := by kernel_rfl
@[go_sem] theorem fs146_1_type : fs146_1.type = 41 := by kernel_rfl
@[go_sem] theorem fs146_1_off : fs146_1.offset = 1 := by kernel_rfl
@[go_sem] theorem fo146_1 : fieldOf Try.prog 146 1 = some (1, 1) := by kernel_rfl
@[go_sem] theorem pl146 : placesOf Try.prog fs146.toList = some [(0, 1), (1, 1)] := by kernel_rfl
@[go_sem] theorem T146_size : T146.size = 2 := by kernel_rfl
@[go_sem] theorem T146_bytes : T146.bytes = 32 := by kernel_rfl
@[go_sem] theorem T146_cells : zeroCells T146.zero = some [.d (.int .i64 0), .d .nilslice] := by kernel_rfl
@[go_sem] theorem T146_zero : zeroPV T146 = some (.d (.agg [(.int .i64 0), .nilslice])) := by kernel_rfl
@[go_sem] theorem T146_ok : zeroOk T146 = true := by kernel_rfl
noncomputable def T147 : Ty := (tyOf Try.prog 147).getD ⟨.invalid, 0, 0, none⟩
@[go_sem] theorem ty147 : tyOf Try.prog 147 = some T147 := by kernel_rfl
noncomputable def fs147 : Array Field := match T147.desc with | .struct fs => fs | _ => #[]
@[go_sem] theorem T147_desc : T147.desc = .struct fs147 := by kernel_rfl
noncomputable def fs147_0 : Field := fs147.getD 0 default
@[go_sem] theorem fs147_at0 : fs147[0]? = some fs147_0 := by kernel_rfl
@[go_sem] theorem fs147_0_type : fs147_0.type = 3 := by kernel_rfl
@[go_sem] theorem fs147_0_off : fs147_0.offset = 0 := by kernel_rfl
@[go_sem] theorem fo147_0 : fieldOf Try.prog 147 0 = some (0, 1) := by kernel_rfl
noncomputable def fs147_1 : Field := fs147.getD 1 default
@[go_sem] theorem fs147_at1 : fs147[1]? = some fs147_1 := by kernel_rfl
@[go_sem] theorem fs147_1_type : fs147_1.type = 41 := by kernel_rfl
@[go_sem] theorem fs147_1_off : fs147_1.offset = 1 := by kernel_rfl
@[go_sem] theorem fo147_1 : fieldOf Try.prog 147 1 = some (1, 1) := by kernel_rfl
@[go_sem] theorem pl147 : placesOf Try.prog fs147.toList = some [(0, 1), (1, 1)] := by kernel_rfl
@[go_sem] theorem T147_size : T147.size = 2 := by kernel_rfl
@[go_sem] theorem T147_bytes : T147.bytes = 32 := by kernel_rfl
@[go_sem] theorem T147_cells : zeroCells T147.zero = some [.d (.int .i64 0), .d .nilslice] := by kernel_rfl
@[go_sem] theorem T147_zero : zeroPV T147 = some (.d (.agg [(.int .i64 0), .nilslice])) := by kernel_rfl
@[go_sem] theorem T147_ok : zeroOk T147 = true := by kernel_rfl
noncomputable def T148 : Ty := (tyOf Try.prog 148).getD ⟨.invalid, 0, 0, none⟩
@[go_sem] theorem ty148 : tyOf Try.prog 148 = some T148 := by kernel_rfl
@[go_sem] theorem T148_desc : T148.desc = .func #[3, 3] #[41, 4] false := by kernel_rfl
@[go_sem] theorem T148_size : T148.size = 1 := by kernel_rfl
@[go_sem] theorem T148_bytes : T148.bytes = 8 := by kernel_rfl
@[go_sem] theorem T148_zero : zeroPV T148 = some (.d .nilfunc) := by kernel_rfl
@[go_sem] theorem T148_ok : zeroOk T148 = true := by kernel_rfl
noncomputable def T149 : Ty := (tyOf Try.prog 149).getD ⟨.invalid, 0, 0, none⟩
@[go_sem] theorem ty149 : tyOf Try.prog 149 = some T149 := by kernel_rfl
@[go_sem] theorem T149_desc : T149.desc = .func #[51, 51, 4] #[4] false := by kernel_rfl
@[go_sem] theorem T149_size : T149.size = 1 := by kernel_rfl
@[go_sem] theorem T149_bytes : T149.bytes = 8 := by kernel_rfl
@[go_sem] theorem T149_zero : zeroPV T149 = some (.d .nilfunc) := by kernel_rfl
@[go_sem] theorem T149_ok : zeroOk T149 = true := by kernel_rfl
noncomputable def T150 : Ty := (tyOf Try.prog 150).getD ⟨.invalid, 0, 0, none⟩
@[go_sem] theorem ty150 : tyOf Try.prog 150 = some T150 := by kernel_rfl
@[go_sem] theorem T150_desc : T150.desc = .func #[31, 123] #[4] false := by kernel_rfl
@[go_sem] theorem T150_size : T150.size = 1 := by kernel_rfl
@[go_sem] theorem T150_bytes : T150.bytes = 8 := by kernel_rfl
@[go_sem] theorem T150_zero : zeroPV T150 = some (.d .nilfunc) := by kernel_rfl
@[go_sem] theorem T150_ok : zeroOk T150 = true := by kernel_rfl
noncomputable def T151 : Ty := (tyOf Try.prog 151).getD ⟨.invalid, 0, 0, none⟩
@[go_sem] theorem ty151 : tyOf Try.prog 151 = some T151 := by kernel_rfl
@[go_sem] theorem T151_desc : T151.desc = .func #[41] #[3] true := by kernel_rfl
@[go_sem] theorem T151_size : T151.size = 1 := by kernel_rfl
@[go_sem] theorem T151_bytes : T151.bytes = 8 := by kernel_rfl
@[go_sem] theorem T151_zero : zeroPV T151 = some (.d .nilfunc) := by kernel_rfl
@[go_sem] theorem T151_ok : zeroOk T151 = true := by kernel_rfl
noncomputable def T152 : Ty := (tyOf Try.prog 152).getD ⟨.invalid, 0, 0, none⟩
@[go_sem] theorem ty152 : tyOf Try.prog 152 = some T152 := by kernel_rfl
@[go_sem] theorem T152_desc : T152.desc = .func #[3, 3] #[3] false := by kernel_rfl
@[go_sem] theorem T152_size : T152.size = 1 := by kernel_rfl
@[go_sem] theorem T152_bytes : T152.bytes = 8 := by kernel_rfl
@[go_sem] theorem T152_zero : zeroPV T152 = some (.d .nilfunc) := by kernel_rfl
@[go_sem] theorem T152_ok : zeroOk T152 = true := by kernel_rfl
noncomputable def T153 : Ty := (tyOf Try.prog 153).getD ⟨.invalid, 0, 0, none⟩
@[go_sem] theorem ty153 : tyOf Try.prog 153 = some T153 := by kernel_rfl
@[go_sem] theorem T153_desc : T153.desc = .func #[] #[53] false := by kernel_rfl
@[go_sem] theorem T153_size : T153.size = 1 := by kernel_rfl
@[go_sem] theorem T153_bytes : T153.bytes = 8 := by kernel_rfl
@[go_sem] theorem T153_zero : zeroPV T153 = some (.d .nilfunc) := by kernel_rfl
@[go_sem] theorem T153_ok : zeroOk T153 = true := by kernel_rfl
noncomputable def T154 : Ty := (tyOf Try.prog 154).getD ⟨.invalid, 0, 0, none⟩
@[go_sem] theorem ty154 : tyOf Try.prog 154 = some T154 := by kernel_rfl
@[go_sem] theorem T154_desc : T154.desc = .pointer 96 := by kernel_rfl
@[go_sem] theorem T154_size : T154.size = 1 := by kernel_rfl
@[go_sem] theorem T154_bytes : T154.bytes = 8 := by kernel_rfl
@[go_sem] theorem T154_zero : zeroPV T154 = some (.d .nilptr) := by kernel_rfl
@[go_sem] theorem T154_ok : zeroOk T154 = true := by kernel_rfl
noncomputable def T155 : Ty := (tyOf Try.prog 155).getD ⟨.invalid, 0, 0, none⟩
@[go_sem] theorem ty155 : tyOf Try.prog 155 = some T155 := by kernel_rfl
@[go_sem] theorem T155_desc : T155.desc = .func #[80] #[4] false := by kernel_rfl
@[go_sem] theorem T155_size : T155.size = 1 := by kernel_rfl
@[go_sem] theorem T155_bytes : T155.bytes = 8 := by kernel_rfl
@[go_sem] theorem T155_zero : zeroPV T155 = some (.d .nilfunc) := by kernel_rfl
@[go_sem] theorem T155_ok : zeroOk T155 = true := by kernel_rfl
noncomputable def T156 : Ty := (tyOf Try.prog 156).getD ⟨.invalid, 0, 0, none⟩
@[go_sem] theorem ty156 : tyOf Try.prog 156 = some T156 := by kernel_rfl
@[go_sem] theorem T156_desc : T156.desc = .pointer 141 := by kernel_rfl
@[go_sem] theorem T156_size : T156.size = 1 := by kernel_rfl
@[go_sem] theorem T156_bytes : T156.bytes = 8 := by kernel_rfl
@[go_sem] theorem T156_zero : zeroPV T156 = some (.d .nilptr) := by kernel_rfl
@[go_sem] theorem T156_ok : zeroOk T156 = true := by kernel_rfl
noncomputable def T157 : Ty := (tyOf Try.prog 157).getD ⟨.invalid, 0, 0, none⟩
@[go_sem] theorem ty157 : tyOf Try.prog 157 = some T157 := by kernel_rfl
@[go_sem] theorem T157_desc : T157.desc = .func #[158] #[] false := by kernel_rfl
@[go_sem] theorem T157_size : T157.size = 1 := by kernel_rfl
@[go_sem] theorem T157_bytes : T157.bytes = 8 := by kernel_rfl
@[go_sem] theorem T157_zero : zeroPV T157 = some (.d .nilfunc) := by kernel_rfl
@[go_sem] theorem T157_ok : zeroOk T157 = true := by kernel_rfl
noncomputable def T159 : Ty := (tyOf Try.prog 159).getD ⟨.invalid, 0, 0, none⟩
@[go_sem] theorem ty159 : tyOf Try.prog 159 = some T159 := by kernel_rfl
@[go_sem] theorem T159_desc : T159.desc = .int .i64 := by kernel_rfl
@[go_sem] theorem T159_size : T159.size = 1 := by kernel_rfl
@[go_sem] theorem T159_bytes : T159.bytes = 8 := by kernel_rfl
@[go_sem] theorem T159_zero : zeroPV T159 = some (.d (.int .i64 0)) := by kernel_rfl
@[go_sem] theorem T159_ok : zeroOk T159 = true := by kernel_rfl
noncomputable def T160 : Ty := (tyOf Try.prog 160).getD ⟨.invalid, 0, 0, none⟩
@[go_sem] theorem ty160 : tyOf Try.prog 160 = some T160 := by kernel_rfl
@[go_sem] theorem T160_desc : T160.desc = .func #[156] #[159] false := by kernel_rfl
@[go_sem] theorem T160_size : T160.size = 1 := by kernel_rfl
@[go_sem] theorem T160_bytes : T160.bytes = 8 := by kernel_rfl
@[go_sem] theorem T160_zero : zeroPV T160 = some (.d .nilfunc) := by kernel_rfl
@[go_sem] theorem T160_ok : zeroOk T160 = true := by kernel_rfl
noncomputable def T161 : Ty := (tyOf Try.prog 161).getD ⟨.invalid, 0, 0, none⟩
@[go_sem] theorem ty161 : tyOf Try.prog 161 = some T161 := by kernel_rfl
@[go_sem] theorem T161_desc : T161.desc = .func #[9] #[] false := by kernel_rfl
@[go_sem] theorem T161_size : T161.size = 1 := by kernel_rfl
@[go_sem] theorem T161_bytes : T161.bytes = 8 := by kernel_rfl
@[go_sem] theorem T161_zero : zeroPV T161 = some (.d .nilfunc) := by kernel_rfl
@[go_sem] theorem T161_ok : zeroOk T161 = true := by kernel_rfl
noncomputable def T162 : Ty := (tyOf Try.prog 162).getD ⟨.invalid, 0, 0, none⟩
@[go_sem] theorem ty162 : tyOf Try.prog 162 = some T162 := by kernel_rfl
@[go_sem] theorem T162_desc : T162.desc = .func #[136] #[136] false := by kernel_rfl
@[go_sem] theorem T162_size : T162.size = 1 := by kernel_rfl
@[go_sem] theorem T162_bytes : T162.bytes = 8 := by kernel_rfl
@[go_sem] theorem T162_zero : zeroPV T162 = some (.d .nilfunc) := by kernel_rfl
@[go_sem] theorem T162_ok : zeroOk T162 = true := by kernel_rfl
noncomputable def T163 : Ty := (tyOf Try.prog 163).getD ⟨.invalid, 0, 0, none⟩
@[go_sem] theorem ty163 : tyOf Try.prog 163 = some T163 := by kernel_rfl
@[go_sem] theorem T163_desc : T163.desc = .int .u64 := by kernel_rfl
@[go_sem] theorem T163_size : T163.size = 1 := by kernel_rfl
@[go_sem] theorem T163_bytes : T163.bytes = 8 := by kernel_rfl
@[go_sem] theorem T163_zero : zeroPV T163 = some (.d (.int .u64 0)) := by kernel_rfl
@[go_sem] theorem T163_ok : zeroOk T163 = true := by kernel_rfl
noncomputable def T164 : Ty := (tyOf Try.prog 164).getD ⟨.invalid, 0, 0, none⟩
@[go_sem] theorem ty164 : tyOf Try.prog 164 = some T164 := by kernel_rfl
@[go_sem] theorem T164_desc : T164.desc = .pointer 139 := by kernel_rfl
@[go_sem] theorem T164_size : T164.size = 1 := by kernel_rfl
@[go_sem] theorem T164_bytes : T164.bytes = 8 := by kernel_rfl
@[go_sem] theorem T164_zero : zeroPV T164 = some (.d .nilptr) := by kernel_rfl
@[go_sem] theorem T164_ok : zeroOk T164 = true := by kernel_rfl
noncomputable def T165 : Ty := (tyOf Try.prog 165).getD ⟨.invalid, 0, 0, none⟩
@[go_sem] theorem ty165 : tyOf Try.prog 165 = some T165 := by kernel_rfl
@[go_sem] theorem T165_desc : T165.desc = .func #[] #[136] false := by kernel_rfl
@[go_sem] theorem T165_size : T165.size = 1 := by kernel_rfl
@[go_sem] theorem T165_bytes : T165.bytes = 8 := by kernel_rfl
@[go_sem] theorem T165_zero : zeroPV T165 = some (.d .nilfunc) := by kernel_rfl
@[go_sem] theorem T165_ok : zeroOk T165 = true := by kernel_rfl
noncomputable def T166 : Ty := (tyOf Try.prog 166).getD ⟨.invalid, 0, 0, none⟩
@[go_sem] theorem ty166 : tyOf Try.prog 166 = some T166 := by kernel_rfl
@[go_sem] theorem T166_desc : T166.desc = .func #[136] #[] false := by kernel_rfl
@[go_sem] theorem T166_size : T166.size = 1 := by kernel_rfl
@[go_sem] theorem T166_bytes : T166.bytes = 8 := by kernel_rfl
@[go_sem] theorem T166_zero : zeroPV T166 = some (.d .nilfunc) := by kernel_rfl
@[go_sem] theorem T166_ok : zeroOk T166 = true := by kernel_rfl
noncomputable def T167 : Ty := (tyOf Try.prog 167).getD ⟨.invalid, 0, 0, none⟩
@[go_sem] theorem ty167 : tyOf Try.prog 167 = some T167 := by kernel_rfl
@[go_sem] theorem T167_desc : T167.desc = .func #[156] #[] false := by kernel_rfl
@[go_sem] theorem T167_size : T167.size = 1 := by kernel_rfl
@[go_sem] theorem T167_bytes : T167.bytes = 8 := by kernel_rfl
@[go_sem] theorem T167_zero : zeroPV T167 = some (.d .nilfunc) := by kernel_rfl
@[go_sem] theorem T167_ok : zeroOk T167 = true := by kernel_rfl
noncomputable def T168 : Ty := (tyOf Try.prog 168).getD ⟨.invalid, 0, 0, none⟩
@[go_sem] theorem ty168 : tyOf Try.prog 168 = some T168 := by kernel_rfl
@[go_sem] theorem T168_desc : T168.desc = .func #[164, 4, 3] #[] false := by kernel_rfl
@[go_sem] theorem T168_size : T168.size = 1 := by kernel_rfl
@[go_sem] theorem T168_bytes : T168.bytes = 8 := by kernel_rfl
@[go_sem] theorem T168_zero : zeroPV T168 = some (.d .nilfunc) := by kernel_rfl
@[go_sem] theorem T168_ok : zeroOk T168 = true := by kernel_rfl
noncomputable def T169 : Ty := (tyOf Try.prog 169).getD ⟨.invalid, 0, 0, none⟩
@[go_sem] theorem ty169 : tyOf Try.prog 169 = some T169 := by kernel_rfl
@[go_sem] theorem T169_desc : T169.desc = .func #[156] #[4] false := by kernel_rfl
@[go_sem] theorem T169_size : T169.size = 1 := by kernel_rfl
@[go_sem] theorem T169_bytes : T169.bytes = 8 := by kernel_rfl
@[go_sem] theorem T169_zero : zeroPV T169 = some (.d .nilfunc) := by kernel_rfl
@[go_sem] theorem T169_ok : zeroOk T169 = true := by kernel_rfl
noncomputable def T170 : Ty := (tyOf Try.prog 170).getD ⟨.invalid, 0, 0, none⟩
@[go_sem] theorem ty170 : tyOf Try.prog 170 = some T170 := by kernel_rfl
@[go_sem] theorem T170_desc : T170.desc = .func #[136, 136] #[4] false := by kernel_rfl
@[go_sem] theorem T170_size : T170.size = 1 := by kernel_rfl
@[go_sem] theorem T170_bytes : T170.bytes = 8 := by kernel_rfl
@[go_sem] theorem T170_zero : zeroPV T170 = some (.d .nilfunc) := by kernel_rfl
@[go_sem] theorem T170_ok : zeroOk T170 = true := by kernel_rfl
noncomputable def T171 : Ty := (tyOf Try.prog 171).getD ⟨.invalid, 0, 0, none⟩
@[go_sem] theorem ty171 : tyOf Try.prog 171 = some T171 := by kernel_rfl
@[go_sem] theorem T171_desc : T171.desc = .func #[164, 4] #[] false := by kernel_rfl
@[go_sem] theorem T171_size : T171.size = 1 := by kernel_rfl
@[go_sem] theorem T171_bytes : T171.bytes = 8 := by kernel_rfl
@[go_sem] theorem T171_zero : zeroPV T171 = some (.d .nilfunc) := by kernel_rfl
@[go_sem] theorem T171_ok : zeroOk T171 = true := by kernel_rfl
noncomputable def T172 : Ty := (tyOf Try.prog 172).getD ⟨.invalid, 0, 0, none⟩
@[go_sem] theorem ty172 : tyOf Try.prog 172 = some T172 := by kernel_rfl
noncomputable def fs172 : Array Field := match T172.desc with | .struct fs => fs | _ => #[]
@[go_sem] theorem T172_desc : T172.desc = .struct fs172 := by kernel_rfl
noncomputable def fs172_0 : Field := fs172.getD 0 default
@[go_sem] theorem fs172_at0 : fs172[0]? = some fs172_0 := by kernel_rfl
@[go_sem] theorem fs172_0_type : fs172_0.type = 3 := by kernel_rfl
@[go_sem] theorem fs172_0_off : fs172_0.offset = 0 := by kernel_rfl
@[go_sem] theorem fo172_0 : fieldOf Try.prog 172 0 = some (0, 1) := by kernel_rfl
@[go_sem] theorem fs172_0_nm : (fs172_0.name == "_") = false := by kernel_rfl
noncomputable def fs172_1 : Field := fs172.getD 1 default
@[go_sem] theorem fs172_at1 : fs172[1]? = some fs172_1 := by kernel_rfl
@[go_sem] theorem fs172_1_type : fs172_1.type = 3 := by kernel_rfl
@[go_sem] theorem fs172_1_off : fs172_1.offset = 1 := by kernel_rfl
@[go_sem] theorem fo172_1 : fieldOf Try.prog 172 1 = some (1, 1) := by kernel_rfl
@[go_sem] theorem fs172_1_nm : (fs172_1.name == "_") = false := by kernel_rfl
@[go_sem] theorem sih172 : Try.prog.stoodInHeld 172 = false := by kernel_rfl
@[go_sem] theorem egt172 : Try.prog.eqGuardType Try.prog.depth 172 = false := by kernel_rfl
@[go_sem] theorem pl172 : placesOf Try.prog fs172.toList = some [(0, 1), (1, 1)] := by kernel_rfl
@[go_sem] theorem T172_size : T172.size = 2 := by kernel_rfl
@[go_sem] theorem T172_bytes : T172.bytes = 16 := by kernel_rfl
@[go_sem] theorem T172_cells : zeroCells T172.zero = some [.d (.int .i64 0), .d (.int .i64 0)] := by kernel_rfl
@[go_sem] theorem T172_zero : zeroPV T172 = some (.d (.agg [(.int .i64 0), (.int .i64 0)])) := by kernel_rfl
@[go_sem] theorem T172_ok : zeroOk T172 = true := by kernel_rfl
noncomputable def T173 : Ty := (tyOf Try.prog 173).getD ⟨.invalid, 0, 0, none⟩
@[go_sem] theorem ty173 : tyOf Try.prog 173 = some T173 := by kernel_rfl
noncomputable def fs173 : Array Field := match T173.desc with | .struct fs => fs | _ => #[]
@[go_sem] theorem T173_desc : T173.desc = .struct fs173 := by kernel_rfl
noncomputable def fs173_0 : Field := fs173.getD 0 default
@[go_sem] theorem fs173_at0 : fs173[0]? = some fs173_0 := by kernel_rfl
@[go_sem] theorem fs173_0_type : fs173_0.type = 3 := by kernel_rfl
@[go_sem] theorem fs173_0_off : fs173_0.offset = 0 := by kernel_rfl
@[go_sem] theorem fo173_0 : fieldOf Try.prog 173 0 = some (0, 1) := by kernel_rfl
@[go_sem] theorem fs173_0_nm : (fs173_0.name == "_") = false := by kernel_rfl
noncomputable def fs173_1 : Field := fs173.getD 1 default
@[go_sem] theorem fs173_at1 : fs173[1]? = some fs173_1 := by kernel_rfl
@[go_sem] theorem fs173_1_type : fs173_1.type = 3 := by kernel_rfl
@[go_sem] theorem fs173_1_off : fs173_1.offset = 1 := by kernel_rfl
@[go_sem] theorem fo173_1 : fieldOf Try.prog 173 1 = some (1, 1) := by kernel_rfl
@[go_sem] theorem fs173_1_nm : (fs173_1.name == "_") = false := by kernel_rfl
@[go_sem] theorem sih173 : Try.prog.stoodInHeld 173 = false := by kernel_rfl
@[go_sem] theorem egt173 : Try.prog.eqGuardType Try.prog.depth 173 = false := by kernel_rfl
@[go_sem] theorem pl173 : placesOf Try.prog fs173.toList = some [(0, 1), (1, 1)] := by kernel_rfl
@[go_sem] theorem T173_size : T173.size = 2 := by kernel_rfl
@[go_sem] theorem T173_bytes : T173.bytes = 16 := by kernel_rfl
@[go_sem] theorem T173_cells : zeroCells T173.zero = some [.d (.int .i64 0), .d (.int .i64 0)] := by kernel_rfl
@[go_sem] theorem T173_zero : zeroPV T173 = some (.d (.agg [(.int .i64 0), (.int .i64 0)])) := by kernel_rfl
@[go_sem] theorem T173_ok : zeroOk T173 = true := by kernel_rfl
noncomputable def T174 : Ty := (tyOf Try.prog 174).getD ⟨.invalid, 0, 0, none⟩
@[go_sem] theorem ty174 : tyOf Try.prog 174 = some T174 := by kernel_rfl
@[go_sem] theorem T174_desc : T174.desc = .pointer 138 := by kernel_rfl
@[go_sem] theorem T174_size : T174.size = 1 := by kernel_rfl
@[go_sem] theorem T174_bytes : T174.bytes = 8 := by kernel_rfl
@[go_sem] theorem T174_zero : zeroPV T174 = some (.d .nilptr) := by kernel_rfl
@[go_sem] theorem T174_ok : zeroOk T174 = true := by kernel_rfl
noncomputable def T175 : Ty := (tyOf Try.prog 175).getD ⟨.invalid, 0, 0, none⟩
@[go_sem] theorem ty175 : tyOf Try.prog 175 = some T175 := by kernel_rfl
@[go_sem] theorem T175_desc : T175.desc = .func #[176, 136] #[136] false := by kernel_rfl
@[go_sem] theorem T175_size : T175.size = 1 := by kernel_rfl
@[go_sem] theorem T175_bytes : T175.bytes = 8 := by kernel_rfl
@[go_sem] theorem T175_zero : zeroPV T175 = some (.d .nilfunc) := by kernel_rfl
@[go_sem] theorem T175_ok : zeroOk T175 = true := by kernel_rfl
noncomputable def T176 : Ty := (tyOf Try.prog 176).getD ⟨.invalid, 0, 0, none⟩
@[go_sem] theorem ty176 : tyOf Try.prog 176 = some T176 := by kernel_rfl
@[go_sem] theorem T176_desc : T176.desc = .pointer 136 := by kernel_rfl
@[go_sem] theorem T176_size : T176.size = 1 := by kernel_rfl
@[go_sem] theorem T176_bytes : T176.bytes = 8 := by kernel_rfl
@[go_sem] theorem T176_zero : zeroPV T176 = some (.d .nilptr) := by kernel_rfl
@[go_sem] theorem T176_ok : zeroOk T176 = true := by kernel_rfl
noncomputable def T177 : Ty := (tyOf Try.prog 177).getD ⟨.invalid, 0, 0, none⟩
@[go_sem] theorem ty177 : tyOf Try.prog 177 = some T177 := by kernel_rfl
@[go_sem] theorem T177_desc : T177.desc = .func #[176] #[136] false := by kernel_rfl
@[go_sem] theorem T177_size : T177.size = 1 := by kernel_rfl
@[go_sem] theorem T177_bytes : T177.bytes = 8 := by kernel_rfl
@[go_sem] theorem T177_zero : zeroPV T177 = some (.d .nilfunc) := by kernel_rfl
@[go_sem] theorem T177_ok : zeroOk T177 = true := by kernel_rfl
noncomputable def T178 : Ty := (tyOf Try.prog 178).getD ⟨.invalid, 0, 0, none⟩
@[go_sem] theorem ty178 : tyOf Try.prog 178 = some T178 := by kernel_rfl
@[go_sem] theorem T178_desc : T178.desc = .func #[176, 136] #[] false := by kernel_rfl
@[go_sem] theorem T178_size : T178.size = 1 := by kernel_rfl
@[go_sem] theorem T178_bytes : T178.bytes = 8 := by kernel_rfl
@[go_sem] theorem T178_zero : zeroPV T178 = some (.d .nilfunc) := by kernel_rfl
@[go_sem] theorem T178_ok : zeroOk T178 = true := by kernel_rfl
noncomputable def T179 : Ty := (tyOf Try.prog 179).getD ⟨.invalid, 0, 0, none⟩
@[go_sem] theorem ty179 : tyOf Try.prog 179 = some T179 := by kernel_rfl
@[go_sem] theorem T179_desc : T179.desc = .func #[176, 136, 136] #[4] false := by kernel_rfl
@[go_sem] theorem T179_size : T179.size = 1 := by kernel_rfl
@[go_sem] theorem T179_bytes : T179.bytes = 8 := by kernel_rfl
@[go_sem] theorem T179_zero : zeroPV T179 = some (.d .nilfunc) := by kernel_rfl
@[go_sem] theorem T179_ok : zeroOk T179 = true := by kernel_rfl
noncomputable def T180 : Ty := (tyOf Try.prog 180).getD ⟨.invalid, 0, 0, none⟩
@[go_sem] theorem ty180 : tyOf Try.prog 180 = some T180 := by kernel_rfl
@[go_sem] theorem T180_desc : T180.desc = .func #[] #[9] false := by kernel_rfl
@[go_sem] theorem T180_size : T180.size = 1 := by kernel_rfl
@[go_sem] theorem T180_bytes : T180.bytes = 8 := by kernel_rfl
@[go_sem] theorem T180_zero : zeroPV T180 = some (.d .nilfunc) := by kernel_rfl
@[go_sem] theorem T180_ok : zeroOk T180 = true := by kernel_rfl
noncomputable def T183 : Ty := (tyOf Try.prog 183).getD ⟨.invalid, 0, 0, none⟩
@[go_sem] theorem ty183 : tyOf Try.prog 183 = some T183 := by kernel_rfl
@[go_sem] theorem T183_desc : T183.desc = .array 0 16 := by kernel_rfl
@[go_sem] theorem es183 : elemSize Try.prog 183 = none := by kernel_rfl
@[go_sem] theorem ars183 : arrSize Try.prog 183 = some (0, 1) := by kernel_rfl
@[go_sem] theorem T183_size : T183.size = 0 := by kernel_rfl
@[go_sem] theorem T183_bytes : T183.bytes = 0 := by kernel_rfl
noncomputable def T184 : Ty := (tyOf Try.prog 184).getD ⟨.invalid, 0, 0, none⟩
@[go_sem] theorem ty184 : tyOf Try.prog 184 = some T184 := by kernel_rfl
noncomputable def fs184 : Array Field := match T184.desc with | .struct fs => fs | _ => #[]
@[go_sem] theorem T184_desc : T184.desc = .struct fs184 := by kernel_rfl
noncomputable def fs184_0 : Field := fs184.getD 0 default
@[go_sem] theorem fs184_at0 : fs184[0]? = some fs184_0 := by kernel_rfl
@[go_sem] theorem fs184_0_type : fs184_0.type = 183 := by kernel_rfl
@[go_sem] theorem fs184_0_off : fs184_0.offset = 0 := by kernel_rfl
@[go_sem] theorem fo184_0 : fieldOf Try.prog 184 0 = some (0, 0) := by kernel_rfl
@[go_sem] theorem pl184 : placesOf Try.prog fs184.toList = some [(0, 0)] := by kernel_rfl
@[go_sem] theorem T184_size : T184.size = 0 := by kernel_rfl
@[go_sem] theorem T184_bytes : T184.bytes = 0 := by kernel_rfl
noncomputable def T186 : Ty := (tyOf Try.prog 186).getD ⟨.invalid, 0, 0, none⟩
@[go_sem] theorem ty186 : tyOf Try.prog 186 = some T186 := by kernel_rfl
@[go_sem] theorem T186_desc : T186.desc = .func #[] #[3] false := by kernel_rfl
@[go_sem] theorem T186_size : T186.size = 1 := by kernel_rfl
@[go_sem] theorem T186_bytes : T186.bytes = 8 := by kernel_rfl
@[go_sem] theorem T186_zero : zeroPV T186 = some (.d .nilfunc) := by kernel_rfl
@[go_sem] theorem T186_ok : zeroOk T186 = true := by kernel_rfl
noncomputable def T189 : Ty := (tyOf Try.prog 189).getD ⟨.invalid, 0, 0, none⟩
@[go_sem] theorem ty189 : tyOf Try.prog 189 = some T189 := by kernel_rfl
@[go_sem] theorem T189_desc : T189.desc = .func #[158, 158] #[4] false := by kernel_rfl
@[go_sem] theorem T189_size : T189.size = 1 := by kernel_rfl
@[go_sem] theorem T189_bytes : T189.bytes = 8 := by kernel_rfl
@[go_sem] theorem T189_zero : zeroPV T189 = some (.d .nilfunc) := by kernel_rfl
@[go_sem] theorem T189_ok : zeroOk T189 = true := by kernel_rfl
noncomputable def T190 : Ty := (tyOf Try.prog 190).getD ⟨.invalid, 0, 0, none⟩
@[go_sem] theorem ty190 : tyOf Try.prog 190 = some T190 := by kernel_rfl
@[go_sem] theorem T190_desc : T190.desc = .pointer 5 := by kernel_rfl
@[go_sem] theorem T190_size : T190.size = 1 := by kernel_rfl
@[go_sem] theorem T190_bytes : T190.bytes = 8 := by kernel_rfl
@[go_sem] theorem T190_zero : zeroPV T190 = some (.d .nilptr) := by kernel_rfl
@[go_sem] theorem T190_ok : zeroOk T190 = true := by kernel_rfl
@[go_sem] theorem rg0 : List.range 0 = [] := by decide
@[go_sem] theorem se31 : sliceElem Try.prog 31 = some (51, T51) := by kernel_rfl
@[go_sem] theorem se34 : sliceElem Try.prog 34 = some (88, T88) := by kernel_rfl
@[go_sem] theorem se39 : sliceElem Try.prog 39 = some (44, T44) := by kernel_rfl
@[go_sem] theorem se40 : sliceElem Try.prog 40 = some (46, T46) := by kernel_rfl
@[go_sem] theorem se41 : sliceElem Try.prog 41 = some (3, T3) := by kernel_rfl
@[go_sem] theorem se53 : sliceElem Try.prog 53 = some (96, T96) := by kernel_rfl
@[go_sem] theorem se65 : sliceElem Try.prog 65 = some (84, T84) := by kernel_rfl
@[go_sem] theorem se79 : sliceElem Try.prog 79 = some (5, T5) := by kernel_rfl
@[go_sem] theorem se80 : sliceElem Try.prog 80 = some (4, T4) := by kernel_rfl
@[go_sem] theorem se117 : sliceElem Try.prog 117 = some (173, T173) := by kernel_rfl
end Go.Pv.Try

namespace Go.Pv.Try
open Go.Proofs Go.Pv
theorem mo : Try.prog.follows .mixedOrders = true := by kernel_rfl
def G : List (Nat × PD) := []
attribute [go_sem] reduceCtorEq Nat.reduceAdd Nat.reduceMul Nat.reduceLT Nat.reduceLeDiff Nat.reduceEqDiff Nat.reduceBEq Int.reduceToNat
attribute [go_sem] Try.results2 Try.results3 Try.results4 Try.results5 Try.results6 Try.results7 Try.results8 Try.results9 Try.results10 Try.results11 Try.results12 Try.results13 Try.results14 Try.results15 Try.results16 Try.results17 Try.results18 Try.results19 Try.results20 Try.results21 Try.results22 Try.results23 Try.results24 Try.results25 Try.results26 Try.results27 Try.results28 Try.results29 Try.results30 Try.results31 Try.results32 Try.results33 Try.results34 Try.results35 Try.results36 Try.results37 Try.results38 Try.results39 Try.results40 Try.results41 Try.results42 Try.results43 Try.results44 Try.results45 Try.results46 Try.results47 Try.results48 Try.results49 Try.results50 Try.results51 Try.results52 Try.results53 Try.results54 Try.results55 Try.results56 Try.results57 Try.results58 Try.results59 Try.results60 Try.results61 Try.results62 Try.results63 Try.results64 Try.results65 Try.results66 Try.results67 Try.results68 Try.results69 Try.results70 Try.results71 Try.results72 Try.results73 Try.results74 Try.results75 Try.results76 Try.results77 Try.results78 Try.results79 Try.results80 Try.results81 Try.results82 Try.results83 Try.results84 Try.results85 Try.results86 Try.results87 Try.results88 Try.results89 Try.results90 Try.results91 Try.results92 Try.results93 Try.results94 Try.results95 Try.results96 Try.results97 Try.results98 Try.results99 Try.results100 Try.results101 Try.results102 Try.results103 Try.results104 Try.results105 Try.results106 Try.results107 Try.results108 Try.results109 Try.results110 Try.results111 Try.results112 Try.results119 Try.results120 Try.results122 Try.results123 Try.results128 Try.results131
end Go.Pv.Try

namespace Go.Pv
def OLe {α : Type} (a b : Option α) : Prop := ∀ r, a = some r → b = some r
theorem OLe.refl {α : Type} (a : Option α) : OLe a a := fun _ h => h
theorem OLe.bind {α β : Type} {a a' : Option α} {f f' : α → Option β} (h : OLe a a') (hf : ∀ x, OLe (f x) (f' x)) : OLe (a.bind f) (a'.bind f') := fun r hr => by
  obtain ⟨x, h1, h2⟩ := bind_some hr
  rw [h x h1]; exact hf x r h2
theorem OLe.cond {α : Type} {c : Bool} {a a' b b' : Option α} (h : OLe a a') (h2 : OLe b b') : OLe (cond c a b) (cond c a' b') := fun r hr => by
  cases c
  · exact h2 r hr
  · exact h r hr
theorem OLe.guard {α : Type} {p : Prop} [Decidable p] {a a' : Option α} (h : OLe a a') : OLe (guardO p a) (guardO p a') := fun r hr => by
  unfold guardO at hr ⊢
  split at hr
  · rename_i hp; rw [if_pos hp]; exact h r hr
  · cases hr
theorem iterN_le {S X : Type} {f f' : S → Option (S ⊕ X)} (h : ∀ s, OLe (f s) (f' s)) : ∀ (n : Nat) (s : S), OLe (iterN f n s) (iterN f' n s)
  | 0, s => fun r hr => by cases hr
  | n + 1, s => fun r hr => by
    rw [iterN_succ] at hr ⊢
    obtain ⟨o, h1, h2⟩ := bind_some hr
    rw [h s o h1]
    cases o with
    | inl s' => exact iterN_le h n s' r h2
    | inr x => exact h2
theorem OLe.iter {S X : Type} {f f' : S → Option (S ⊕ X)} {n : Nat} {s : S} (h : ∀ s, OLe (f s) (f' s)) : OLe (iterN f n s) (iter f' s) := fun r hr => iter_of (iterN_le h n s r hr)
def qIter {S X : Type} (f : S → Option (S ⊕ X)) (s : S) : Option X := iterN f 300 s
theorem OLe.iterQ {S X : Type} {f f' : S → Option (S ⊕ X)} {s : S} (h : ∀ s, OLe (f s) (f' s)) : OLe (qIter f s) (Pv.iter f' s) := OLe.iter h
theorem OLe.opt {α β : Type} {o : Option α} {a a' : Option β} {f f' : α → Option β} (h : OLe a a') (hf : ∀ x, OLe (f x) (f' x)) : OLe (optB o a f) (optB o a' f') := by
  cases o with
  | none => exact h
  | some w => exact hf w
end Go.Pv

namespace Go.Pv
def q_post_New_h_l1 (n1 : Int) : (Int × (List Pst)) → Option ((Int × (List Pst)) ⊕ (List Pst)) := fun (v1, L2) =>
 cond (decide (v1 < n1))
  (
  guardO (L2.length + 1 ≤ 4294967296) <|
  some (.inl ((IntKind.i64.wrap (v1 + 1)), (L2 ++ [(⟨true, (⟨0, 0, 0⟩ : Stamp), 0, 0, none⟩ : Pst)])))
  )
  (
  some (.inr L2)
  )
def q_post_New_h (n1 : Int) : Option ((Option Net) × Int) :=
 cond ((decide (n1 < 1)) || (decide (5 < n1)))
  (
  some (none, 2)
  )
  (
  (
   (qIter (q_post_New_h_l1 n1) (0, [])).bind fun x_11 =>
   some x_11
   : Option (List Pst)).bind fun L1 =>
  some ((some (⟨L1, [], [], 0⟩ : Net)), 0)
  )
def q_post_Net_ok_h (o1 : Net) : Option (Bool × Net) :=
 guardO (o1.posts.length ≠ 0) <|
 some (true, o1)
def q_post_Net_at_h (o1 : Net) (no1 : Int) : Option (Int × Net) :=
 (q_post_Net_ok_h o1).bind fun r1 =>
 cond (!r1.1)
  (
  some (1, r1.2)
  )
  (
  cond ((decide (no1 < 0)) || (decide ((r1.2.posts.length : Int) ≤ no1)))
   (
   some (2, r1.2)
   )
   (
   some (0, r1.2)
   )
  )
def q_post_Net_send_h (o1 : Net) (m1 : Msg) : Option Net :=
 cond (decide ((o1.messages.length : Int) < 500))
  (
  guardO (o1.messages.length + [m1].length ≤ 4294967296) <|
  some (⟨o1.posts, (o1.messages ++ [m1]), o1.calls, o1.clock⟩ : Net)
  )
  (
  some o1
  )
def q_post_Net_all_h_l1 (o1 : Net) : (Int × Int × (List Pst) × (List Msg) × (List Cal) × Msg) → Option ((Int × Int × (List Pst) × (List Msg) × (List Cal) × Msg) ⊕ Net) := fun (v1, c1, L1, L2, L3, c2) =>
 cond (decide (v1 < (o1.posts.length : Int)))
  (
  (q_post_Net_send_h (⟨L1, L2, L3, c1⟩ : Net) (⟨c2.Kind, c2.From, v1, c2.Turn, c2.Stamp, c2.Value⟩ : Msg)).bind fun r1 =>
  some (.inl ((IntKind.i64.wrap (v1 + 1)), r1.clock, r1.posts, r1.messages, r1.calls, (⟨c2.Kind, c2.From, v1, c2.Turn, c2.Stamp, c2.Value⟩ : Msg)))
  )
  (
  some (.inr (⟨L1, L2, L3, c1⟩ : Net))
  )
def q_post_Net_all_h (o1 : Net) (m1 : Msg) : Option Net :=
 (qIter (q_post_Net_all_h_l1 o1) (0, o1.clock, o1.posts, o1.messages, o1.calls, m1)).bind fun x_5 =>
 some x_5
def q_post_Net_begin_h (o1 : Net) (no1 : Int) (write1 : Bool) (value1 : Int) : Option (Int × Net) :=
 (idx o1.posts no1).bind fun e1 =>
 (idx o1.posts no1).bind fun e2 =>
 optB e2.work
  (
  cond (!e2.up)
   (
   some (9, (⟨(o1.posts.set ((no1).toNat) (⟨e2.up, e2.stamp, e2.value, e2.turns, none⟩ : Pst)), o1.messages, o1.calls, o1.clock⟩ : Net))
   )
   (
   cond (decide (100 ≤ (o1.calls.length : Int)))
    (
    some (8, (⟨(o1.posts.set ((no1).toNat) (⟨e2.up, e2.stamp, e2.value, e2.turns, none⟩ : Pst)), o1.messages, o1.calls, o1.clock⟩ : Net))
    )
    (
    cond (decide (500 < (IntKind.i64.wrap ((o1.messages.length : Int) + (o1.posts.length : Int)))))
     (
     some (8, (⟨(o1.posts.set ((no1).toNat) (⟨e2.up, e2.stamp, e2.value, e2.turns, none⟩ : Pst)), o1.messages, o1.calls, o1.clock⟩ : Net))
     )
     (
     guardO (0 ≤ (o1.posts.length : Int) ∧ (o1.posts.length : Int) ≤ 4294967296) <|
     (
      cond write1
       (
       some (⟨no1, write1, value1, (IntKind.i64.wrap (o1.clock + 1)), (-1)⟩ : Cal)
       )
       (
       some (⟨no1, write1, 0, (IntKind.i64.wrap (o1.clock + 1)), (-1)⟩ : Cal)
       )
      : Option Cal).bind fun c1 =>
     guardO (o1.calls.length + [c1].length ≤ 4294967296) <|
     (q_post_Net_all_h (⟨(o1.posts.set ((no1).toNat) (⟨e2.up, e2.stamp, e2.value, (IntKind.i64.wrap (e2.turns + 1)), (some (⟨(IntKind.i64.wrap (e2.turns + 1)), (o1.calls.length : Int), write1, false, (⟨0, 0, 0⟩ : Stamp), value1, (List.replicate ((o1.posts.length : Int)).toNat (false : Bool))⟩ : Work))⟩ : Pst)), o1.messages, (o1.calls ++ [c1]), (IntKind.i64.wrap (o1.clock + 1))⟩ : Net) (⟨1, no1, 0, (IntKind.i64.wrap (e2.turns + 1)), (⟨0, 0, 0⟩ : Stamp), 0⟩ : Msg)).bind fun r1 =>
     some (0, r1)
     )
    )
   )
  )
  (fun w1 =>
  some (9, (⟨(o1.posts.set ((no1).toNat) (⟨e2.up, e2.stamp, e2.value, e2.turns, (some w1)⟩ : Pst)), o1.messages, o1.calls, o1.clock⟩ : Net))
  )
def q_post_Net_Write_h (o1 : Net) (no1 : Int) (value1 : Int) : Option (Int × Net) :=
 (q_post_Net_at_h o1 no1).bind fun r1 =>
 cond (decide (¬r1.1 = 0))
  (
  some (r1.1, r1.2)
  )
  (
  cond ((decide (value1 < 1)) || (decide (1000000 < value1)))
   (
   some (2, r1.2)
   )
   (
   (q_post_Net_begin_h r1.2 no1 true value1).bind fun r2 =>
   some (r2.1, r2.2)
   )
  )
def q_post_Net_Messages_h (o1 : Net) : Option ((List Msg) × Net) :=
 (q_post_Net_ok_h o1).bind fun r1 =>
 cond (!r1.1)
  (
  some ([], r1.2)
  )
  (
  guardO (r1.2.messages.length ≤ 4294967296) <|
  some (r1.2.messages, r1.2)
  )
def q_post_Net_message_h (o1 : Net) (i1 : Int) : Option (Int × Net) :=
 (q_post_Net_ok_h o1).bind fun r1 =>
 cond (!r1.1)
  (
  some (1, r1.2)
  )
  (
  cond ((decide (i1 < 0)) || (decide ((r1.2.messages.length : Int) ≤ i1)))
   (
   some (4, r1.2)
   )
   (
   some (0, r1.2)
   )
  )
def q_cmp_isNaN_131 (x1 : Int) : Option Bool :=
 some (decide (¬x1 = x1))
def q_cmp_Compare_108 (x1 : Int) (y1 : Int) : Option Int :=
 (q_cmp_isNaN_131 x1).bind fun r1 =>
 (q_cmp_isNaN_131 y1).bind fun r2 =>
 cond r1
  (
  cond r2
   (
   some 0
   )
   (
   some (-1)
   )
  )
  (
  cond r2
   (
   some 1
   )
   (
   cond (decide (x1 < y1))
    (
    some (-1)
    )
    (
    cond (decide (y1 < x1))
     (
     some 1
     )
     (
     some 0
     )
    )
   )
  )
def q_cmp_Or_107_l1 (vals1 : (List Int)) : Int → Option (Int ⊕ (Unit ⊕ Int)) := fun v1 =>
 cond (decide (v1 < (vals1.length : Int)))
  (
  (idx vals1 v1).bind fun e1 =>
  cond (decide (¬e1 = 0))
   (
   some (.inr (.inr e1))
   )
   (
   some (.inl (IntKind.i64.wrap (v1 + 1)))
   )
  )
  (
  some (.inr (.inl ()))
  )
def q_cmp_Or_107 (vals1 : (List Int)) : Option Int :=
 (
 (
  (
  (qIter (q_cmp_Or_107_l1 vals1) 0).bind fun x_7 => match x_7 with
    | (.inl y1) => some (.inl y1)
    | (.inr y2) => some (.inr y2)
  )
  : Option (Unit ⊕ Int)).bind fun o_1 => match o_1 with
   | (.inl _) =>
     some 0
   | (.inr y3) => some y3
 )
def q_post_greater (a1 : Stamp) (b1 : Stamp) : Option Bool :=
 (q_cmp_Compare_108 a1.No b1.No).bind fun r1 =>
 (q_cmp_Compare_108 a1.Post b1.Post).bind fun r2 =>
 (q_cmp_Compare_108 a1.Turn b1.Turn).bind fun r3 =>
 (q_cmp_Or_107 [r1, r2, r3]).bind fun r4 =>
 some (decide (0 < r4))
def q_post_work_majority_h_l1 (o1 : Work) : (Int × Int) → Option ((Int × Int) ⊕ Int) := fun (n2, v1) =>
 cond (decide (v1 < (o1.answered.length : Int)))
  (
  (
   (idx o1.answered v1).bind fun e1 =>
   cond e1
    (
    some (IntKind.i64.wrap (n2 + 1))
    )
    (
    some n2
    )
   : Option Int).bind fun n3 =>
  some (.inl (n3, (IntKind.i64.wrap (v1 + 1))))
  )
  (
  some (.inr n2)
  )
def q_post_work_majority_h (o1 : Work) : Option (Bool × Work) :=
 (
  (qIter (q_post_work_majority_h_l1 o1) (0, 0)).bind fun x_7 =>
  some x_7
  : Option Int).bind fun n1 =>
 some ((decide ((o1.answered.length : Int) < (IntKind.i64.wrap (2 * n1)))), o1)
def q_post_Net_told_h (o1 : Net) (k1 : Int) (m1 : Msg) : Option Net :=
 (idx o1.posts k1).bind fun e1 =>
 optB e1.work
  (
  some (⟨(o1.posts.set ((k1).toNat) (⟨e1.up, e1.stamp, e1.value, e1.turns, none⟩ : Pst)), o1.messages, o1.calls, o1.clock⟩ : Net)
  )
  (fun w1 =>
  cond (decide (¬w1.turn = m1.Turn))
   (
   some (⟨(o1.posts.set ((k1).toNat) (⟨e1.up, e1.stamp, e1.value, e1.turns, (some w1)⟩ : Pst)), o1.messages, o1.calls, o1.clock⟩ : Net)
   )
   (
   cond w1.puts
    (
    some (⟨(o1.posts.set ((k1).toNat) (⟨e1.up, e1.stamp, e1.value, e1.turns, (some (⟨w1.turn, w1.call, w1.write, true, w1.stamp, w1.value, w1.answered⟩ : Work))⟩ : Pst)), o1.messages, o1.calls, o1.clock⟩ : Net)
    )
    (
    (idx w1.answered m1.From).bind fun e2 =>
    cond e2
     (
     some (⟨(o1.posts.set ((k1).toNat) (⟨e1.up, e1.stamp, e1.value, e1.turns, (some (⟨w1.turn, w1.call, w1.write, false, w1.stamp, w1.value, w1.answered⟩ : Work))⟩ : Pst)), o1.messages, o1.calls, o1.clock⟩ : Net)
     )
     (
     (idx w1.answered m1.From).bind fun e3 =>
     (
      (q_post_greater m1.Stamp w1.stamp).bind fun r1 =>
      cond r1
       (
       cond (!w1.write)
        (
        some (m1.Stamp.No, m1.Stamp.Post, m1.Stamp.Turn, m1.Value)
        )
        (
        some (m1.Stamp.No, m1.Stamp.Post, m1.Stamp.Turn, w1.value)
        )
       )
       (
       some (w1.stamp.No, w1.stamp.Post, w1.stamp.Turn, w1.value)
       )
      : Option (Int × Int × Int × Int)).bind fun (c1, c2, c3, c4) =>
     (q_post_work_majority_h (⟨w1.turn, w1.call, w1.write, false, (⟨c1, c2, c3⟩ : Stamp), c4, (w1.answered.set (m1.From).toNat true)⟩ : Work)).bind fun r2 =>
     cond (!r2.1)
      (
      some (⟨(o1.posts.set ((k1).toNat) (⟨e1.up, e1.stamp, e1.value, e1.turns, (some r2.2)⟩ : Pst)), o1.messages, o1.calls, o1.clock⟩ : Net)
      )
      (
      (
       cond r2.2.write
        (
        some ((IntKind.i64.wrap (r2.2.stamp.No + 1)), m1.To, r2.2.turn)
        )
        (
        some (r2.2.stamp.No, r2.2.stamp.Post, r2.2.stamp.Turn)
        )
       : Option (Int × Int × Int)).bind fun (c5, c6, c7) =>
      guardO (0 ≤ (o1.posts.length : Int) ∧ (o1.posts.length : Int) ≤ 4294967296) <|
      (q_post_Net_all_h (⟨(o1.posts.set ((k1).toNat) (⟨e1.up, e1.stamp, e1.value, e1.turns, (some (⟨r2.2.turn, r2.2.call, r2.2.write, true, (⟨c5, c6, c7⟩ : Stamp), r2.2.value, (List.replicate ((o1.posts.length : Int)).toNat (false : Bool))⟩ : Work))⟩ : Pst)), o1.messages, o1.calls, o1.clock⟩ : Net) (⟨3, m1.To, 0, r2.2.turn, (⟨c5, c6, c7⟩ : Stamp), r2.2.value⟩ : Msg)).bind fun r3 =>
      some r3
      )
     )
    )
   )
  )
def q_post_Net_take_h (o1 : Net) (k1 : Int) (m1 : Msg) : Option Net :=
 cond (decide (m1.Kind = 1))
  (
  (idx o1.posts k1).bind fun e1 =>
  (q_post_Net_send_h o1 (⟨2, m1.To, m1.From, m1.Turn, e1.stamp, e1.value⟩ : Msg)).bind fun r1 =>
  some r1
  )
  (
  cond (decide (m1.Kind = 2))
   (
   (q_post_Net_told_h o1 k1 m1).bind fun r2 =>
   some r2
   )
   (
   cond (decide (m1.Kind = 3))
    (
    (
     (idx o1.posts k1).bind fun e2 =>
     (q_post_greater m1.Stamp e2.stamp).bind fun r3 =>
     cond r3
      (
      (idx o1.posts k1).bind fun e3 =>
      optB e3.work
       (
       some (o1.posts.set ((k1).toNat) (⟨e3.up, m1.Stamp, m1.Value, e3.turns, none⟩ : Pst))
       )
       (fun w1 =>
       some (o1.posts.set ((k1).toNat) (⟨e3.up, m1.Stamp, m1.Value, e3.turns, (some w1)⟩ : Pst))
       )
      )
      (
      some o1.posts
      )
     : Option (List Pst)).bind fun L1 =>
    (q_post_Net_send_h (⟨L1, o1.messages, o1.calls, o1.clock⟩ : Net) (⟨4, m1.To, m1.From, m1.Turn, (⟨0, 0, 0⟩ : Stamp), 0⟩ : Msg)).bind fun r4 =>
    some r4
    )
    (
    cond (decide (m1.Kind = 4))
     (
     (idx o1.posts k1).bind fun e4 =>
     optB e4.work
      (
      some (⟨(o1.posts.set ((k1).toNat) (⟨e4.up, e4.stamp, e4.value, e4.turns, none⟩ : Pst)), o1.messages, o1.calls, o1.clock⟩ : Net)
      )
      (fun w2 =>
      cond (decide (¬w2.turn = m1.Turn))
       (
       some (⟨(o1.posts.set ((k1).toNat) (⟨e4.up, e4.stamp, e4.value, e4.turns, (some w2)⟩ : Pst)), o1.messages, o1.calls, o1.clock⟩ : Net)
       )
       (
       cond (!w2.puts)
        (
        some (⟨(o1.posts.set ((k1).toNat) (⟨e4.up, e4.stamp, e4.value, e4.turns, (some w2)⟩ : Pst)), o1.messages, o1.calls, o1.clock⟩ : Net)
        )
        (
        (idx w2.answered m1.From).bind fun e5 =>
        cond e5
         (
         some (⟨(o1.posts.set ((k1).toNat) (⟨e4.up, e4.stamp, e4.value, e4.turns, (some w2)⟩ : Pst)), o1.messages, o1.calls, o1.clock⟩ : Net)
         )
         (
         (idx w2.answered m1.From).bind fun e6 =>
         (q_post_work_majority_h (⟨w2.turn, w2.call, w2.write, w2.puts, w2.stamp, w2.value, (w2.answered.set (m1.From).toNat true)⟩ : Work)).bind fun r5 =>
         cond r5.1
          (
          (idx o1.calls r5.2.call).bind fun e7 =>
          (idx (o1.calls.set (r5.2.call).toNat (⟨e7.Post, e7.Write, r5.2.value, e7.Start, e7.End⟩ : Cal)) r5.2.call).bind fun e8 =>
          some (⟨(o1.posts.set ((k1).toNat) (⟨e4.up, e4.stamp, e4.value, e4.turns, none⟩ : Pst)), o1.messages, (o1.calls.set (r5.2.call).toNat (⟨e8.Post, e8.Write, e8.Value, e8.Start, o1.clock⟩ : Cal)), o1.clock⟩ : Net)
          )
          (
          some (⟨(o1.posts.set ((k1).toNat) (⟨e4.up, e4.stamp, e4.value, e4.turns, (some r5.2)⟩ : Pst)), o1.messages, o1.calls, o1.clock⟩ : Net)
          )
         )
        )
       )
      )
     )
     (
     some o1
     )
    )
   )
  )
def q_post_Net_Deliver_h (o1 : Net) (i1 : Int) : Option (Int × Net) :=
 (q_post_Net_message_h o1 i1).bind fun r1 =>
 cond (decide (¬r1.1 = 0))
  (
  some (r1.1, r1.2)
  )
  (
  (idx r1.2.messages i1).bind fun e1 =>
  guardO (delOk r1.2.messages i1 (IntKind.i64.wrap (i1 + 1)) = true) <|
  (
   (idx r1.2.posts e1.To).bind fun e2 =>
   cond e2.up
    (
    (q_post_Net_take_h (⟨r1.2.posts, (delT r1.2.messages i1 (IntKind.i64.wrap (i1 + 1))), r1.2.calls, (IntKind.i64.wrap (r1.2.clock + 1))⟩ : Net) e1.To e1).bind fun r2 =>
    some (r2.clock, r2.posts, r2.messages, r2.calls)
    )
    (
    some ((IntKind.i64.wrap (r1.2.clock + 1)), r1.2.posts, (delT r1.2.messages i1 (IntKind.i64.wrap (i1 + 1))), r1.2.calls)
    )
   : Option (Int × (List Pst) × (List Msg) × (List Cal))).bind fun (c1, L1, L2, L3) =>
  some (0, (⟨L1, L2, L3, c1⟩ : Net))
  )
def q_post_Net_Settle_h_l1 (limit1 : Int) : (Int × Int × (List Pst) × (List Msg) × (List Cal)) → Option ((Int × Int × (List Pst) × (List Msg) × (List Cal)) ⊕ (Int × Int × (List Pst) × (List Msg) × (List Cal))) := fun (n2, c2, L4, L5, L6) =>
 cond ((decide (n2 < limit1)) && (decide (0 < (L5.length : Int))))
  (
  (q_post_Net_Deliver_h (⟨L4, L5, L6, c2⟩ : Net) 0).bind fun r2 =>
  some (.inl ((IntKind.i64.wrap (n2 + 1)), r2.2.clock, r2.2.posts, r2.2.messages, r2.2.calls))
  )
  (
  some (.inr (n2, c2, L4, L5, L6))
  )
def q_post_Net_Settle_h (o1 : Net) (limit1 : Int) : Option (Int × Int × Net) :=
 (q_post_Net_ok_h o1).bind fun r1 =>
 cond (!r1.1)
  (
  some (0, 1, r1.2)
  )
  (
  cond ((decide (limit1 < 0)) || (decide (100000 < limit1)))
   (
   some (0, 2, r1.2)
   )
   (
   (
    (qIter (q_post_Net_Settle_h_l1 limit1) (0, r1.2.clock, r1.2.posts, r1.2.messages, r1.2.calls)).bind fun x_13 =>
    some x_13
    : Option (Int × Int × (List Pst) × (List Msg) × (List Cal))).bind fun (n1, c1, L1, L2, L3) =>
   some (n1, 0, (⟨L1, L2, L3, c1⟩ : Net))
   )
  )
def q_post_Net_Read_h (o1 : Net) (no1 : Int) : Option (Int × Net) :=
 (q_post_Net_at_h o1 no1).bind fun r1 =>
 cond (decide (¬r1.1 = 0))
  (
  some (r1.1, r1.2)
  )
  (
  (q_post_Net_begin_h r1.2 no1 false 0).bind fun r2 =>
  some (r2.1, r2.2)
  )
def q_post_Net_Calls_h (o1 : Net) : Option ((List Cal) × Net) :=
 (q_post_Net_ok_h o1).bind fun r1 =>
 cond (!r1.1)
  (
  some ([], r1.2)
  )
  (
  guardO (r1.2.calls.length ≤ 4294967296) <|
  some (r1.2.calls, r1.2)
  )
def q_cocketlaw09_alive : Option Bool :=
 (q_post_New_h 3).bind fun r1 =>
 optB r1.1
  (
  cond (decide (¬r1.2 = 0))
   (
   some false
   )
   (
   some false
   )
  )
  (fun t1 =>
  cond (decide (¬r1.2 = 0))
   (
   some false
   )
   (
   (q_post_Net_Write_h t1 0 7).bind fun r2 =>
   cond (decide (¬r2.1 = 0))
    (
    some false
    )
    (
    (q_post_Net_Messages_h r2.2).bind fun r3 =>
    cond (decide (¬(r3.1.length : Int) = 3))
     (
     some false
     )
     (
     (q_post_Net_Settle_h r3.2 100).bind fun r4 =>
     cond (decide (¬r4.2.1 = 0))
      (
      some false
      )
      (
      cond (decide (¬r4.1 = 12))
       (
       some false
       )
       (
       (q_post_Net_Read_h r4.2.2 1).bind fun r5 =>
       cond (decide (¬r5.1 = 0))
        (
        some false
        )
        (
        (q_post_Net_Settle_h r5.2 100).bind fun r6 =>
        (q_post_Net_Calls_h r6.2.2).bind fun r7 =>
        cond (decide (r6.2.1 = 0))
         (
         cond (decide ((r7.1.length : Int) = 2))
          (
          (idx r7.1 0).bind fun e1 =>
          cond e1.Write
           (
           cond (decide (e1.Start = 1))
            (
            (idx r7.1 1).bind fun e2 =>
            cond (decide (e2.Value = 7))
             (
             some (decide (e2.Start < e2.End))
             )
             (
             some false
             )
            )
            (
            some false
            )
           )
           (
           some false
           )
          )
          (
          some false
          )
         )
         (
         some false
         )
        )
       )
      )
     )
    )
   )
  )
theorem q_post_New_h_l1_le (n1 : Int) : ∀ e0_, OLe (q_post_New_h_l1 n1 e0_) (m_post_New_h_l1 n1 e0_) := by
  intros; unfold q_post_New_h_l1 m_post_New_h_l1; try dsimp only
  repeat' (first | with_reducible exact OLe.refl _ | refine OLe.bind ?_ (fun _ => ?_) | refine OLe.cond ?_ ?_ | refine OLe.guard ?_ | refine OLe.opt ?_ (fun _ => ?_) | refine OLe.iterQ (fun _ => ?_) | split | exact OLe.refl _)
theorem q_post_New_h_le (n1 : Int) : OLe (q_post_New_h n1) (m_post_New_h n1) := by
  intros; unfold q_post_New_h m_post_New_h; try dsimp only
  repeat' (first | with_reducible exact OLe.refl _ | with_reducible exact q_post_New_h_l1_le _ _ | refine OLe.bind ?_ (fun _ => ?_) | refine OLe.cond ?_ ?_ | refine OLe.guard ?_ | refine OLe.opt ?_ (fun _ => ?_) | refine OLe.iterQ (fun _ => ?_) | split | exact OLe.refl _)
theorem q_post_Net_ok_h_le (o1 : Net) : OLe (q_post_Net_ok_h o1) (m_post_Net_ok_h o1) := by
  intros; unfold q_post_Net_ok_h m_post_Net_ok_h; try dsimp only
  repeat' (first | with_reducible exact OLe.refl _ | refine OLe.bind ?_ (fun _ => ?_) | refine OLe.cond ?_ ?_ | refine OLe.guard ?_ | refine OLe.opt ?_ (fun _ => ?_) | refine OLe.iterQ (fun _ => ?_) | split | exact OLe.refl _)
theorem q_post_Net_at_h_le (o1 : Net) (no1 : Int) : OLe (q_post_Net_at_h o1 no1) (m_post_Net_at_h o1 no1) := by
  intros; unfold q_post_Net_at_h m_post_Net_at_h; try dsimp only
  repeat' (first | with_reducible exact OLe.refl _ | with_reducible exact q_post_Net_ok_h_le _ | refine OLe.bind ?_ (fun _ => ?_) | refine OLe.cond ?_ ?_ | refine OLe.guard ?_ | refine OLe.opt ?_ (fun _ => ?_) | refine OLe.iterQ (fun _ => ?_) | split | exact OLe.refl _)
theorem q_post_Net_send_h_le (o1 : Net) (m1 : Msg) : OLe (q_post_Net_send_h o1 m1) (m_post_Net_send_h o1 m1) := by
  intros; unfold q_post_Net_send_h m_post_Net_send_h; try dsimp only
  repeat' (first | with_reducible exact OLe.refl _ | refine OLe.bind ?_ (fun _ => ?_) | refine OLe.cond ?_ ?_ | refine OLe.guard ?_ | refine OLe.opt ?_ (fun _ => ?_) | refine OLe.iterQ (fun _ => ?_) | split | exact OLe.refl _)
theorem q_post_Net_all_h_l1_le (o1 : Net) : ∀ e0_, OLe (q_post_Net_all_h_l1 o1 e0_) (m_post_Net_all_h_l1 o1 e0_) := by
  intros; unfold q_post_Net_all_h_l1 m_post_Net_all_h_l1; try dsimp only
  repeat' (first | with_reducible exact OLe.refl _ | with_reducible exact q_post_Net_send_h_le _ _ | refine OLe.bind ?_ (fun _ => ?_) | refine OLe.cond ?_ ?_ | refine OLe.guard ?_ | refine OLe.opt ?_ (fun _ => ?_) | refine OLe.iterQ (fun _ => ?_) | split | exact OLe.refl _)
theorem q_post_Net_all_h_le (o1 : Net) (m1 : Msg) : OLe (q_post_Net_all_h o1 m1) (m_post_Net_all_h o1 m1) := by
  intros; unfold q_post_Net_all_h m_post_Net_all_h; try dsimp only
  repeat' (first | with_reducible exact OLe.refl _ | with_reducible exact q_post_Net_all_h_l1_le _ _ | refine OLe.bind ?_ (fun _ => ?_) | refine OLe.cond ?_ ?_ | refine OLe.guard ?_ | refine OLe.opt ?_ (fun _ => ?_) | refine OLe.iterQ (fun _ => ?_) | split | exact OLe.refl _)
theorem q_post_Net_begin_h_le (o1 : Net) (no1 : Int) (write1 : Bool) (value1 : Int) : OLe (q_post_Net_begin_h o1 no1 write1 value1) (m_post_Net_begin_h o1 no1 write1 value1) := by
  intros; unfold q_post_Net_begin_h m_post_Net_begin_h; try dsimp only
  repeat' (first | with_reducible exact OLe.refl _ | with_reducible exact q_post_Net_all_h_le _ _ | refine OLe.bind ?_ (fun _ => ?_) | refine OLe.cond ?_ ?_ | refine OLe.guard ?_ | refine OLe.opt ?_ (fun _ => ?_) | refine OLe.iterQ (fun _ => ?_) | split | exact OLe.refl _)
theorem q_post_Net_Write_h_le (o1 : Net) (no1 : Int) (value1 : Int) : OLe (q_post_Net_Write_h o1 no1 value1) (m_post_Net_Write_h o1 no1 value1) := by
  intros; unfold q_post_Net_Write_h m_post_Net_Write_h; try dsimp only
  repeat' (first | with_reducible exact OLe.refl _ | with_reducible exact q_post_Net_at_h_le _ _ | with_reducible exact q_post_Net_begin_h_le _ _ _ _ | refine OLe.bind ?_ (fun _ => ?_) | refine OLe.cond ?_ ?_ | refine OLe.guard ?_ | refine OLe.opt ?_ (fun _ => ?_) | refine OLe.iterQ (fun _ => ?_) | split | exact OLe.refl _)
theorem q_post_Net_Messages_h_le (o1 : Net) : OLe (q_post_Net_Messages_h o1) (m_post_Net_Messages_h o1) := by
  intros; unfold q_post_Net_Messages_h m_post_Net_Messages_h; try dsimp only
  repeat' (first | with_reducible exact OLe.refl _ | with_reducible exact q_post_Net_ok_h_le _ | refine OLe.bind ?_ (fun _ => ?_) | refine OLe.cond ?_ ?_ | refine OLe.guard ?_ | refine OLe.opt ?_ (fun _ => ?_) | refine OLe.iterQ (fun _ => ?_) | split | exact OLe.refl _)
theorem q_post_Net_message_h_le (o1 : Net) (i1 : Int) : OLe (q_post_Net_message_h o1 i1) (m_post_Net_message_h o1 i1) := by
  intros; unfold q_post_Net_message_h m_post_Net_message_h; try dsimp only
  repeat' (first | with_reducible exact OLe.refl _ | with_reducible exact q_post_Net_ok_h_le _ | refine OLe.bind ?_ (fun _ => ?_) | refine OLe.cond ?_ ?_ | refine OLe.guard ?_ | refine OLe.opt ?_ (fun _ => ?_) | refine OLe.iterQ (fun _ => ?_) | split | exact OLe.refl _)
theorem q_cmp_isNaN_131_le (x1 : Int) : OLe (q_cmp_isNaN_131 x1) (m_cmp_isNaN_131 x1) := by
  intros; unfold q_cmp_isNaN_131 m_cmp_isNaN_131; try dsimp only
  repeat' (first | with_reducible exact OLe.refl _ | refine OLe.bind ?_ (fun _ => ?_) | refine OLe.cond ?_ ?_ | refine OLe.guard ?_ | refine OLe.opt ?_ (fun _ => ?_) | refine OLe.iterQ (fun _ => ?_) | split | exact OLe.refl _)
theorem q_cmp_Compare_108_le (x1 : Int) (y1 : Int) : OLe (q_cmp_Compare_108 x1 y1) (m_cmp_Compare_108 x1 y1) := by
  intros; unfold q_cmp_Compare_108 m_cmp_Compare_108; try dsimp only
  repeat' (first | with_reducible exact OLe.refl _ | with_reducible exact q_cmp_isNaN_131_le _ | refine OLe.bind ?_ (fun _ => ?_) | refine OLe.cond ?_ ?_ | refine OLe.guard ?_ | refine OLe.opt ?_ (fun _ => ?_) | refine OLe.iterQ (fun _ => ?_) | split | exact OLe.refl _)
theorem q_cmp_Or_107_l1_le (vals1 : (List Int)) : ∀ e0_, OLe (q_cmp_Or_107_l1 vals1 e0_) (m_cmp_Or_107_l1 vals1 e0_) := by
  intros; unfold q_cmp_Or_107_l1 m_cmp_Or_107_l1; try dsimp only
  repeat' (first | with_reducible exact OLe.refl _ | refine OLe.bind ?_ (fun _ => ?_) | refine OLe.cond ?_ ?_ | refine OLe.guard ?_ | refine OLe.opt ?_ (fun _ => ?_) | refine OLe.iterQ (fun _ => ?_) | split | exact OLe.refl _)
theorem q_cmp_Or_107_le (vals1 : (List Int)) : OLe (q_cmp_Or_107 vals1) (m_cmp_Or_107 vals1) := by
  intros; unfold q_cmp_Or_107 m_cmp_Or_107; try dsimp only
  repeat' (first | with_reducible exact OLe.refl _ | with_reducible exact q_cmp_Or_107_l1_le _ _ | refine OLe.bind ?_ (fun _ => ?_) | refine OLe.cond ?_ ?_ | refine OLe.guard ?_ | refine OLe.opt ?_ (fun _ => ?_) | refine OLe.iterQ (fun _ => ?_) | split | exact OLe.refl _)
theorem q_post_greater_le (a1 : Stamp) (b1 : Stamp) : OLe (q_post_greater a1 b1) (m_post_greater a1 b1) := by
  intros; unfold q_post_greater m_post_greater; try dsimp only
  repeat' (first | with_reducible exact OLe.refl _ | with_reducible exact q_cmp_Compare_108_le _ _ | with_reducible exact q_cmp_Or_107_le _ | refine OLe.bind ?_ (fun _ => ?_) | refine OLe.cond ?_ ?_ | refine OLe.guard ?_ | refine OLe.opt ?_ (fun _ => ?_) | refine OLe.iterQ (fun _ => ?_) | split | exact OLe.refl _)
theorem q_post_work_majority_h_l1_le (o1 : Work) : ∀ e0_, OLe (q_post_work_majority_h_l1 o1 e0_) (m_post_work_majority_h_l1 o1 e0_) := by
  intros; unfold q_post_work_majority_h_l1 m_post_work_majority_h_l1; try dsimp only
  repeat' (first | with_reducible exact OLe.refl _ | refine OLe.bind ?_ (fun _ => ?_) | refine OLe.cond ?_ ?_ | refine OLe.guard ?_ | refine OLe.opt ?_ (fun _ => ?_) | refine OLe.iterQ (fun _ => ?_) | split | exact OLe.refl _)
theorem q_post_work_majority_h_le (o1 : Work) : OLe (q_post_work_majority_h o1) (m_post_work_majority_h o1) := by
  intros; unfold q_post_work_majority_h m_post_work_majority_h; try dsimp only
  repeat' (first | with_reducible exact OLe.refl _ | with_reducible exact q_post_work_majority_h_l1_le _ _ | refine OLe.bind ?_ (fun _ => ?_) | refine OLe.cond ?_ ?_ | refine OLe.guard ?_ | refine OLe.opt ?_ (fun _ => ?_) | refine OLe.iterQ (fun _ => ?_) | split | exact OLe.refl _)
theorem q_post_Net_told_h_le (o1 : Net) (k1 : Int) (m1 : Msg) : OLe (q_post_Net_told_h o1 k1 m1) (m_post_Net_told_h o1 k1 m1) := by
  intros; unfold q_post_Net_told_h m_post_Net_told_h; try dsimp only
  repeat' (first | with_reducible exact OLe.refl _ | with_reducible exact q_post_greater_le _ _ | with_reducible exact q_post_work_majority_h_le _ | with_reducible exact q_post_Net_all_h_le _ _ | refine OLe.bind ?_ (fun _ => ?_) | refine OLe.cond ?_ ?_ | refine OLe.guard ?_ | refine OLe.opt ?_ (fun _ => ?_) | refine OLe.iterQ (fun _ => ?_) | split | exact OLe.refl _)
theorem q_post_Net_take_h_le (o1 : Net) (k1 : Int) (m1 : Msg) : OLe (q_post_Net_take_h o1 k1 m1) (m_post_Net_take_h o1 k1 m1) := by
  intros; unfold q_post_Net_take_h m_post_Net_take_h; try dsimp only
  repeat' (first | with_reducible exact OLe.refl _ | with_reducible exact q_post_Net_send_h_le _ _ | with_reducible exact q_post_Net_told_h_le _ _ _ | with_reducible exact q_post_greater_le _ _ | with_reducible exact q_post_work_majority_h_le _ | refine OLe.bind ?_ (fun _ => ?_) | refine OLe.cond ?_ ?_ | refine OLe.guard ?_ | refine OLe.opt ?_ (fun _ => ?_) | refine OLe.iterQ (fun _ => ?_) | split | exact OLe.refl _)
theorem q_post_Net_Deliver_h_le (o1 : Net) (i1 : Int) : OLe (q_post_Net_Deliver_h o1 i1) (m_post_Net_Deliver_h o1 i1) := by
  intros; unfold q_post_Net_Deliver_h m_post_Net_Deliver_h; try dsimp only
  repeat' (first | with_reducible exact OLe.refl _ | with_reducible exact q_post_Net_message_h_le _ _ | with_reducible exact q_post_Net_take_h_le _ _ _ | refine OLe.bind ?_ (fun _ => ?_) | refine OLe.cond ?_ ?_ | refine OLe.guard ?_ | refine OLe.opt ?_ (fun _ => ?_) | refine OLe.iterQ (fun _ => ?_) | split | exact OLe.refl _)
theorem q_post_Net_Settle_h_l1_le (limit1 : Int) : ∀ e0_, OLe (q_post_Net_Settle_h_l1 limit1 e0_) (m_post_Net_Settle_h_l1 limit1 e0_) := by
  intros; unfold q_post_Net_Settle_h_l1 m_post_Net_Settle_h_l1; try dsimp only
  repeat' (first | with_reducible exact OLe.refl _ | with_reducible exact q_post_Net_Deliver_h_le _ _ | refine OLe.bind ?_ (fun _ => ?_) | refine OLe.cond ?_ ?_ | refine OLe.guard ?_ | refine OLe.opt ?_ (fun _ => ?_) | refine OLe.iterQ (fun _ => ?_) | split | exact OLe.refl _)
theorem q_post_Net_Settle_h_le (o1 : Net) (limit1 : Int) : OLe (q_post_Net_Settle_h o1 limit1) (m_post_Net_Settle_h o1 limit1) := by
  intros; unfold q_post_Net_Settle_h m_post_Net_Settle_h; try dsimp only
  repeat' (first | with_reducible exact OLe.refl _ | with_reducible exact q_post_Net_ok_h_le _ | with_reducible exact q_post_Net_Settle_h_l1_le _ _ | refine OLe.bind ?_ (fun _ => ?_) | refine OLe.cond ?_ ?_ | refine OLe.guard ?_ | refine OLe.opt ?_ (fun _ => ?_) | refine OLe.iterQ (fun _ => ?_) | split | exact OLe.refl _)
theorem q_post_Net_Read_h_le (o1 : Net) (no1 : Int) : OLe (q_post_Net_Read_h o1 no1) (m_post_Net_Read_h o1 no1) := by
  intros; unfold q_post_Net_Read_h m_post_Net_Read_h; try dsimp only
  repeat' (first | with_reducible exact OLe.refl _ | with_reducible exact q_post_Net_at_h_le _ _ | with_reducible exact q_post_Net_begin_h_le _ _ _ _ | refine OLe.bind ?_ (fun _ => ?_) | refine OLe.cond ?_ ?_ | refine OLe.guard ?_ | refine OLe.opt ?_ (fun _ => ?_) | refine OLe.iterQ (fun _ => ?_) | split | exact OLe.refl _)
theorem q_post_Net_Calls_h_le (o1 : Net) : OLe (q_post_Net_Calls_h o1) (m_post_Net_Calls_h o1) := by
  intros; unfold q_post_Net_Calls_h m_post_Net_Calls_h; try dsimp only
  repeat' (first | with_reducible exact OLe.refl _ | with_reducible exact q_post_Net_ok_h_le _ | refine OLe.bind ?_ (fun _ => ?_) | refine OLe.cond ?_ ?_ | refine OLe.guard ?_ | refine OLe.opt ?_ (fun _ => ?_) | refine OLe.iterQ (fun _ => ?_) | split | exact OLe.refl _)
theorem q_cocketlaw09_alive_le  : OLe (q_cocketlaw09_alive) (m_cocketlaw09_alive) := by
  intros; unfold q_cocketlaw09_alive m_cocketlaw09_alive; try dsimp only
  repeat' (first | with_reducible exact OLe.refl _ | with_reducible exact q_post_New_h_le _ | with_reducible exact q_post_Net_Write_h_le _ _ _ | with_reducible exact q_post_Net_Messages_h_le _ | with_reducible exact q_post_Net_Settle_h_le _ _ | with_reducible exact q_post_Net_Read_h_le _ _ | with_reducible exact q_post_Net_Calls_h_le _ | refine OLe.bind ?_ (fun _ => ?_) | refine OLe.cond ?_ ?_ | refine OLe.guard ?_ | refine OLe.opt ?_ (fun _ => ?_) | refine OLe.iterQ (fun _ => ?_) | split | exact OLe.refl _)
end Go.Pv

namespace Go.Pv
theorem q_alive_true : q_cocketlaw09_alive = some true := by decide +kernel
theorem alive_true : m_cocketlaw09_alive = some true := q_cocketlaw09_alive_le _ q_alive_true
end Go.Pv

namespace Go.Pv
theorem q_iter_eq {S X : Type} (f : S → Option (S ⊕ X)) (s : S) : iter f s = (f s).bind fun o => match o with
    | .inl s' => iter f s'
    | .inr x => some x := by
  cases h : f s with
  | none =>
    simp only [Option.bind_none]
    cases hi : iter f s with
    | none => rfl
    | some x =>
      obtain ⟨n, hn⟩ := iter_some hi
      cases n with
      | zero => cases hn
      | succ n => rw [iterN_succ, h] at hn; cases hn
  | some o =>
    simp only [Option.bind_some]
    cases o with
    | inr x => exact iter_done h
    | inl s' =>
      show iter f s = iter f s'
      cases hi : iter f s' with
      | some x => exact iter_step h hi
      | none =>
        cases hi2 : iter f s with
        | none => rfl
        | some x =>
          obtain ⟨n, hn⟩ := iter_some hi2
          cases n with
          | zero => cases hn
          | succ n =>
            rw [iterN_succ, h] at hn
            have := iter_of (f := f) (s := s') (n := n) hn
            rw [hi] at this; cases this
theorem q_wrap {x : Int} (h : -9223372036854775808 ≤ x ∧ x ≤ 9223372036854775807) : IntKind.i64.wrap x = x := wrap_i64_eq h
def gtS (a b : Stamp) : Bool := decide (b.No < a.No ∨ b.No = a.No ∧ (b.Post < a.Post ∨ b.Post = a.Post ∧ b.Turn < a.Turn))
def cmpI (x y : Int) : Int := if x < y then -1 else if y < x then 1 else 0
theorem Compare_eq (x y : Int) : m_cmp_Compare_108 x y = some (cmpI x y) := by
  unfold m_cmp_Compare_108 m_cmp_isNaN_131 cmpI
  simp only [Option.bind_some, not_true, decide_false, cond_false]
  by_cases h : x < y
  · simp [h]
  · by_cases h' : y < x <;> simp [h, h']
theorem Or_eq (x y z : Int) : m_cmp_Or_107 [x, y, z] = some (if x ≠ 0 then x else if y ≠ 0 then y else z) := by
  unfold m_cmp_Or_107
  have w1 : IntKind.i64.wrap (0 + 1) = 1 := by decide
  have w2 : IntKind.i64.wrap (1 + 1) = 2 := by decide
  have w3 : IntKind.i64.wrap (2 + 1) = 3 := by decide
  have e0 : idx [x, y, z] 0 = some x := rfl
  have e1 : idx [x, y, z] 1 = some y := rfl
  have e2 : idx [x, y, z] 2 = some z := rfl
  have c0 : m_cmp_Or_107_l1 [x, y, z] 0 = cond (decide (¬x = 0)) (some (.inr (.inr x))) (some (.inl 1)) := by
    simp only [m_cmp_Or_107_l1, e0, Option.bind_some, w1]; rfl
  have c1 : m_cmp_Or_107_l1 [x, y, z] 1 = cond (decide (¬y = 0)) (some (.inr (.inr y))) (some (.inl 2)) := by
    simp only [m_cmp_Or_107_l1, e1, Option.bind_some, w2]; rfl
  have c2 : m_cmp_Or_107_l1 [x, y, z] 2 = cond (decide (¬z = 0)) (some (.inr (.inr z))) (some (.inl 3)) := by
    simp only [m_cmp_Or_107_l1, e2, Option.bind_some, w3]; rfl
  have c3 : m_cmp_Or_107_l1 [x, y, z] 3 = some (.inr (.inl ())) := rfl
  by_cases hx : x = 0
  · have c0' : m_cmp_Or_107_l1 [x, y, z] 0 = some (.inl 1) := by rw [c0]; simp [hx]
    by_cases hy : y = 0
    · have c1' : m_cmp_Or_107_l1 [x, y, z] 1 = some (.inl 2) := by rw [c1]; simp [hy]
      by_cases hz : z = 0
      · have c2' : m_cmp_Or_107_l1 [x, y, z] 2 = some (.inl 3) := by rw [c2]; simp [hz]
        rw [iter_step c0' (iter_step c1' (iter_step c2' (iter_done c3)))]
        simp [hx, hy, hz]
      · have c2' : m_cmp_Or_107_l1 [x, y, z] 2 = some (.inr (.inr z)) := by rw [c2]; simp [hz]
        rw [iter_step c0' (iter_step c1' (iter_done c2'))]
        simp [hx, hy]
    · have c1' : m_cmp_Or_107_l1 [x, y, z] 1 = some (.inr (.inr y)) := by rw [c1]; simp [hy]
      rw [iter_step c0' (iter_done c1')]
      simp [hx, hy]
  · have c0' : m_cmp_Or_107_l1 [x, y, z] 0 = some (.inr (.inr x)) := by rw [c0]; simp [hx]
    rw [iter_done c0']
    simp [hx]
theorem greater_eq (a b : Stamp) : m_post_greater a b = some (gtS a b) := by
  unfold m_post_greater gtS
  simp only [Compare_eq, Or_eq, Option.bind_some]
  congr 1
  apply decide_eq_decide.2
  unfold cmpI
  repeat' split
  all_goals omega
def freshP : Pst := ⟨true, ⟨0, 0, 0⟩, 0, 0, none⟩
theorem New_eq (n : Int) : m_post_New_h n = if 1 ≤ n ∧ n ≤ 5 then some (some ⟨List.replicate n.toNat freshP, [], [], 0⟩, 0) else some (none, 2) := by
  by_cases h : 1 ≤ n ∧ n ≤ 5
  · rw [if_pos h]
    have : n = 1 ∨ n = 2 ∨ n = 3 ∨ n = 4 ∨ n = 5 := by omega
    rcases this with rfl | rfl | rfl | rfl | rfl <;> unfold m_post_New_h
    · rw [iter_of (f := m_post_New_h_l1 1) (s := (0, [])) (n := 7) (x := List.replicate 1 freshP) (by rfl)]; rfl
    · rw [iter_of (f := m_post_New_h_l1 2) (s := (0, [])) (n := 7) (x := List.replicate 2 freshP) (by rfl)]; rfl
    · rw [iter_of (f := m_post_New_h_l1 3) (s := (0, [])) (n := 7) (x := List.replicate 3 freshP) (by rfl)]; rfl
    · rw [iter_of (f := m_post_New_h_l1 4) (s := (0, [])) (n := 7) (x := List.replicate 4 freshP) (by rfl)]; rfl
    · rw [iter_of (f := m_post_New_h_l1 5) (s := (0, [])) (n := 7) (x := List.replicate 5 freshP) (by rfl)]; rfl
  · rw [if_neg h]
    unfold m_post_New_h
    have : (decide (n < 1) || decide (5 < n)) = true := by simp; omega
    rw [this]; rfl
def sendM (ms : List Msg) (m : Msg) : List Msg := if ms.length < 500 then ms ++ [m] else ms
def toAll (m : Msg) : Nat → Int → List Msg → List Msg
  | 0, _, ms => ms
  | k + 1, i, ms => toAll m k (i + 1) (sendM ms ⟨m.Kind, m.From, i, m.Turn, m.Stamp, m.Value⟩)
theorem send_eq (o : Net) (m : Msg) : m_post_Net_send_h o m = some ⟨o.posts, sendM o.messages m, o.calls, o.clock⟩ := by
  unfold m_post_Net_send_h sendM
  by_cases h : o.messages.length < 500
  · have : decide ((o.messages.length : Int) < 500) = true := by simp; omega
    rw [this, if_pos h]
    simp only [cond_true]
    rw [guardO_pos (by simp; omega)]
  · have : decide ((o.messages.length : Int) < 500) = false := by simp; omega
    rw [this, if_neg h]; rfl
theorem all_loop (o : Net) (h : o.posts.length ≤ 5) (L1 : List Pst) (L3 : List Cal) (c1 : Int) : ∀ (k : Nat) (i : Int) (ms : List Msg) (m : Msg), k = ((o.posts.length : Int) - i).toNat → 0 ≤ i →
    iter (m_post_Net_all_h_l1 o) (i, c1, L1, ms, L3, m) = some ⟨L1, toAll m k i ms, L3, c1⟩
  | 0, i, ms, m, hk, hi => by
    have : decide (i < (o.posts.length : Int)) = false := by simp; omega
    rw [q_iter_eq]; simp only [m_post_Net_all_h_l1, this, cond_false]; rfl
  | k + 1, i, ms, m, hk, hi => by
    have : decide (i < (o.posts.length : Int)) = true := by simp; omega
    rw [q_iter_eq]
    simp only [m_post_Net_all_h_l1, this, cond_true, send_eq, Option.bind_some]
    rw [q_wrap (by omega), all_loop o h L1 L3 c1 k (i + 1) _ _ (by omega) (by omega)]
    congr 1
    show Net.mk L1 (toAll _ k (i + 1) _) L3 c1 = Net.mk L1 (toAll m k (i + 1) _) L3 c1
    congr 1
    generalize sendM ms _ = ms'
    clear hk this
    suffices ∀ (k : Nat) (j : Int) (ms' : List Msg), toAll ⟨m.Kind, m.From, i, m.Turn, m.Stamp, m.Value⟩ k j ms' = toAll m k j ms' from this _ _ _
    intro k
    induction k with
    | zero => intros; rfl
    | succ k ih => intro j ms'; exact ih _ _
theorem all_eq {o : Net} (h : o.posts.length ≤ 5) (m : Msg) : m_post_Net_all_h o m = some ⟨o.posts, toAll m o.posts.length 0 o.messages, o.calls, o.clock⟩ := by
  unfold m_post_Net_all_h
  rw [all_loop o h o.posts o.calls o.clock o.posts.length 0 o.messages m (by omega) (by omega)]; rfl
def yes (l : List Bool) : Nat := (l.filter id).length
theorem yes_snoc (l : List Bool) (b : Bool) : yes (l ++ [b]) = yes l + if b then 1 else 0 := by
  unfold yes; cases b <;> simp
theorem yes_le (l : List Bool) : yes l ≤ l.length := List.length_filter_le _ _
theorem maj_loop (o : Work) (h : o.answered.length ≤ 5) : ∀ (k i : Nat), k = o.answered.length - i → i ≤ o.answered.length →
    iter (m_post_work_majority_h_l1 o) ((yes (o.answered.take i) : Int), (i : Int)) = some (yes o.answered : Int)
  | 0, i, hk, hi => by
    have : decide ((i : Int) < (o.answered.length : Int)) = false := by simp; omega
    rw [q_iter_eq]; simp only [m_post_work_majority_h_l1, this, cond_false]
    rw [List.take_of_length_le (by omega)]; rfl
  | k + 1, i, hk, hi => by
    have hi' : i < o.answered.length := by omega
    have : decide ((i : Int) < (o.answered.length : Int)) = true := by simp; omega
    have e : o.answered[i]? = some o.answered[i] := List.getElem?_eq_getElem hi'
    rw [q_iter_eq]
    simp only [m_post_work_majority_h_l1, this, cond_true, idx_nat, e, Option.bind_some]
    have hy := yes_le (o.answered.take i)
    have hl : (o.answered.take i).length = i := by simp; omega
    have hs : yes (o.answered.take (i + 1)) = yes (o.answered.take i) + if o.answered[i] then 1 else 0 := by
      rw [List.take_add_one, e]; exact yes_snoc _ _
    have hw : IntKind.i64.wrap ((i : Int) + 1) = ((i + 1 : Nat) : Int) := by rw [q_wrap (by omega)]; omega
    rw [hw]
    rw [← maj_loop o h k (i + 1) (by omega) (by omega), hs]
    cases hb : o.answered[i]
    · simp
    · have : IntKind.i64.wrap ((yes (o.answered.take i) : Int) + 1) = ((yes (o.answered.take i) + 1 : Nat) : Int) := by rw [q_wrap (by omega)]; omega
      simp [this]
theorem majority_eq {o : Work} (h : o.answered.length ≤ 5) : m_post_work_majority_h o = some (decide (o.answered.length < 2 * yes o.answered), o) := by
  unfold m_post_work_majority_h
  have := maj_loop o h o.answered.length 0 rfl (by omega)
  have e0 : ((yes (o.answered.take 0) : Int), ((0 : Nat) : Int)) = ((0 : Int), (0 : Int)) := rfl
  rw [e0] at this
  rw [this]
  have hy := yes_le o.answered
  simp only [Option.bind_some]
  rw [q_wrap (by omega)]
  congr 2
  apply decide_eq_decide.2
  omega
end Go.Pv

namespace Go.Pv
def workUp (w : Work) (m : Msg) : Work :=
  ⟨w.turn, w.call, w.write, false, if gtS m.Stamp w.stamp then m.Stamp else w.stamp, if gtS m.Stamp w.stamp && !w.write then m.Value else w.value, w.answered.set m.From.toNat true⟩
def stampOf (w : Work) (k : Int) : Stamp := if w.write then ⟨w.stamp.No + 1, k, w.turn⟩ else w.stamp
def toldW (o : Net) (k : Int) (m : Msg) (e : Pst) (w : Work) : Net :=
  if w.turn = m.Turn ∧ w.puts = false ∧ w.answered[m.From.toNat]? = some false then
    if w.answered.length < 2 * yes (workUp w m).answered then
      ⟨o.posts.set k.toNat ⟨e.up, e.stamp, e.value, e.turns, some ⟨w.turn, w.call, w.write, true, stampOf (workUp w m) m.To, (workUp w m).value, List.replicate o.posts.length false⟩⟩,
        toAll ⟨3, m.To, 0, w.turn, stampOf (workUp w m) m.To, (workUp w m).value⟩ o.posts.length 0 o.messages, o.calls, o.clock⟩
    else ⟨o.posts.set k.toNat ⟨e.up, e.stamp, e.value, e.turns, some (workUp w m)⟩, o.messages, o.calls, o.clock⟩
  else o
def ackW (o : Net) (k : Int) (m : Msg) (e : Pst) (w : Work) : Net :=
  if w.turn = m.Turn ∧ w.puts = true ∧ w.answered[m.From.toNat]? = some false then
    if w.answered.length < 2 * yes (w.answered.set m.From.toNat true) then
      ⟨o.posts.set k.toNat ⟨e.up, e.stamp, e.value, e.turns, none⟩, o.messages, o.calls.set w.call.toNat ⟨(o.calls[w.call.toNat]?.getD default).Post, (o.calls[w.call.toNat]?.getD default).Write, w.value, (o.calls[w.call.toNat]?.getD default).Start, o.clock⟩, o.clock⟩
    else ⟨o.posts.set k.toNat ⟨e.up, e.stamp, e.value, e.turns, some { w with answered := w.answered.set m.From.toNat true }⟩, o.messages, o.calls, o.clock⟩
  else o
def takeP (o : Net) (k : Int) (m : Msg) (e : Pst) : Net :=
  if m.Kind = 1 then ⟨o.posts, sendM o.messages ⟨2, m.To, m.From, m.Turn, e.stamp, e.value⟩, o.calls, o.clock⟩
  else if m.Kind = 2 then match e.work with
    | none => o
    | some w => toldW o k m e w
  else if m.Kind = 3 then ⟨if gtS m.Stamp e.stamp then o.posts.set k.toNat ⟨e.up, m.Stamp, m.Value, e.turns, e.work⟩ else o.posts, sendM o.messages ⟨4, m.To, m.From, m.Turn, ⟨0, 0, 0⟩, 0⟩, o.calls, o.clock⟩
  else if m.Kind = 4 then match e.work with
    | none => o
    | some w => ackW o k m e w
  else o
structure WorkOk (o : Net) (w : Work) : Prop where
  len : w.answered.length = o.posts.length
  call : 0 ≤ w.call ∧ w.call < o.calls.length
  no : 0 ≤ w.stamp.No ∧ w.stamp.No < 1000000000
theorem set_self {P : List Pst} {k : Nat} {e : Pst} (h : P[k]? = some e) : P.set k e = P := by
  apply List.ext_getElem?
  intro i
  rw [List.getElem?_set]
  split
  · next hi => subst hi; split
               · exact h.symm
               · next hl => rw [List.getElem?_eq_none (by omega)]
  · rfl
theorem told_eq {o : Net} {k : Int} {m : Msg} {e : Pst} (hn : o.posts.length ≤ 5) (h0 : 0 ≤ k) (he : o.posts[k.toNat]? = some e) (hf : 0 ≤ m.From ∧ m.From < o.posts.length) (hs : 0 ≤ m.Stamp.No ∧ m.Stamp.No < 1000000000)
    (hw : ∀ w, e.work = some w → WorkOk o w) : m_post_Net_told_h o k m = some (match e.work with | none => o | some w => toldW o k m e w) := by
  obtain ⟨P, ms, C, c⟩ := o
  obtain ⟨up, st, va, tu, wk⟩ := e
  have e3 : idx P k = some ⟨up, st, va, tu, wk⟩ := by rw [idx_pos h0]; exact he
  have hself := set_self he
  unfold m_post_Net_told_h
  simp only [e3, Option.bind_some]
  cases wk with
  | none => simp only [optB]; rw [hself]
  | some w =>
    obtain ⟨hl, hc, hno⟩ := hw w rfl
    simp only [optB]
    unfold toldW
    by_cases h1 : w.turn = m.Turn
    · have c1 : decide (¬ w.turn = m.Turn) = false := by simp [h1]
      simp only [c1, cond_false]
      by_cases h2 : w.puts = true
      · have hh : ¬ (w.turn = m.Turn ∧ w.puts = false ∧ w.answered[m.From.toNat]? = some false) := by simp [h2]
        rw [if_neg hh]
        obtain ⟨a1, a2, a3, a4, a5, a6, a7⟩ := w
        simp only at h2
        subst h2
        simp only [cond_true]
        exact congrArg (fun P => some (⟨P, ms, C, c⟩ : Net)) hself
      · have h2' : w.puts = false := by simpa using h2
        have hfl : m.From.toNat < w.answered.length := by simp only at hl hf; omega
        have ha : w.answered[m.From.toNat]? = some w.answered[m.From.toNat] := List.getElem?_eq_getElem hfl
        have ia : idx w.answered m.From = some w.answered[m.From.toNat] := by rw [idx_pos hf.1]; exact ha
        simp only [h2', ia, Option.bind_some, cond_false]
        cases hb : w.answered[m.From.toNat] with
        | true =>
          rw [if_neg (by rw [ha, hb]; simp)]
          simp only [cond_true]
          obtain ⟨a1, a2, a3, a4, a5, a6, a7⟩ := w
          simp only at h2'
          subst h2'
          exact congrArg (fun P => some (⟨P, ms, C, c⟩ : Net)) hself
        | false =>
          rw [if_pos ⟨h1, trivial, by rw [ha, hb]⟩]
          simp only [cond_false, greater_eq, Option.bind_some]
          have hx : (cond (gtS m.Stamp w.stamp) (cond (!w.write) (some (m.Stamp.No, m.Stamp.Post, m.Stamp.Turn, m.Value)) (some (m.Stamp.No, m.Stamp.Post, m.Stamp.Turn, w.value))) (some (w.stamp.No, w.stamp.Post, w.stamp.Turn, w.value)) : Option (Int × Int × Int × Int))
              = some ((workUp w m).stamp.No, (workUp w m).stamp.Post, (workUp w m).stamp.Turn, (workUp w m).value) := by
            unfold workUp
            cases gtS m.Stamp w.stamp <;> cases w.write <;> rfl
          rw [hx]
          simp only [Option.bind_some]
          have hup : (⟨w.turn, w.call, w.write, false, ⟨(workUp w m).stamp.No, (workUp w m).stamp.Post, (workUp w m).stamp.Turn⟩, (workUp w m).value, w.answered.set m.From.toNat true⟩ : Work) = workUp w m := rfl
          rw [hup]
          have hl2 : (workUp w m).answered.length = w.answered.length := by simp [workUp]
          have hl' : w.answered.length = P.length := hl
          have hn' : P.length ≤ 5 := hn
          rw [majority_eq (by omega)]
          simp only [Option.bind_some, hl2]
          have hst : 0 ≤ (workUp w m).stamp.No ∧ (workUp w m).stamp.No < 1000000000 := by
            unfold workUp; dsimp only; split <;> assumption
          by_cases hy : w.answered.length < 2 * yes (workUp w m).answered
          · rw [if_pos hy]
            simp only [hy, decide_true, Bool.not_true, cond_false]
            have hx2 : (cond (workUp w m).write (some (IntKind.i64.wrap ((workUp w m).stamp.No + 1), m.To, (workUp w m).turn)) (some ((workUp w m).stamp.No, (workUp w m).stamp.Post, (workUp w m).stamp.Turn)) : Option (Int × Int × Int))
                = some ((stampOf (workUp w m) m.To).No, (stampOf (workUp w m) m.To).Post, (stampOf (workUp w m) m.To).Turn) := by
              rw [q_wrap (by omega)]
              unfold stampOf
              cases (workUp w m).write <;> rfl
            rw [hx2]
            simp only [Option.bind_some]
            rw [guardO_pos (by omega), all_eq (by simp; omega)]
            simp only [List.length_set, Option.bind_some]
            have : ((P.length : Int)).toNat = P.length := by omega
            rw [this]
            rfl
          · rw [if_neg hy]
            simp only [hy, decide_false, Bool.not_false, cond_true]
    · rw [if_neg (by simp [h1])]
      simp only [h1, not_false_eq_true, decide_true, cond_true]
      exact congrArg (fun P => some (⟨P, ms, C, c⟩ : Net)) hself
theorem take_eq {o : Net} {k : Int} {m : Msg} {e : Pst} (hn : o.posts.length ≤ 5) (h0 : 0 ≤ k) (he : o.posts[k.toNat]? = some e) (hf : 0 ≤ m.From ∧ m.From < o.posts.length) (hs : 0 ≤ m.Stamp.No ∧ m.Stamp.No < 1000000000)
    (hw : ∀ w, e.work = some w → WorkOk o w) : m_post_Net_take_h o k m = some (takeP o k m e) := by
  have e3 : idx o.posts k = some e := by rw [idx_pos h0]; exact he
  unfold m_post_Net_take_h takeP
  by_cases k1 : m.Kind = 1
  · simp only [k1, decide_true, cond_true, e3, Option.bind_some, send_eq, if_true]
  by_cases k2 : m.Kind = 2
  · simp only [k1, k2, decide_true, decide_false, cond_true, cond_false, if_true, if_false, told_eq hn h0 he hf hs hw, Option.bind_some]; rfl
  by_cases k3 : m.Kind = 3
  · have c31 : ¬ ((3 : Int) = 1) := by decide
    have c32 : ¬ ((3 : Int) = 2) := by decide
    simp only [k3, c31, c32, decide_true, decide_false, cond_true, cond_false, if_true, if_false, e3, Option.bind_some, greater_eq]
    cases hg : gtS m.Stamp e.stamp
    · simp only [cond_false, Option.bind_some, send_eq]; rfl
    · obtain ⟨up, st, va, tu, _ | w⟩ := e <;> simp only [cond_true, optB, Option.bind_some, send_eq] <;> rfl
  by_cases k4 : m.Kind = 4
  · have c41 : ¬ ((4 : Int) = 1) := by decide
    have c42 : ¬ ((4 : Int) = 2) := by decide
    have c43 : ¬ ((4 : Int) = 3) := by decide
    simp only [k4, c41, c42, c43, decide_true, decide_false, cond_true, cond_false, if_true, if_false, e3, Option.bind_some]
    obtain ⟨P, ms, C, c⟩ := o
    obtain ⟨up, st, va, tu, wk⟩ := e
    have hself := set_self he
    cases wk with
    | none => exact congrArg (fun P => some (⟨P, ms, C, c⟩ : Net)) hself
    | some w =>
      obtain ⟨hl, hc, hno⟩ := hw w rfl
      simp only [optB]
      unfold ackW
      by_cases h1 : w.turn = m.Turn
      · have c1 : decide (¬ w.turn = m.Turn) = false := by simp [h1]
        simp only [c1, cond_false]
        by_cases h2 : w.puts = true
        · have hfl : m.From.toNat < w.answered.length := by simp only at hl hf; omega
          have ha : w.answered[m.From.toNat]? = some w.answered[m.From.toNat] := List.getElem?_eq_getElem hfl
          have ia : idx w.answered m.From = some w.answered[m.From.toNat] := by rw [idx_pos hf.1]; exact ha
          simp only [h2, Bool.not_true, cond_false, ia, Option.bind_some]
          cases hb : w.answered[m.From.toNat] with
          | true =>
            rw [if_neg (by rw [ha, hb]; simp)]
            exact congrArg (fun P => some (⟨P, ms, C, c⟩ : Net)) hself
          | false =>
            rw [if_pos ⟨h1, trivial, by rw [ha, hb]⟩]
            simp only [cond_false]
            have hl' : w.answered.length = P.length := hl
            have hn' : P.length ≤ 5 := hn
            rw [majority_eq (by simp; omega)]
            simp only [Option.bind_some, List.length_set]
            by_cases hy : w.answered.length < 2 * yes (w.answered.set m.From.toNat true)
            · rw [if_pos hy]
              have hc' : w.call.toNat < C.length := by simp only at hc; omega
              have hC : C[w.call.toNat]? = some C[w.call.toNat] := List.getElem?_eq_getElem hc'
              have iC : idx C w.call = some C[w.call.toNat] := by rw [idx_pos hc.1]; exact hC
              have iC2 : ∀ x : Cal, idx (C.set w.call.toNat x) w.call = some x := by
                intro x; rw [idx_pos hc.1, List.getElem?_set, if_pos rfl, if_pos hc']
              simp only [hy, decide_true, cond_true, iC, Option.bind_some, iC2, hC, Option.getD_some, List.set_set]
            · rw [if_neg hy]
              simp only [hy, decide_false, cond_false]
        · have h2' : w.puts = false := by simpa using h2
          rw [if_neg (by rw [h2']; simp)]
          simp only [h2', Bool.not_false, cond_true]
          exact congrArg (fun P => some (⟨P, ms, C, c⟩ : Net)) hself
      · rw [if_neg (by simp [h1])]
        simp only [h1, not_false_eq_true, decide_true, cond_true]
        exact congrArg (fun P => some (⟨P, ms, C, c⟩ : Net)) hself
  · simp only [k1, k2, k3, k4, decide_false, cond_false, if_false]
end Go.Pv

namespace Go.Pv
def beginN (o : Net) (k : Int) (write : Bool) (value : Int) (e : Pst) : Net :=
  ⟨o.posts.set k.toNat ⟨e.up, e.stamp, e.value, e.turns + 1, some ⟨e.turns + 1, o.calls.length, write, false, ⟨0, 0, 0⟩, value, List.replicate o.posts.length false⟩⟩,
    toAll ⟨1, k, 0, e.turns + 1, ⟨0, 0, 0⟩, 0⟩ o.posts.length 0 o.messages, o.calls ++ [⟨k, write, if write then value else 0, o.clock + 1, -1⟩], o.clock + 1⟩
def beginP (o : Net) (k : Int) (write : Bool) (value : Int) (e : Pst) : Int × Net :=
  if e.work ≠ none ∨ e.up = false then (9, o) else if 100 ≤ o.calls.length ∨ 500 < o.messages.length + o.posts.length then (8, o) else (0, beginN o k write value e)
theorem begin_eq {o : Net} {k : Int} {write : Bool} {value : Int} {e : Pst} (hn : o.posts.length ≤ 5) (hm : o.messages.length ≤ 500) (h0 : 0 ≤ k) (he : o.posts[k.toNat]? = some e)
    (hc : 0 ≤ o.clock ∧ o.clock < 1000000000) (ht : 0 ≤ e.turns ∧ e.turns < 1000000000) : m_post_Net_begin_h o k write value = some (beginP o k write value e) := by
  have e3 : idx o.posts k = some e := by rw [idx_pos h0]; exact he
  obtain ⟨P, ms, C, c⟩ := o
  obtain ⟨up, st, va, tu, wk⟩ := e
  have hself := set_self he
  unfold m_post_Net_begin_h beginP
  simp only [e3, Option.bind_some]
  cases wk with
  | some w =>
    rw [if_pos (by simp)]
    simp only [optB]
    exact congrArg (fun P => some ((9 : Int), (⟨P, ms, C, c⟩ : Net))) hself
  | none =>
    simp only [optB]
    cases up with
    | false =>
      rw [if_pos (by simp)]
      simp only [Bool.not_false, cond_true]
      exact congrArg (fun P => some ((9 : Int), (⟨P, ms, C, c⟩ : Net))) hself
    | true =>
      rw [if_neg (by simp)]
      simp only [Bool.not_true, cond_false]
      by_cases h1 : 100 ≤ C.length
      · have d1 : decide (100 ≤ (C.length : Int)) = true := by simp; omega
        rw [d1, if_pos (.inl h1)]
        simp only [cond_true]
        exact congrArg (fun P => some ((8 : Int), (⟨P, ms, C, c⟩ : Net))) hself
      · have d1 : decide (100 ≤ (C.length : Int)) = false := by simp; omega
        rw [d1]
        simp only [cond_false]
        simp only at hm hn hc ht
        rw [q_wrap (by omega), q_wrap (by omega), q_wrap (by omega)]
        by_cases h2 : 500 < ms.length + P.length
        · have d2 : decide (500 < (ms.length : Int) + (P.length : Int)) = true := by simp; omega
          rw [d2, if_pos (.inr h2)]
          simp only [cond_true]
          exact congrArg (fun P => some ((8 : Int), (⟨P, ms, C, c⟩ : Net))) hself
        · have d2 : decide (500 < (ms.length : Int) + (P.length : Int)) = false := by simp; omega
          rw [d2, if_neg (by omega)]
          simp only [cond_false]
          rw [guardO_pos (by omega)]
          have hx : (cond write (some (⟨k, write, value, c + 1, -1⟩ : Cal)) (some ⟨k, write, 0, c + 1, -1⟩)) = some ⟨k, write, if write then value else 0, c + 1, -1⟩ := by cases write <;> rfl
          rw [hx]
          simp only [Option.bind_some]
          rw [guardO_pos (by simp; omega), all_eq (by simp; omega)]
          simp only [Option.bind_some, List.length_set]
          have : ((P.length : Int)).toNat = P.length := by omega
          rw [this]
          rfl
theorem ok_eq {o : Net} (h : o.posts.length ≠ 0) : m_post_Net_ok_h o = some (true, o) := by
  unfold m_post_Net_ok_h; rw [guardO_pos h]
theorem at_eq {o : Net} (h : o.posts.length ≠ 0) (k : Int) : m_post_Net_at_h o k = some (if 0 ≤ k ∧ k < o.posts.length then 0 else 2, o) := by
  unfold m_post_Net_at_h
  simp only [ok_eq h, Option.bind_some, Bool.not_true, cond_false]
  by_cases hk : 0 ≤ k ∧ k < o.posts.length
  · have : (decide (k < 0) || decide ((o.posts.length : Int) ≤ k)) = false := by simp; omega
    rw [this, if_pos hk]; rfl
  · have : (decide (k < 0) || decide ((o.posts.length : Int) ≤ k)) = true := by simp; omega
    rw [this, if_neg hk]; rfl
theorem message_eq {o : Net} (h : o.posts.length ≠ 0) (i : Int) : m_post_Net_message_h o i = some (if 0 ≤ i ∧ i < o.messages.length then 0 else 4, o) := by
  unfold m_post_Net_message_h
  simp only [ok_eq h, Option.bind_some, Bool.not_true, cond_false]
  by_cases hk : 0 ≤ i ∧ i < o.messages.length
  · have : (decide (i < 0) || decide ((o.messages.length : Int) ≤ i)) = false := by simp; omega
    rw [this, if_pos hk]; rfl
  · have : (decide (i < 0) || decide ((o.messages.length : Int) ≤ i)) = true := by simp; omega
    rw [this, if_neg hk]; rfl
theorem Write_eq {o : Net} (h : o.posts.length ≠ 0) (k v : Int) : m_post_Net_Write_h o k v = if 0 ≤ k ∧ k < o.posts.length then (if 1 ≤ v ∧ v ≤ 1000000 then m_post_Net_begin_h o k true v else some (2, o)) else some (2, o) := by
  unfold m_post_Net_Write_h
  simp only [at_eq h, Option.bind_some]
  by_cases hk : 0 ≤ k ∧ k < o.posts.length
  · simp only [if_pos hk, not_true, decide_false, cond_false]
    by_cases hv : 1 ≤ v ∧ v ≤ 1000000
    · have : (decide (v < 1) || decide (1000000 < v)) = false := by simp; omega
      rw [this, if_pos hv]
      simp only [cond_false]
      cases m_post_Net_begin_h o k true v <;> rfl
    · have : (decide (v < 1) || decide (1000000 < v)) = true := by simp; omega
      rw [this, if_neg hv]; rfl
  · simp only [if_neg hk]; rfl
theorem Read_eq {o : Net} (h : o.posts.length ≠ 0) (k : Int) : m_post_Net_Read_h o k = if 0 ≤ k ∧ k < o.posts.length then m_post_Net_begin_h o k false 0 else some (2, o) := by
  unfold m_post_Net_Read_h
  simp only [at_eq h, Option.bind_some]
  by_cases hk : 0 ≤ k ∧ k < o.posts.length
  · simp only [if_pos hk, not_true, decide_false, cond_false]
    cases m_post_Net_begin_h o k false 0 <;> rfl
  · simp only [if_neg hk]; rfl
theorem Calls_eq {o : Net} (h : o.posts.length ≠ 0) (hc : o.calls.length ≤ 4294967296) : m_post_Net_Calls_h o = some (o.calls, o) := by
  unfold m_post_Net_Calls_h
  simp only [ok_eq h, Option.bind_some, Bool.not_true, cond_false, guardO_pos hc]
theorem Repeat_eq {o : Net} (h : o.posts.length ≠ 0) (i : Int) (hm : o.messages.length ≤ 500) : m_post_Net_Repeat_h o i = some (if 0 ≤ i ∧ i < o.messages.length then (if 500 ≤ o.messages.length then (8, o) else (0, ⟨o.posts, o.messages ++ [o.messages[i.toNat]?.getD default], o.calls, o.clock⟩)) else (4, o)) := by
  unfold m_post_Net_Repeat_h
  simp only [message_eq h, Option.bind_some]
  by_cases hi : 0 ≤ i ∧ i < o.messages.length
  · simp only [if_pos hi, not_true, decide_false, cond_false]
    by_cases h5 : 500 ≤ o.messages.length
    · have : decide (500 ≤ (o.messages.length : Int)) = true := by simp; omega
      rw [this, if_pos h5]; rfl
    · have : decide (500 ≤ (o.messages.length : Int)) = false := by simp; omega
      rw [this, if_neg h5]
      have hl : i.toNat < o.messages.length := by omega
      have e : idx o.messages i = some o.messages[i.toNat] := by rw [idx_pos hi.1]; exact List.getElem?_eq_getElem hl
      simp only [cond_false, e, Option.bind_some]
      rw [guardO_pos (by simp; omega), List.getElem?_eq_getElem hl]; rfl
  · simp only [if_neg hi]; rfl
theorem delOk_of {o : List Msg} {i : Int} (hi : 0 ≤ i ∧ i < o.length) (hm : o.length ≤ 501) : delOk o i (IntKind.i64.wrap (i + 1)) = true := by
  rw [q_wrap (by omega)]; unfold delOk; simp; omega
theorem delT_of {o : List Msg} {i : Int} (hi : 0 ≤ i ∧ i < o.length) (hm : o.length ≤ 501) : delT o i (IntKind.i64.wrap (i + 1)) = o.eraseIdx i.toNat := by
  rw [q_wrap (by omega)]; unfold delT
  have : (i + 1).toNat = i.toNat + 1 := by omega
  rw [this, List.eraseIdx_eq_take_drop_succ]
theorem Drop_eq {o : Net} (h : o.posts.length ≠ 0) (i : Int) (hm : o.messages.length ≤ 500) : m_post_Net_Drop_h o i = some (if 0 ≤ i ∧ i < o.messages.length then (0, ⟨o.posts, o.messages.eraseIdx i.toNat, o.calls, o.clock⟩) else (4, o)) := by
  unfold m_post_Net_Drop_h
  simp only [message_eq h, Option.bind_some]
  by_cases hi : 0 ≤ i ∧ i < o.messages.length
  · simp only [if_pos hi, not_true, decide_false, cond_false, guardO_pos (delOk_of hi (by omega)), delT_of hi (by omega)]
  · simp only [if_neg hi]; rfl
theorem turn_eq {o : Net} (h : o.posts.length ≠ 0) (k : Int) (up : Bool) : m_post_Net_turn_h o k up = some (if 0 ≤ k ∧ k < o.posts.length then (match o.posts[k.toNat]? with
    | none => ((9 : Int), o)
    | some e => if e.up = up then ((9 : Int), o) else ((0 : Int), (⟨o.posts.set k.toNat ⟨up, e.stamp, e.value, e.turns, none⟩, o.messages, o.calls, o.clock⟩ : Net))) else ((2 : Int), o)) := by
  unfold m_post_Net_turn_h
  simp only [at_eq h, Option.bind_some]
  by_cases hk : 0 ≤ k ∧ k < o.posts.length
  · have hl : k.toNat < o.posts.length := by omega
    have he : o.posts[k.toNat]? = some o.posts[k.toNat] := List.getElem?_eq_getElem hl
    have e3 : idx o.posts k = some o.posts[k.toNat] := by rw [idx_pos hk.1]; exact he
    simp only [if_pos hk, not_true, decide_false, cond_false, e3, he, Option.bind_some]
    generalize o.posts[k.toNat] = e
    obtain ⟨u, st, va, tu, wk⟩ := e
    cases u <;> cases up <;> cases wk <;> rfl
  · simp only [if_neg hk]; rfl
def deliverP (o : Net) (i : Nat) (m : Msg) (e : Pst) : Net :=
  if e.up then takeP ⟨o.posts, o.messages.eraseIdx i, o.calls, o.clock + 1⟩ m.To m e else ⟨o.posts, o.messages.eraseIdx i, o.calls, o.clock + 1⟩
theorem Deliver_no {o : Net} (h : o.posts.length ≠ 0) (i : Int) (hi : ¬ (0 ≤ i ∧ i < o.messages.length)) : m_post_Net_Deliver_h o i = some (4, o) := by
  unfold m_post_Net_Deliver_h
  simp only [message_eq h, Option.bind_some, if_neg hi]; rfl
theorem Deliver_eq {o : Net} (h : o.posts.length ≠ 0 ∧ o.posts.length ≤ 5) {i : Int} {m : Msg} {e : Pst} (hi : 0 ≤ i) (hmi : o.messages[i.toNat]? = some m) (hm : o.messages.length ≤ 501) (ht : 0 ≤ m.To) (he : o.posts[m.To.toNat]? = some e)
    (hc : 0 ≤ o.clock ∧ o.clock < 1000000000) (hf : 0 ≤ m.From ∧ m.From < o.posts.length) (hs : 0 ≤ m.Stamp.No ∧ m.Stamp.No < 1000000000) (hw : ∀ w, e.work = some w → WorkOk o w) :
    m_post_Net_Deliver_h o i = some (0, deliverP o i.toNat m e) := by
  have hl : i.toNat < o.messages.length := (List.getElem?_eq_some_iff.1 hmi).1
  have hi' : 0 ≤ i ∧ i < o.messages.length := by omega
  have e2 : idx o.messages i = some m := by rw [idx_pos hi]; exact hmi
  have e3 : idx o.posts m.To = some e := by rw [idx_pos ht]; exact he
  unfold m_post_Net_Deliver_h deliverP
  simp only [message_eq h.1, Option.bind_some, if_pos hi', not_true, decide_false, cond_false, e2, guardO_pos (delOk_of hi' hm), delT_of hi' hm, e3]
  rw [q_wrap (by omega)]
  cases hu : e.up
  · rfl
  · simp only [cond_true, if_true]
    rw [take_eq (o := ⟨o.posts, o.messages.eraseIdx i.toNat, o.calls, o.clock + 1⟩) (e := e) h.2 ht he hf hs (fun w hww => ⟨(hw w hww).len, (hw w hww).call, (hw w hww).no⟩)]
    rfl
end Go.Pv

namespace Go.Pv
def zeroS : Stamp := ⟨0, 0, 0⟩
abbrev Vals := List (Stamp × Int)
def CLe (C C' : List Cal) : Prop := ∀ (i : Nat) (y : Cal), C[i]? = some y → ∃ y' : Cal, C'[i]? = some y' ∧ y'.Write = y.Write ∧ y'.Post = y.Post ∧ (y.Write = true → y'.Value = y.Value)
theorem CLe.refl (C : List Cal) : CLe C C := fun i y h => ⟨y, h, rfl, rfl, fun _ => rfl⟩
theorem CLe.app (C D : List Cal) : CLe C (C ++ D) := fun i y h => ⟨y, by rw [List.getElem?_append_left (List.getElem?_eq_some_iff.1 h).1]; exact h, rfl, rfl, fun _ => rfl⟩
structure Iss (P : List Pst) (C : List Cal) (c : Int) (x : Stamp × Int) : Prop where
  no : 0 ≤ x.1.No ∧ x.1.No ≤ c
  src : x = (zeroS, 0) ∨ (1 ≤ x.1.Turn ∧ (∃ k : Nat, x.1.Post = k ∧ ∃ p : Pst, P[k]? = some p ∧ x.1.Turn ≤ p.turns) ∧ ∃ (i : Nat) (y : Cal), C[i]? = some y ∧ y.Write = true ∧ y.Post = x.1.Post ∧ y.Value = x.2)
structure WOk (n : Nat) (C : List Cal) (c : Int) (S : Vals) (k : Nat) (t : Int) (w : Work) : Prop where
  turn : w.turn = t
  one : 1 ≤ t
  len : w.answered.length = n
  call : 0 ≤ w.call ∧ ∃ y : Cal, C[w.call.toNat]? = some y ∧ y.Write = w.write ∧ (w.write = true → y.Post = k ∧ y.Value = w.value)
  no : 0 ≤ w.stamp.No ∧ w.stamp.No ≤ c
  new : w.write = true → w.puts = false → ∀ x ∈ S, ¬ (x.1.Post = k ∧ x.1.Turn = w.turn)
  old : (w.write = false ∨ w.puts = true) → (w.stamp, w.value) ∈ S
structure PstOk (n : Nat) (C : List Cal) (c : Int) (S : Vals) (k : Nat) (p : Pst) : Prop where
  val : (p.stamp, p.value) ∈ S
  turns : 0 ≤ p.turns ∧ p.turns ≤ c
  work : ∀ w, p.work = some w → WOk n C c S k p.turns w
structure MsgOk (n : Nat) (c : Int) (S : Vals) (m : Msg) : Prop where
  from' : 0 ≤ m.From ∧ m.From < n
  to : 0 ≤ m.To ∧ m.To < n
  no : 0 ≤ m.Stamp.No ∧ m.Stamp.No ≤ c
  val : m.Kind = 2 ∨ m.Kind = 3 → (m.Stamp, m.Value) ∈ S
structure Inv (P : List Pst) (ms : List Msg) (C : List Cal) (c : Int) (S : Vals) : Prop where
  n1 : 1 ≤ P.length
  n5 : P.length ≤ 5
  ml : ms.length ≤ 500
  cl : C.length ≤ 100
  c0 : 0 ≤ c
  fn : ∀ a ∈ S, ∀ b ∈ S, a.1 = b.1 → a.2 = b.2
  zero : (zeroS, (0 : Int)) ∈ S
  iss : ∀ x ∈ S, Iss P C c x
  pst : ∀ (k : Nat) (p : Pst), P[k]? = some p → PstOk P.length C c S k p
  msg : ∀ m ∈ ms, MsgOk P.length c S m
theorem Iss.mono {P P' C C' c c' x} (h : Iss P C c x) (hP : ∀ (k : Nat) (p : Pst), P[k]? = some p → ∃ p' : Pst, P'[k]? = some p' ∧ p.turns ≤ p'.turns) (hC : CLe C C') (hc : c ≤ c') : Iss P' C' c' x := by
  refine ⟨⟨h.no.1, Int.le_trans h.no.2 hc⟩, ?_⟩
  rcases h.src with h1 | ⟨h1, ⟨k, h2, p, h3, h4⟩, i, y, h5, h6, h7, h8⟩
  · exact .inl h1
  · obtain ⟨p', h9, h10⟩ := hP k p h3
    obtain ⟨y', h11, h12, h13, h14⟩ := hC i y h5
    exact .inr ⟨h1, ⟨k, h2, p', h9, Int.le_trans h4 h10⟩, i, y', h11, by rw [h12, h6], by rw [h13, h7], by rw [h14 h6, h8]⟩
theorem WOk.mono {n C C' c c' S S' k t w} (h : WOk n C c S k t w) (hC : CLe C C') (hc : c ≤ c') (hS : ∀ x ∈ S, x ∈ S') (hS' : ∀ x ∈ S', x ∈ S ∨ x.1.Post ≠ k) : WOk n C' c' S' k t w := by
  obtain ⟨h0, y, h1, h2, h3⟩ := h.call
  obtain ⟨y', h4, h5, h6, h7⟩ := hC _ y h1
  refine ⟨h.turn, h.one, h.len, ⟨h0, y', h4, by rw [h5, h2], fun hw => ⟨by rw [h6, (h3 hw).1], by rw [h7 (by rw [h2, hw]), (h3 hw).2]⟩⟩, ⟨h.no.1, Int.le_trans h.no.2 hc⟩, fun hw hp x hx hxx => ?_, fun hw => hS _ (h.old hw)⟩
  rcases hS' x hx with h8 | h8
  · exact h.new hw hp x h8 hxx
  · exact h8 hxx.1
theorem PstOk.mono {n C C' c c' S S' k p} (h : PstOk n C c S k p) (hC : CLe C C') (hc : c ≤ c') (hS : ∀ x ∈ S, x ∈ S') (hS' : ∀ x ∈ S', x ∈ S ∨ x.1.Post ≠ k) : PstOk n C' c' S' k p :=
  ⟨hS _ h.val, ⟨h.turns.1, Int.le_trans h.turns.2 hc⟩, fun w hw => (h.work w hw).mono hC hc hS hS'⟩
theorem MsgOk.mono {n c c' S S' m} (h : MsgOk n c S m) (hc : c ≤ c') (hS : ∀ x ∈ S, x ∈ S') : MsgOk n c' S' m :=
  ⟨h.from', h.to, ⟨h.no.1, Int.le_trans h.no.2 hc⟩, fun hk => hS _ (h.val hk)⟩
structure Up (P : List Pst) (S : Vals) (P' : List Pst) (S' : Vals) : Prop where
  len : P'.length = P.length
  sub : ∀ x ∈ S, x ∈ S'
  st : ∀ (k : Nat) (p p' : Pst), P[k]? = some p → P'[k]? = some p' → gtS p.stamp p'.stamp = false
theorem gt_self' (s : Stamp) : gtS s s = false := by unfold gtS; simp
theorem gt_trans {a b c : Stamp} (h1 : gtS a b = false) (h2 : gtS b c = false) : gtS a c = false := by
  unfold gtS at *
  rw [decide_eq_false_iff_not] at *
  omega
theorem gt_asym {a b : Stamp} (h : gtS a b = true) : gtS b a = false := by
  unfold gtS at *
  rw [decide_eq_true_eq] at h
  rw [decide_eq_false_iff_not]
  omega
theorem Up.refl (P : List Pst) (S : Vals) : Up P S P S := ⟨rfl, fun _ h => h, fun k p p' h h' => by rw [h] at h'; cases h'; exact gt_self' _⟩
theorem Up.trans {P S P' S' P2 S2} (h : Up P S P' S') (h' : Up P' S' P2 S2) : Up P S P2 S2 := by
  refine ⟨by rw [h'.len, h.len], fun x hx => h'.sub _ (h.sub _ hx), fun k p p' hp hp' => ?_⟩
  have hl : k < P'.length := by rw [h.len]; exact (List.getElem?_eq_some_iff.1 hp).1
  exact gt_trans (h.st k p _ hp (List.getElem?_eq_getElem hl)) (h'.st k _ p' (List.getElem?_eq_getElem hl) hp')
theorem set_cases {P : List Pst} {k j : Nat} {e p : Pst} (h : (P.set k e)[j]? = some p) : (j = k ∧ p = e ∧ k < P.length) ∨ (j ≠ k ∧ P[j]? = some p) := by
  rw [List.getElem?_set] at h
  split at h
  · next hk =>
    split at h
    · cases h; exact .inl ⟨hk.symm, rfl, by assumption⟩
    · cases h
  · next hk => exact .inr ⟨fun h' => hk h'.symm, h⟩
theorem Inv.step {P ms C c S} (h : Inv P ms C c S) {k : Nat} {e p' : Pst} {ms' : List Msg} {C' : List Cal} {c' : Int} {S' : Vals} (he : P[k]? = some e) (ht : e.turns ≤ p'.turns) (hst : gtS e.stamp p'.stamp = false) (hC : CLe C C') (hCl : C'.length ≤ 100)
    (hc : c ≤ c') (hS : ∀ x ∈ S, x ∈ S') (hS' : ∀ x ∈ S', x ∈ S ∨ (x.1.Post = k ∧ Iss (P.set k p') C' c' x)) (hf : ∀ a ∈ S', ∀ b ∈ S', a.1 = b.1 → a.2 = b.2) (hp : PstOk P.length C' c' S' k p') (hm : ∀ m ∈ ms', MsgOk P.length c' S' m) (hml : ms'.length ≤ 500) :
    Inv (P.set k p') ms' C' c' S' ∧ Up P S (P.set k p') S' := by
  have hk : k < P.length := (List.getElem?_eq_some_iff.1 he).1
  have hP : ∀ (j : Nat) (p : Pst), P[j]? = some p → ∃ p2 : Pst, (P.set k p')[j]? = some p2 ∧ p.turns ≤ p2.turns := by
    intro j p hj
    by_cases hjk : j = k
    · subst hjk
      rw [he] at hj; cases hj
      exact ⟨p', by rw [List.getElem?_set, if_pos rfl, if_pos hk], ht⟩
    · exact ⟨p, by rw [List.getElem?_set, if_neg (fun h => hjk h.symm)]; exact hj, Int.le_refl _⟩
  refine ⟨⟨by simpa using h.n1, by simpa using h.n5, hml, hCl, Int.le_trans h.c0 hc, hf, hS _ h.zero, fun x hx => ?_, fun j p hj => ?_, fun m hmm => by simpa using hm m hmm⟩, ⟨by simp, hS, fun j p p2 hj hj2 => ?_⟩⟩
  · rcases hS' x hx with h1 | h1
    · exact (h.iss x h1).mono hP hC hc
    · exact h1.2
  · rw [List.length_set]
    rcases set_cases hj with ⟨rfl, rfl, _⟩ | ⟨hjk, hj'⟩
    · exact hp
    · refine (h.pst j p hj').mono hC hc hS (fun x hx => ?_)
      rcases hS' x hx with h1 | h1
      · exact .inl h1
      · exact .inr (by rw [h1.1]; omega)
  · rcases set_cases hj2 with ⟨rfl, rfl, _⟩ | ⟨hjk, hj'⟩
    · rw [he] at hj; cases hj; exact hst
    · rw [hj] at hj'; cases hj'; exact gt_self' _
theorem Inv.msgs {P ms C c S} (h : Inv P ms C c S) {ms' : List Msg} {c' : Int} (hc : c ≤ c') (hm : ∀ m ∈ ms', MsgOk P.length c' S m) (hml : ms'.length ≤ 500) : Inv P ms' C c' S ∧ Up P S P S := by
  have hk : 0 < P.length := h.n1
  have he := List.getElem?_eq_getElem hk
  have := h.step (k := 0) (p' := P[0]) (ms' := ms') (c' := c') (S' := S) he (Int.le_refl _) (gt_self' _) (CLe.refl C) h.cl hc (fun _ h => h) (fun x hx => .inl hx) h.fn ((h.pst 0 _ he).mono (CLe.refl C) hc (fun _ h => h) (fun x hx => .inl hx)) hm hml
  rw [set_self he] at this
  exact this
theorem sendM_mem {ms : List Msg} {m x : Msg} (h : x ∈ sendM ms m) : x ∈ ms ∨ x = m := by
  unfold sendM at h
  split at h
  · simpa using h
  · exact .inl h
theorem sendM_len {ms : List Msg} {m : Msg} (h : ms.length ≤ 500) : (sendM ms m).length ≤ 500 := by
  unfold sendM; split
  · simp; omega
  · exact h
theorem toAll_mem {m x : Msg} : ∀ (k : Nat) (i : Int) (ms : List Msg), x ∈ toAll m k i ms → x ∈ ms ∨ ∃ j, i ≤ j ∧ j < i + k ∧ x = ⟨m.Kind, m.From, j, m.Turn, m.Stamp, m.Value⟩
  | 0, _, _, h => .inl h
  | k + 1, i, ms, h => by
    rcases toAll_mem k (i + 1) _ h with h | ⟨j, h1, h2, h3⟩
    · rcases sendM_mem h with h | h
      · exact .inl h
      · exact .inr ⟨i, by omega, by omega, h⟩
    · exact .inr ⟨j, by omega, by omega, h3⟩
theorem toAll_len {m : Msg} : ∀ (k : Nat) (i : Int) (ms : List Msg), ms.length ≤ 500 → (toAll m k i ms).length ≤ 500
  | 0, _, _, h => h
  | k + 1, i, _, h => toAll_len k (i + 1) _ (sendM_len h)
theorem begin_inv {P ms C c S} (h : Inv P ms C c S) {k : Int} {write : Bool} {value : Int} {e : Pst} (h0 : 0 ≤ k) (he : P[k.toNat]? = some e) (hv : write = false → value = 0) :
    Inv (beginP ⟨P, ms, C, c⟩ k write value e).2.posts (beginP ⟨P, ms, C, c⟩ k write value e).2.messages (beginP ⟨P, ms, C, c⟩ k write value e).2.calls (beginP ⟨P, ms, C, c⟩ k write value e).2.clock S ∧
    Up P S (beginP ⟨P, ms, C, c⟩ k write value e).2.posts S ∧ (beginP ⟨P, ms, C, c⟩ k write value e).2.clock ≤ c + 1 := by
  unfold beginP
  split
  · exact ⟨h, Up.refl _ _, by simp only; omega⟩
  split
  · exact ⟨h, Up.refl _ _, by simp only; omega⟩
  next hfull =>
  have hk : k.toNat < P.length := (List.getElem?_eq_some_iff.1 he).1
  have hpe := h.pst _ e he
  have hc0 := h.c0
  simp only at hfull
  have hz : Iss P C c (zeroS, 0) := h.iss _ h.zero
  unfold beginN
  simp only
  rw [← and_assoc]
  refine ⟨h.step (k := k.toNat) (e := e) he (by simp only; omega) (gt_self' _) (CLe.app _ _) (by simp; omega) (by omega) (fun _ h => h) (fun x hx => .inl hx) h.fn ?_ ?_ (toAll_len _ _ _ h.ml), by omega⟩
  · refine ⟨hpe.val, by have := hpe.turns; simp only; omega, fun w hw => ?_⟩
    cases hw
    have ht := hpe.turns
    refine ⟨rfl, by simp only; omega, by simp, ⟨by simp only; omega, _, by simp; rfl, rfl, fun hw => ⟨by simp only; omega, by simp only; rw [if_pos hw]⟩⟩, by simp only; omega, fun hw hp x hx hxx => ?_, fun hw => ?_⟩
    · simp only at hxx
      rcases (h.iss x hx).src with h1 | ⟨h1, ⟨j, h2, p, h3, h4⟩, _⟩
      · rw [h1] at hxx; simp only [zeroS] at hxx; omega
      · have : j = k.toNat := by omega
        subst this
        rw [he] at h3; cases h3
        omega
    · simp only at hw
      rcases hw with hw | hw
      · simp only [hv hw]; exact h.zero
      · cases hw
  · intro m hm
    rcases toAll_mem _ _ _ hm with hm | ⟨j, h1, h2, rfl⟩
    · exact (h.msg m hm).mono (by omega) (fun _ h => h)
    · refine ⟨by simp only; omega, by simp only; omega, by simp only; omega, fun hk => ?_⟩
      simp only at hk
      omega
end Go.Pv

namespace Go.Pv
def Next (P : List Pst) (S : Vals) (o : Net) (c : Int) : Prop := ∃ S', Inv o.posts o.messages o.calls o.clock S' ∧ Up P S o.posts S' ∧ o.clock ≤ c
theorem Next.same {P ms C c S} (h : Inv P ms C c S) : Next P S ⟨P, ms, C, c⟩ c := ⟨S, h, Up.refl _ _, Int.le_refl _⟩
theorem Next.msgs {P ms C c S ms' c'} (h : Inv P ms C c S) (hc : c ≤ c') (hm : ∀ m ∈ ms', MsgOk P.length c' S m) (hml : ms'.length ≤ 500) : Next P S ⟨P, ms', C, c'⟩ c' :=
  have := h.msgs hc hm hml
  ⟨S, this.1, this.2, Int.le_refl _⟩
theorem workUp_no {w : Work} {m : Msg} {c : Int} (hw : 0 ≤ w.stamp.No ∧ w.stamp.No ≤ c) (hm : 0 ≤ m.Stamp.No ∧ m.Stamp.No ≤ c) : 0 ≤ (workUp w m).stamp.No ∧ (workUp w m).stamp.No ≤ c := by
  unfold workUp; dsimp only; split <;> assumption
theorem workUp_val {w : Work} {m : Msg} {S : Vals} (hr : w.write = false) (hw : (w.stamp, w.value) ∈ S) (hm : (m.Stamp, m.Value) ∈ S) : ((workUp w m).stamp, (workUp w m).value) ∈ S := by
  unfold workUp; dsimp only; rw [hr]
  cases gtS m.Stamp w.stamp
  · exact hw
  · exact hm
theorem told_inv {P ms C c S} (h : Inv P ms C c S) {m : Msg} {e : Pst} {w : Work} (hm : MsgOk P.length c S m) (he : P[m.To.toNat]? = some e) (hw : e.work = some w) (hk : m.Kind = 2) :
    Next P S (toldW ⟨P, ms, C, c + 1⟩ m.To m e w) (c + 1) := by
  have hmv := hm.val (.inl hk)
  have hto := hm.to
  have hpe := h.pst _ e he
  have hwk := hpe.work w hw
  have hkl : m.To.toNat < P.length := (List.getElem?_eq_some_iff.1 he).1
  have hms : ∀ x ∈ ms, MsgOk P.length (c + 1) S x := fun x hx => (h.msg x hx).mono (by omega) (fun _ h => h)
  have hun := workUp_no hwk.no hm.no
  unfold toldW
  split
  · next hcond =>
    split
    · next hy =>
      -- the second phase begins
      simp only
      cases hwr : w.write
      · -- a read: nothing new is said
        have hst : stampOf (workUp w m) m.To = (workUp w m).stamp := by unfold stampOf; rw [show (workUp w m).write = w.write from rfl, hwr]; rfl
        have hval := workUp_val hwr (hwk.old (.inl hwr)) hmv
        rw [hst]
        have := h.step (k := m.To.toNat) (e := e) (p' := ⟨e.up, e.stamp, e.value, e.turns, some ⟨w.turn, w.call, false, true, (workUp w m).stamp, (workUp w m).value, List.replicate P.length false⟩⟩)
          (ms' := toAll ⟨3, m.To, 0, w.turn, (workUp w m).stamp, (workUp w m).value⟩ P.length 0 ms) (C' := C) (c' := c + 1) (S' := S) he (Int.le_refl _) (gt_self' _) (CLe.refl _) h.cl (by omega) (fun _ h => h) (fun x hx => .inl hx) h.fn ?_ ?_ (toAll_len _ _ _ h.ml)
        · exact ⟨S, this.1, this.2, Int.le_refl _⟩
        · refine ⟨hpe.val, by have := hpe.turns; simp only; omega, fun w' hw' => ?_⟩
          cases hw'
          obtain ⟨hc0, y, hc1, hc2, hc3⟩ := hwk.call
          exact ⟨hwk.turn, hwk.one, by simp, ⟨hc0, y, hc1, by rw [hc2, hwr], fun hh => by simp at hh⟩, ⟨hun.1, by simp only; omega⟩, fun _ hh => by simp at hh, fun _ => hval⟩
        · intro x hx
          rcases toAll_mem _ _ _ hx with hx | ⟨j, h1, h2, rfl⟩
          · exact hms x hx
          · exact ⟨hto, by simp only; omega, ⟨hun.1, by simp only; omega⟩, fun _ => hval⟩
      · -- a write: its stamp is new
        have hst : stampOf (workUp w m) m.To = ⟨(workUp w m).stamp.No + 1, m.To, w.turn⟩ := by unfold stampOf; rw [show (workUp w m).write = w.write from rfl, hwr]; rfl
        have hva : (workUp w m).value = w.value := by unfold workUp; dsimp only; rw [hwr]; simp
        rw [hst, hva]
        have hp0 : w.puts = false := hcond.2.1
        have hnew := hwk.new hwr hp0
        obtain ⟨hc0, y, hc1, hc2, hc3⟩ := hwk.call
        have hone := hwk.one
        have htu := hwk.turn
        have hnot : ∀ v, (⟨(workUp w m).stamp.No + 1, m.To, w.turn⟩, v) ∉ S := fun v hv => hnew _ hv ⟨by simp only; omega, rfl⟩
        have := h.step (k := m.To.toNat) (e := e) (p' := ⟨e.up, e.stamp, e.value, e.turns, some ⟨w.turn, w.call, true, true, ⟨(workUp w m).stamp.No + 1, m.To, w.turn⟩, w.value, List.replicate P.length false⟩⟩)
          (ms' := toAll ⟨3, m.To, 0, w.turn, ⟨(workUp w m).stamp.No + 1, m.To, w.turn⟩, w.value⟩ P.length 0 ms) (C' := C) (c' := c + 1) (S' := (⟨(workUp w m).stamp.No + 1, m.To, w.turn⟩, w.value) :: S) he (Int.le_refl _) (gt_self' _) (CLe.refl _) h.cl (by omega) (fun _ h => List.mem_cons_of_mem _ h) ?_ ?_ ?_ ?_ (toAll_len _ _ _ h.ml)
        · exact ⟨_, this.1, this.2, Int.le_refl _⟩
        · intro x hx
          rcases List.mem_cons.1 hx with rfl | hx
          · right
            refine ⟨by simp only; omega, ⟨by simp only; omega, .inr ⟨by simp only; omega, ⟨m.To.toNat, by simp only; omega, _, by rw [List.getElem?_set, if_pos rfl, if_pos hkl], by simp only; omega⟩, _, y, hc1, by rw [hc2, hwr], ?_, (hc3 hwr).2⟩⟩⟩
            simp only; rw [(hc3 hwr).1]; omega
          · exact .inl hx
        · intro a ha b hb hab
          rcases List.mem_cons.1 ha with rfl | ha <;> rcases List.mem_cons.1 hb with rfl | hb
          · rfl
          · exact absurd (by rw [show b = (b.1, b.2) from rfl, ← hab] at hb; exact hb) (hnot b.2)
          · exact absurd (by rw [show a = (a.1, a.2) from rfl, hab] at ha; exact ha) (hnot a.2)
          · exact h.fn a ha b hb hab
        · refine ⟨List.mem_cons_of_mem _ hpe.val, by have := hpe.turns; simp only; omega, fun w' hw' => ?_⟩
          cases hw'
          exact ⟨hwk.turn, hwk.one, by simp, ⟨hc0, y, hc1, by rw [hc2, hwr], fun hh => hc3 hwr⟩, ⟨by simp only; omega, by simp only; omega⟩, fun _ hh => by simp at hh, fun _ => List.mem_cons_self⟩
        · intro x hx
          rcases toAll_mem _ _ _ hx with hx | ⟨j, h1, h2, rfl⟩
          · exact (hms x hx).mono (Int.le_refl _) (fun _ h => List.mem_cons_of_mem _ h)
          · exact ⟨hto, by simp only; omega, ⟨by simp only; omega, by simp only; omega⟩, fun _ => List.mem_cons_self⟩
    · -- one more answer
      have := h.step (k := m.To.toNat) (e := e) (p' := ⟨e.up, e.stamp, e.value, e.turns, some (workUp w m)⟩) (ms' := ms) (C' := C) (c' := c + 1) (S' := S) he (Int.le_refl _) (gt_self' _) (CLe.refl _) h.cl (by omega) (fun _ h => h) (fun x hx => .inl hx) h.fn ?_ hms h.ml
      · exact ⟨S, this.1, this.2, Int.le_refl _⟩
      · refine ⟨hpe.val, by have := hpe.turns; simp only; omega, fun w' hw' => ?_⟩
        cases hw'
        obtain ⟨hc0, y, hc1, hc2, hc3⟩ := hwk.call
        refine ⟨hwk.turn, hwk.one, by simp [workUp, hwk.len], ⟨hc0, y, hc1, hc2, fun hh => ⟨(hc3 hh).1, ?_⟩⟩, ⟨hun.1, by omega⟩, fun hh _ => hwk.new hh hcond.2.1, fun hh => ?_⟩
        · rw [(hc3 hh).2]
          have hh' : w.write = true := hh
          unfold workUp; dsimp only; rw [hh']; simp
        · rcases hh with hh | hh
          · exact workUp_val hh (hwk.old (.inl hh)) hmv
          · cases hh
  · exact Next.msgs (c' := c + 1) h (by omega) hms h.ml
theorem ack_inv {P ms C c S} (h : Inv P ms C c S) {m : Msg} {e : Pst} {w : Work} (hm : MsgOk P.length c S m) (he : P[m.To.toNat]? = some e) (hw : e.work = some w) :
    Next P S (ackW ⟨P, ms, C, c + 1⟩ m.To m e w) (c + 1) := by
  have hto := hm.to
  have hpe := h.pst _ e he
  have hwk := hpe.work w hw
  have hkl : m.To.toNat < P.length := (List.getElem?_eq_some_iff.1 he).1
  have hms : ∀ x ∈ ms, MsgOk P.length (c + 1) S x := fun x hx => (h.msg x hx).mono (by omega) (fun _ h => h)
  obtain ⟨hc0, y, hc1, hc2, hc3⟩ := hwk.call
  unfold ackW
  split
  · next hcond =>
    split
    · -- the call ends
      simp only [hc1, Option.getD_some]
      have hcl : w.call.toNat < C.length := (List.getElem?_eq_some_iff.1 hc1).1
      have := h.step (k := m.To.toNat) (e := e) (p' := ⟨e.up, e.stamp, e.value, e.turns, none⟩) (ms' := ms) (C' := C.set w.call.toNat ⟨y.Post, y.Write, w.value, y.Start, c + 1⟩) (c' := c + 1) (S' := S) he (Int.le_refl _) (gt_self' _) ?_ (by simp; exact h.cl) (by omega) (fun _ h => h) (fun x hx => .inl hx) h.fn ?_ hms h.ml
      · exact ⟨S, this.1, this.2, Int.le_refl _⟩
      · intro i z hz
        by_cases hi : i = w.call.toNat
        · subst hi
          rw [hc1] at hz; cases hz
          refine ⟨⟨y.Post, y.Write, w.value, y.Start, c + 1⟩, by rw [List.getElem?_set, if_pos rfl, if_pos hcl], rfl, rfl, fun hh => ?_⟩
          exact (hc3 (by rw [← hc2, hh])).2.symm
        · exact ⟨z, by rw [List.getElem?_set, if_neg (fun h => hi h.symm)]; exact hz, rfl, rfl, fun _ => rfl⟩
      · exact ⟨hpe.val, by have := hpe.turns; simp only; omega, fun w' hw' => by cases hw'⟩
    · have := h.step (k := m.To.toNat) (e := e) (p' := ⟨e.up, e.stamp, e.value, e.turns, some { w with answered := w.answered.set m.From.toNat true }⟩) (ms' := ms) (C' := C) (c' := c + 1) (S' := S) he (Int.le_refl _) (gt_self' _) (CLe.refl _) h.cl (by omega) (fun _ h => h) (fun x hx => .inl hx) h.fn ?_ hms h.ml
      · exact ⟨S, this.1, this.2, Int.le_refl _⟩
      · refine ⟨hpe.val, by have := hpe.turns; simp only; omega, fun w' hw' => ?_⟩
        cases hw'
        exact ⟨hwk.turn, hwk.one, by simp [hwk.len], ⟨hc0, y, hc1, hc2, hc3⟩, ⟨hwk.no.1, by have := hwk.no.2; simp only; omega⟩, hwk.new, hwk.old⟩
  · exact Next.msgs (c' := c + 1) h (by omega) hms h.ml
theorem take_inv {P ms C c S} (h : Inv P ms C c S) {m : Msg} {e : Pst} (hm : MsgOk P.length c S m) (he : P[m.To.toNat]? = some e) :
    Next P S (takeP ⟨P, ms, C, c + 1⟩ m.To m e) (c + 1) := by
  have hpe := h.pst _ e he
  have hms : ∀ x ∈ ms, MsgOk P.length (c + 1) S x := fun x hx => (h.msg x hx).mono (by omega) (fun _ h => h)
  have hc0 := h.c0
  have hno := (h.iss _ hpe.val).no
  simp only at hno
  unfold takeP
  split
  · refine Next.msgs (c' := c + 1) h (by omega) (fun x hx => ?_) (sendM_len h.ml)
    rcases sendM_mem hx with hx | rfl
    · exact hms x hx
    · exact ⟨hm.to, hm.from', by simp only; omega, fun _ => hpe.val⟩
  split
  · next hk =>
    split
    · exact Next.msgs (c' := c + 1) h (by omega) hms h.ml
    · next w hw => exact told_inv h hm he hw hk
  split
  · next hk =>
    have hmv := hm.val (.inr hk)
    have hack : ∀ x ∈ sendM ms ⟨4, m.To, m.From, m.Turn, ⟨0, 0, 0⟩, 0⟩, MsgOk P.length (c + 1) S x := by
      intro x hx
      rcases sendM_mem hx with hx | rfl
      · exact hms x hx
      · exact ⟨hm.to, hm.from', by simp only; omega, fun hk => by simp only at hk; omega⟩
    cases hg : gtS m.Stamp e.stamp
    · exact Next.msgs (c' := c + 1) h (by omega) hack (sendM_len h.ml)
    · have := h.step (k := m.To.toNat) (e := e) (p' := ⟨e.up, m.Stamp, m.Value, e.turns, e.work⟩) (ms' := sendM ms ⟨4, m.To, m.From, m.Turn, ⟨0, 0, 0⟩, 0⟩) (C' := C) (c' := c + 1) (S' := S) he (Int.le_refl _) (gt_asym hg) (CLe.refl _) h.cl (by omega) (fun _ h => h) (fun x hx => .inl hx) h.fn ?_ hack (sendM_len h.ml)
      · exact ⟨S, this.1, this.2, Int.le_refl _⟩
      · exact ⟨hmv, by have := hpe.turns; simp only; omega, fun w' hw' => (hpe.work w' hw').mono (CLe.refl _) (by omega) (fun _ h => h) (fun x hx => .inl hx)⟩
  split
  · split
    · exact Next.msgs (c' := c + 1) h (by omega) hms h.ml
    · next w hw => exact ack_inv h hm he hw
  · exact Next.msgs (c' := c + 1) h (by omega) hms h.ml
end Go.Pv

namespace Go.Pv
abbrev InvN (o : Net) (S : Vals) : Prop := Inv o.posts o.messages o.calls o.clock S
theorem InvN.ne {o : Net} {S} (h : InvN o S) : o.posts.length ≠ 0 := by have := h.n1; omega
theorem Next.more {P S o c c'} (h : Next P S o c) (hc : c ≤ c') : Next P S o c' := by
  obtain ⟨S', h1, h2, h3⟩ := h
  exact ⟨S', h1, h2, Int.le_trans h3 hc⟩
theorem Next.self {o : Net} {S c} (h : InvN o S) (hc : o.clock ≤ c) : Next o.posts S o c := ⟨S, h, Up.refl _ _, hc⟩
theorem workOk_of {o : Net} {S : Vals} {k : Nat} {e : Pst} {w : Work} (h : InvN o S) (hc : o.clock < 500000000) (he : o.posts[k]? = some e) (hw : e.work = some w) : WorkOk o w := by
  have hk := (h.pst k e he).work w hw
  obtain ⟨h0, y, h1, _⟩ := hk.call
  have := (List.getElem?_eq_some_iff.1 h1).1
  have := hk.no
  exact ⟨hk.len, by omega, by omega⟩
theorem begin_ok {o : Net} {S} (h : InvN o S) (hc : o.clock < 500000000) {k : Int} (hk : 0 ≤ k ∧ k < o.posts.length) {write : Bool} {value : Int} (hv : write = false → value = 0) :
    ∃ r, m_post_Net_begin_h o k write value = some r ∧ Next o.posts S r.2 (o.clock + 1) := by
  have hl : k.toNat < o.posts.length := by omega
  have he : o.posts[k.toNat]? = some o.posts[k.toNat] := List.getElem?_eq_getElem hl
  have ht := (h.pst _ _ he).turns
  have h0 := h.c0
  refine ⟨_, begin_eq h.n5 h.ml hk.1 he (by omega) (by omega), ?_⟩
  have := begin_inv (P := o.posts) (ms := o.messages) (C := o.calls) (c := o.clock) (write := write) h hk.1 he hv
  exact ⟨S, this.1, this.2.1, this.2.2⟩
theorem Write_ok {o : Net} {S} (h : InvN o S) (hc : o.clock < 500000000) (k v : Int) : ∃ r, m_post_Net_Write_h o k v = some r ∧ Next o.posts S r.2 (o.clock + 1) := by
  rw [Write_eq h.ne]
  split
  · next hk =>
    split
    · exact begin_ok h hc hk (fun h => by cases h)
    · exact ⟨_, rfl, Next.self h (by omega)⟩
  · exact ⟨_, rfl, Next.self h (by omega)⟩
theorem Read_ok {o : Net} {S} (h : InvN o S) (hc : o.clock < 500000000) (k : Int) : ∃ r, m_post_Net_Read_h o k = some r ∧ Next o.posts S r.2 (o.clock + 1) := by
  rw [Read_eq h.ne]
  split
  · next hk => exact begin_ok h hc hk (fun _ => rfl)
  · exact ⟨_, rfl, Next.self h (by omega)⟩
theorem erase_ok {n c S} {ms : List Msg} (h : ∀ m ∈ ms, MsgOk n c S m) (i : Nat) : ∀ m ∈ ms.eraseIdx i, MsgOk n c S m := fun m hm => h m (List.mem_of_mem_eraseIdx hm)
theorem Drop_ok {o : Net} {S} (h : InvN o S) (i : Int) : ∃ r, m_post_Net_Drop_h o i = some r ∧ Next o.posts S r.2 o.clock := by
  rw [Drop_eq h.ne i h.ml]
  split
  · exact ⟨_, rfl, Next.msgs h (Int.le_refl _) (erase_ok h.msg _) (by have := h.ml; rw [List.length_eraseIdx]; split <;> omega)⟩
  · exact ⟨_, rfl, Next.self h (Int.le_refl _)⟩
theorem Repeat_ok {o : Net} {S} (h : InvN o S) (i : Int) : ∃ r, m_post_Net_Repeat_h o i = some r ∧ Next o.posts S r.2 o.clock := by
  rw [Repeat_eq h.ne i h.ml]
  split
  · next hi =>
    split
    · exact ⟨_, rfl, Next.self h (Int.le_refl _)⟩
    · refine ⟨_, rfl, Next.msgs h (Int.le_refl _) (fun m hm => ?_) (by simp; omega)⟩
      have hl : i.toNat < o.messages.length := by omega
      rcases List.mem_append.1 hm with hm | hm
      · exact h.msg m hm
      · rw [List.mem_singleton] at hm
        rw [hm, List.getElem?_eq_getElem hl]
        exact h.msg _ (List.getElem_mem hl)
  · exact ⟨_, rfl, Next.self h (Int.le_refl _)⟩
theorem Deliver_ok {o : Net} {S} (h : InvN o S) (hc : o.clock < 500000000) (i : Int) : ∃ r, m_post_Net_Deliver_h o i = some r ∧ Next o.posts S r.2 (o.clock + 1) := by
  by_cases hi : 0 ≤ i ∧ i < o.messages.length
  · have hl : i.toNat < o.messages.length := by omega
    have hm : o.messages[i.toNat]? = some o.messages[i.toNat] := List.getElem?_eq_getElem hl
    have hmo := h.msg _ (List.getElem_mem hl)
    generalize o.messages[i.toNat] = m at hm hmo
    have hto := hmo.to
    have hno := hmo.no
    have hkl : m.To.toNat < o.posts.length := by omega
    have he : o.posts[m.To.toNat]? = some o.posts[m.To.toNat] := List.getElem?_eq_getElem hkl
    generalize o.posts[m.To.toNat] = e at he
    have h0 := h.c0
    have hml := h.ml
    refine ⟨_, Deliver_eq ⟨h.ne, h.n5⟩ hi.1 hm (by omega) hto.1 he (by omega) hmo.from' (by omega) (fun w hw => workOk_of h hc he hw), ?_⟩
    have hel : (o.messages.eraseIdx i.toNat).length ≤ 500 := by rw [List.length_eraseIdx]; split <;> omega
    have h' := (Inv.msgs (P := o.posts) (C := o.calls) (c := o.clock) (c' := o.clock) h (Int.le_refl _) (erase_ok h.msg i.toNat) hel).1
    simp only
    unfold deliverP
    split
    · exact take_inv h' hmo he
    · exact Next.msgs h (by omega) (fun m hm => (erase_ok h.msg _ m hm).mono (by omega) (fun _ h => h)) hel
  · exact ⟨_, Deliver_no h.ne i hi, Next.self h (by omega)⟩
def Same (P P' : List Pst) : Prop := ∀ (k : Nat) (p p' : Pst), P[k]? = some p → P'[k]? = some p' → p'.stamp = p.stamp
theorem turn_ok {o : Net} {S} (h : InvN o S) (k : Int) (up : Bool) : ∃ r, m_post_Net_turn_h o k up = some r ∧ Next o.posts S r.2 o.clock ∧ Same o.posts r.2.posts := by
  have hself : Same o.posts o.posts := fun k p p' h1 h2 => by rw [h1] at h2; cases h2; rfl
  rw [turn_eq h.ne]
  split
  · next hk =>
    have hl : k.toNat < o.posts.length := by omega
    have he : o.posts[k.toNat]? = some o.posts[k.toNat] := List.getElem?_eq_getElem hl
    generalize o.posts[k.toNat] = e at he
    simp only [he]
    split
    · exact ⟨_, rfl, Next.self h (Int.le_refl _), hself⟩
    · have hpe := h.pst _ e he
      have := Inv.step (P := o.posts) (C := o.calls) (c := o.clock) h (k := k.toNat) (e := e) (p' := ⟨up, e.stamp, e.value, e.turns, none⟩) (ms' := o.messages) (C' := o.calls) (c' := o.clock) (S' := S) he (Int.le_refl _) (gt_self' _) (CLe.refl _) h.cl (Int.le_refl _) (fun _ h => h) (fun x hx => .inl hx) h.fn ⟨hpe.val, hpe.turns, fun w hw => by cases hw⟩ h.msg h.ml
      refine ⟨_, rfl, ⟨S, this.1, this.2, Int.le_refl _⟩, fun j p p' h1 h2 => ?_⟩
      rcases set_cases h2 with ⟨rfl, rfl, _⟩ | ⟨_, h3⟩
      · rw [he] at h1; cases h1; rfl
      · rw [h1] at h3; cases h3; rfl
  · exact ⟨_, rfl, Next.self h (Int.le_refl _), hself⟩
theorem Settle_loop {lim : Int} (hl : lim ≤ 100000) {P0 : List Pst} {S0 : Vals} {c0 : Int} (hc0 : c0 < 400000000) : ∀ (k : Nat) (n : Int) (o : Net), k = (lim - n).toNat → 0 ≤ n → Next P0 S0 o (c0 + n) →
    ∃ r, iter (m_post_Net_Settle_h_l1 lim) (n, o.clock, o.posts, o.messages, o.calls) = some r ∧ (r.1 ≤ lim ∨ r.1 ≤ n) ∧ Next P0 S0 ⟨r.2.2.1, r.2.2.2.1, r.2.2.2.2, r.2.1⟩ (c0 + r.1)
  | 0, n, o, hk, hn, h => by
    refine ⟨(n, o.clock, o.posts, o.messages, o.calls), iter_done ?_, .inr (Int.le_refl _), h⟩
    have : decide (n < lim) = false := by simp; omega
    simp only [m_post_Net_Settle_h_l1, this, Bool.false_and, cond_false]
  | k + 1, n, o, hk, hn, h => by
    by_cases hm : 0 < o.messages.length
    · obtain ⟨S', h1, h2, h3⟩ := h
      obtain ⟨r, hr, hnx⟩ := Deliver_ok (o := o) h1 (by omega) 0
      have hnx' : Next P0 S0 r.2 (c0 + (n + 1)) := by
        obtain ⟨S2, h4, h5, h6⟩ := hnx
        exact ⟨S2, h4, h2.trans h5, by omega⟩
      obtain ⟨r2, hr2, hb, hq⟩ := Settle_loop hl hc0 k (n + 1) r.2 (by omega) (by omega) hnx'
      refine ⟨r2, iter_step ?_ hr2, by omega, hq⟩
      have c1 : (decide (n < lim) && decide (0 < (o.messages.length : Int))) = true := by simp; omega
      simp only [m_post_Net_Settle_h_l1, c1, cond_true]
      have ho : (⟨o.posts, o.messages, o.calls, o.clock⟩ : Net) = o := rfl
      rw [ho, hr]
      simp only [Option.bind_some]
      rw [q_wrap (by omega)]
    · refine ⟨(n, o.clock, o.posts, o.messages, o.calls), iter_done ?_, .inr (Int.le_refl _), h⟩
      have : decide (0 < (o.messages.length : Int)) = false := by rw [decide_eq_false_iff_not]; omega
      simp only [m_post_Net_Settle_h_l1, this, Bool.and_false, cond_false]
theorem Settle_ok {o : Net} {S} (h : InvN o S) (hc : o.clock < 400000000) (lim : Int) : ∃ r, m_post_Net_Settle_h o lim = some r ∧ Next o.posts S r.2.2 (o.clock + 100000) := by
  unfold m_post_Net_Settle_h
  rw [ok_eq h.ne]
  simp only [Option.bind_some, Bool.not_true, cond_false]
  by_cases hl : 0 ≤ lim ∧ lim ≤ 100000
  · have : (decide (lim < 0) || decide (100000 < lim)) = false := by simp; omega
    rw [this]
    obtain ⟨r, hr, hb, hn⟩ := Settle_loop hl.2 hc lim.toNat 0 o (by omega) (Int.le_refl _) (Next.self h (by omega))
    simp only [cond_false, hr, Option.bind_some]
    exact ⟨_, rfl, hn.more (by omega)⟩
  · have : (decide (lim < 0) || decide (100000 < lim)) = true := by simp; omega
    rw [this]
    exact ⟨_, rfl, Next.self h (by omega)⟩
theorem act_ok {o : Net} {S} (h : InvN o S) (hc : o.clock < 400000000) (a : Act) : ∃ o', m_cocketlaw09_act_h o a = some o' ∧ Next o.posts S o' (o.clock + 100000) ∧
    (a.Kind.tmod 12 = 9 ∨ a.Kind.tmod 12 = 10 → Same o.posts o'.posts) := by
  unfold m_cocketlaw09_act_h m_post_Net_Crash_h m_post_Net_Start_h
  generalize a.Kind.tmod 12 = K
  obtain ⟨rW, eW, nW⟩ := Write_ok h (by omega) a.A a.B
  obtain ⟨rR, eR, nR⟩ := Read_ok h (by omega) a.A
  obtain ⟨rD, eD, nD⟩ := Drop_ok h a.A
  obtain ⟨rP, eP, nP⟩ := Repeat_ok h a.A
  obtain ⟨rC, eC, nC, sC⟩ := turn_ok h a.A false
  obtain ⟨rS, eS, nS, sS⟩ := turn_ok h a.A true
  obtain ⟨rT, eT, nT⟩ := Settle_ok h hc a.A
  obtain ⟨rV, eV, nV⟩ := Deliver_ok h (by omega) a.A
  simp only [eW, eR, eD, eP, eC, eS, eT, eV, Option.bind_some]
  by_cases k0 : K = 0
  · subst k0; exact ⟨_, rfl, nW.more (by omega), by omega⟩
  by_cases k1 : K = 1
  · subst k1; exact ⟨_, rfl, nW.more (by omega), by omega⟩
  by_cases k2 : K = 2
  · subst k2; exact ⟨_, rfl, nR.more (by omega), by omega⟩
  by_cases k3 : K = 3
  · subst k3; exact ⟨_, rfl, nR.more (by omega), by omega⟩
  by_cases k7 : K = 7
  · subst k7; exact ⟨_, rfl, nD.more (by omega), by omega⟩
  by_cases k8 : K = 8
  · subst k8; exact ⟨_, rfl, nP.more (by omega), by omega⟩
  by_cases k9 : K = 9
  · subst k9; exact ⟨_, rfl, nC.more (by omega), fun _ => sC⟩
  by_cases k10 : K = 10
  · subst k10; exact ⟨_, rfl, nS.more (by omega), fun _ => sS⟩
  by_cases k11 : K = 11
  · subst k11; exact ⟨_, rfl, nT.more (by omega), by omega⟩
  · simp only [k0, k1, k2, k3, k7, k8, k9, k10, k11, decide_false, cond_false, Option.bind_some]
    exact ⟨_, rfl, nV.more (by omega), fun hh => hh.elim False.elim False.elim⟩
end Go.Pv

