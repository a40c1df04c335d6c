/- TariffLean answers true for every input, as its tied card says: under the conditions of the card (Rows, Cards, Tie), no more. Part 5 of 8: by one AI agent and its programs; no person has read it. -/
import Derived.Test.YtnfnkllhjaemnaaDoorTariffLeanA
import Derived.Test.YtnfnkllhjaemnaaDoorTariffLeanB
import Derived.Test.YtnfnkllhjaemnaaDoorTariffLeanC
import Derived.Test.YtnfnkllhjaemnaaDoorTariffLeanD
import Derived.Test.YtnfnkllhjaemnaaDoorProg
import Derived.KernelRfl
set_option linter.unusedSimpArgs false
set_option linter.unusedVariables false
set_option linter.all false

namespace Go.Pv.Tryd
open Go.Proofs
noncomputable def T1 : Ty := (tyOf Tryd.prog 1).getD ⟨.invalid, 0, 0, none⟩
@[go_sem] theorem ty1 : tyOf Tryd.prog 1 = some T1 := by kernel_rfl
@[go_sem] theorem T1_desc : T1.desc = .func #[] #[] false := by kernel_rfl
@[go_sem] theorem T1_size : T1.size = 1 := by kernel_rfl
@[go_sem] theorem T1_bytes : T1.bytes = 8 := by kernel_rfl
@[go_sem] theorem T1_zero : zeroPV T1 = some (.d .nilfunc) := by kernel_rfl
@[go_sem] theorem T1_ok : zeroOk T1 = true := by kernel_rfl
noncomputable def T2 : Ty := (tyOf Tryd.prog 2).getD ⟨.invalid, 0, 0, none⟩
@[go_sem] theorem ty2 : tyOf Tryd.prog 2 = some T2 := by kernel_rfl
@[go_sem] theorem T2_desc : T2.desc = .int .i64 := by kernel_rfl
@[go_sem] theorem T2_size : T2.size = 1 := by kernel_rfl
@[go_sem] theorem T2_bytes : T2.bytes = 8 := by kernel_rfl
@[go_sem] theorem T2_zero : zeroPV T2 = some (.d (.int .i64 0)) := by kernel_rfl
@[go_sem] theorem T2_ok : zeroOk T2 = true := by kernel_rfl
noncomputable def T3 : Ty := (tyOf Tryd.prog 3).getD ⟨.invalid, 0, 0, none⟩
@[go_sem] theorem ty3 : tyOf Tryd.prog 3 = some T3 := by kernel_rfl
@[go_sem] theorem T3_desc : T3.desc = .int .i64 := by kernel_rfl
@[go_sem] theorem T3_size : T3.size = 1 := by kernel_rfl
@[go_sem] theorem T3_bytes : T3.bytes = 8 := by kernel_rfl
@[go_sem] theorem T3_zero : zeroPV T3 = some (.d (.int .i64 0)) := by kernel_rfl
@[go_sem] theorem T3_ok : zeroOk T3 = true := by kernel_rfl
noncomputable def T4 : Ty := (tyOf Tryd.prog 4).getD ⟨.invalid, 0, 0, none⟩
@[go_sem] theorem ty4 : tyOf Tryd.prog 4 = some T4 := by kernel_rfl
@[go_sem] theorem T4_desc : T4.desc = .bool := by kernel_rfl
@[go_sem] theorem T4_size : T4.size = 1 := by kernel_rfl
@[go_sem] theorem T4_bytes : T4.bytes = 1 := by kernel_rfl
@[go_sem] theorem T4_zero : zeroPV T4 = some (.d (.bool false)) := by kernel_rfl
@[go_sem] theorem T4_ok : zeroOk T4 = true := by kernel_rfl
noncomputable def T5 : Ty := (tyOf Tryd.prog 5).getD ⟨.invalid, 0, 0, none⟩
@[go_sem] theorem ty5 : tyOf Tryd.prog 5 = some T5 := by kernel_rfl
@[go_sem] theorem T5_desc : T5.desc = .int .u8 := by kernel_rfl
@[go_sem] theorem T5_size : T5.size = 1 := by kernel_rfl
@[go_sem] theorem T5_bytes : T5.bytes = 1 := by kernel_rfl
@[go_sem] theorem T5_zero : zeroPV T5 = some (.d (.int .u8 0)) := by kernel_rfl
@[go_sem] theorem T5_ok : zeroOk T5 = true := by kernel_rfl
noncomputable def T9 : Ty := (tyOf Tryd.prog 9).getD ⟨.invalid, 0, 0, none⟩
@[go_sem] theorem ty9 : tyOf Tryd.prog 9 = some T9 := by kernel_rfl
@[go_sem] theorem T9_desc : T9.desc = .string := by kernel_rfl
@[go_sem] theorem T9_size : T9.size = 1 := by kernel_rfl
@[go_sem] theorem T9_bytes : T9.bytes = 16 := by kernel_rfl
@[go_sem] theorem T9_zero : zeroPV T9 = some (.d (.str ⟨#[]⟩)) := by kernel_rfl
@[go_sem] theorem T9_ok : zeroOk T9 = true := by kernel_rfl
noncomputable def T12 : Ty := (tyOf Tryd.prog 12).getD ⟨.invalid, 0, 0, none⟩
@[go_sem] theorem ty12 : tyOf Tryd.prog 12 = some T12 := by kernel_rfl
@[go_sem] theorem T12_desc : T12.desc = .int .u64 := by kernel_rfl
@[go_sem] theorem T12_size : T12.size = 1 := by kernel_rfl
@[go_sem] theorem T12_bytes : T12.bytes = 8 := by kernel_rfl
@[go_sem] theorem T12_zero : zeroPV T12 = some (.d (.int .u64 0)) := by kernel_rfl
@[go_sem] theorem T12_ok : zeroOk T12 = true := by kernel_rfl
noncomputable def T13 : Ty := (tyOf Tryd.prog 13).getD ⟨.invalid, 0, 0, none⟩
@[go_sem] theorem ty13 : tyOf Tryd.prog 13 = some T13 := by kernel_rfl
noncomputable def fs13 : Array Field := match T13.desc with | .struct fs => fs | _ => #[]
@[go_sem] theorem T13_desc : T13.desc = .struct fs13 := by kernel_rfl
noncomputable def fs13_0 : Field := fs13.getD 0 default
@[go_sem] theorem fs13_at0 : fs13[0]? = some fs13_0 := by kernel_rfl
@[go_sem] theorem fs13_0_type : fs13_0.type = 9 := by kernel_rfl
@[go_sem] theorem fs13_0_off : fs13_0.offset = 0 := by kernel_rfl
@[go_sem] theorem fo13_0 : fieldOf Tryd.prog 13 0 = some (0, 1) := by kernel_rfl
noncomputable def fs13_1 : Field := fs13.getD 1 default
@[go_sem] theorem fs13_at1 : fs13[1]? = some fs13_1 := by kernel_rfl
@[go_sem] theorem fs13_1_type : fs13_1.type = 12 := by kernel_rfl
@[go_sem] theorem fs13_1_off : fs13_1.offset = 1 := by kernel_rfl
@[go_sem] theorem fo13_1 : fieldOf Tryd.prog 13 1 = some (1, 1) := by kernel_rfl
@[go_sem] theorem pl13 : placesOf Tryd.prog fs13.toList = some [(0, 1), (1, 1)] := by kernel_rfl
@[go_sem] theorem T13_size : T13.size = 2 := by kernel_rfl
@[go_sem] theorem T13_bytes : T13.bytes = 24 := by kernel_rfl
-- zero of 13: strings or floats
@[go_sem] theorem T13_ok : zeroOk T13 = true := by kernel_rfl
noncomputable def T21 : Ty := (tyOf Tryd.prog 21).getD ⟨.invalid, 0, 0, none⟩
@[go_sem] theorem ty21 : tyOf Tryd.prog 21 = some T21 := by kernel_rfl
@[go_sem] theorem T21_desc : T21.desc = .int .i32 := by kernel_rfl
@[go_sem] theorem T21_size : T21.size = 1 := by kernel_rfl
@[go_sem] theorem T21_bytes : T21.bytes = 4 := by kernel_rfl
@[go_sem] theorem T21_zero : zeroPV T21 = some (.d (.int .i32 0)) := by kernel_rfl
@[go_sem] theorem T21_ok : zeroOk T21 = true := by kernel_rfl
noncomputable def T22 : Ty := (tyOf Tryd.prog 22).getD ⟨.invalid, 0, 0, none⟩
@[go_sem] theorem ty22 : tyOf Tryd.prog 22 = some T22 := by kernel_rfl
@[go_sem] theorem T22_desc : T22.desc = .slice 56 := by kernel_rfl
@[go_sem] theorem es22 : elemSize Tryd.prog 22 = some 2 := by kernel_rfl
@[go_sem] theorem T22_size : T22.size = 1 := by kernel_rfl
@[go_sem] theorem T22_bytes : T22.bytes = 24 := by kernel_rfl
@[go_sem] theorem T22_zero : zeroPV T22 = some (.d .nilslice) := by kernel_rfl
@[go_sem] theorem T22_ok : zeroOk T22 = true := by kernel_rfl
noncomputable def T23 : Ty := (tyOf Tryd.prog 23).getD ⟨.invalid, 0, 0, none⟩
@[go_sem] theorem ty23 : tyOf Tryd.prog 23 = some T23 := by kernel_rfl
@[go_sem] theorem T23_desc : T23.desc = .func #[3, 22] #[4] false := by kernel_rfl
@[go_sem] theorem T23_size : T23.size = 1 := by kernel_rfl
@[go_sem] theorem T23_bytes : T23.bytes = 8 := by kernel_rfl
@[go_sem] theorem T23_zero : zeroPV T23 = some (.d .nilfunc) := by kernel_rfl
@[go_sem] theorem T23_ok : zeroOk T23 = true := by kernel_rfl
noncomputable def T24 : Ty := (tyOf Tryd.prog 24).getD ⟨.invalid, 0, 0, none⟩
@[go_sem] theorem ty24 : tyOf Tryd.prog 24 = some T24 := by kernel_rfl
@[go_sem] theorem T24_desc : T24.desc = .func #[] #[4] false := by kernel_rfl
@[go_sem] theorem T24_size : T24.size = 1 := by kernel_rfl
@[go_sem] theorem T24_bytes : T24.bytes = 8 := by kernel_rfl
@[go_sem] theorem T24_zero : zeroPV T24 = some (.d .nilfunc) := by kernel_rfl
@[go_sem] theorem T24_ok : zeroOk T24 = true := by kernel_rfl
noncomputable def T25 : Ty := (tyOf Tryd.prog 25).getD ⟨.invalid, 0, 0, none⟩
@[go_sem] theorem ty25 : tyOf Tryd.prog 25 = some T25 := by kernel_rfl
@[go_sem] theorem T25_desc : T25.desc = .func #[22] #[22] false := by kernel_rfl
@[go_sem] theorem T25_size : T25.size = 1 := by kernel_rfl
@[go_sem] theorem T25_bytes : T25.bytes = 8 := by kernel_rfl
@[go_sem] theorem T25_zero : zeroPV T25 = some (.d .nilfunc) := by kernel_rfl
@[go_sem] theorem T25_ok : zeroOk T25 = true := by kernel_rfl
noncomputable def T26 : Ty := (tyOf Tryd.prog 26).getD ⟨.invalid, 0, 0, none⟩
@[go_sem] theorem ty26 : tyOf Tryd.prog 26 = some T26 := by kernel_rfl
@[go_sem] theorem T26_desc : T26.desc = .slice 3 := by kernel_rfl
@[go_sem] theorem es26 : elemSize Tryd.prog 26 = some 1 := by kernel_rfl
@[go_sem] theorem T26_size : T26.size = 1 := by kernel_rfl
@[go_sem] theorem T26_bytes : T26.bytes = 24 := by kernel_rfl
@[go_sem] theorem T26_zero : zeroPV T26 = some (.d .nilslice) := by kernel_rfl
@[go_sem] theorem T26_ok : zeroOk T26 = true := by kernel_rfl
noncomputable def T27 : Ty := (tyOf Tryd.prog 27).getD ⟨.invalid, 0, 0, none⟩
@[go_sem] theorem ty27 : tyOf Tryd.prog 27 = some T27 := by kernel_rfl
@[go_sem] theorem T27_desc : T27.desc = .int .i64 := by kernel_rfl
@[go_sem] theorem T27_size : T27.size = 1 := by kernel_rfl
@[go_sem] theorem T27_bytes : T27.bytes = 8 := by kernel_rfl
@[go_sem] theorem T27_zero : zeroPV T27 = some (.d (.int .i64 0)) := by kernel_rfl
@[go_sem] theorem T27_ok : zeroOk T27 = true := by kernel_rfl
noncomputable def T29 : Ty := (tyOf Tryd.prog 29).getD ⟨.invalid, 0, 0, none⟩
@[go_sem] theorem ty29 : tyOf Tryd.prog 29 = some T29 := by kernel_rfl
@[go_sem] theorem T29_desc : T29.desc = .func #[3, 22] #[26, 27] false := by kernel_rfl
@[go_sem] theorem T29_size : T29.size = 1 := by kernel_rfl
@[go_sem] theorem T29_bytes : T29.bytes = 8 := by kernel_rfl
@[go_sem] theorem T29_zero : zeroPV T29 = some (.d .nilfunc) := by kernel_rfl
@[go_sem] theorem T29_ok : zeroOk T29 = true := by kernel_rfl
noncomputable def T30 : Ty := (tyOf Tryd.prog 30).getD ⟨.invalid, 0, 0, none⟩
@[go_sem] theorem ty30 : tyOf Tryd.prog 30 = some T30 := by kernel_rfl
@[go_sem] theorem T30_desc : T30.desc = .func #[26, 26] #[4] false := by kernel_rfl
@[go_sem] theorem T30_size : T30.size = 1 := by kernel_rfl
@[go_sem] theorem T30_bytes : T30.bytes = 8 := by kernel_rfl
@[go_sem] theorem T30_zero : zeroPV T30 = some (.d .nilfunc) := by kernel_rfl
@[go_sem] theorem T30_ok : zeroOk T30 = true := by kernel_rfl
noncomputable def T31 : Ty := (tyOf Tryd.prog 31).getD ⟨.invalid, 0, 0, none⟩
@[go_sem] theorem ty31 : tyOf Tryd.prog 31 = some T31 := by kernel_rfl
@[go_sem] theorem T31_desc : T31.desc = .func #[22, 22] #[4] false := by kernel_rfl
@[go_sem] theorem T31_size : T31.size = 1 := by kernel_rfl
@[go_sem] theorem T31_bytes : T31.bytes = 8 := by kernel_rfl
@[go_sem] theorem T31_zero : zeroPV T31 = some (.d .nilfunc) := by kernel_rfl
@[go_sem] theorem T31_ok : zeroOk T31 = true := by kernel_rfl
noncomputable def T32 : Ty := (tyOf Tryd.prog 32).getD ⟨.invalid, 0, 0, none⟩
@[go_sem] theorem ty32 : tyOf Tryd.prog 32 = some T32 := by kernel_rfl
@[go_sem] theorem T32_desc : T32.desc = .slice 37 := by kernel_rfl
@[go_sem] theorem es32 : elemSize Tryd.prog 32 = some 3 := by kernel_rfl
@[go_sem] theorem T32_size : T32.size = 1 := by kernel_rfl
@[go_sem] theorem T32_bytes : T32.bytes = 24 := by kernel_rfl
@[go_sem] theorem T32_zero : zeroPV T32 = some (.d .nilslice) := by kernel_rfl
@[go_sem] theorem T32_ok : zeroOk T32 = true := by kernel_rfl
noncomputable def T34 : Ty := (tyOf Tryd.prog 34).getD ⟨.invalid, 0, 0, none⟩
@[go_sem] theorem ty34 : tyOf Tryd.prog 34 = some T34 := by kernel_rfl
@[go_sem] theorem T34_desc : T34.desc = .func #[3, 22] #[32, 27] false := by kernel_rfl
@[go_sem] theorem T34_size : T34.size = 1 := by kernel_rfl
@[go_sem] theorem T34_bytes : T34.bytes = 8 := by kernel_rfl
@[go_sem] theorem T34_zero : zeroPV T34 = some (.d .nilfunc) := by kernel_rfl
@[go_sem] theorem T34_ok : zeroOk T34 = true := by kernel_rfl
noncomputable def T35 : Ty := (tyOf Tryd.prog 35).getD ⟨.invalid, 0, 0, none⟩
@[go_sem] theorem ty35 : tyOf Tryd.prog 35 = some T35 := by kernel_rfl
@[go_sem] theorem T35_desc : T35.desc = .func #[32, 32] #[4] false := by kernel_rfl
@[go_sem] theorem T35_size : T35.size = 1 := by kernel_rfl
@[go_sem] theorem T35_bytes : T35.bytes = 8 := by kernel_rfl
@[go_sem] theorem T35_zero : zeroPV T35 = some (.d .nilfunc) := by kernel_rfl
@[go_sem] theorem T35_ok : zeroOk T35 = true := by kernel_rfl
noncomputable def T36 : Ty := (tyOf Tryd.prog 36).getD ⟨.invalid, 0, 0, none⟩
@[go_sem] theorem ty36 : tyOf Tryd.prog 36 = some T36 := by kernel_rfl
noncomputable def fs36 : Array Field := match T36.desc with | .struct fs => fs | _ => #[]
@[go_sem] theorem T36_desc : T36.desc = .struct fs36 := by kernel_rfl
noncomputable def fs36_0 : Field := fs36.getD 0 default
@[go_sem] theorem fs36_at0 : fs36[0]? = some fs36_0 := by kernel_rfl
@[go_sem] theorem fs36_0_type : fs36_0.type = 3 := by kernel_rfl
@[go_sem] theorem fs36_0_off : fs36_0.offset = 0 := by kernel_rfl
@[go_sem] theorem fo36_0 : fieldOf Tryd.prog 36 0 = some (0, 1) := by kernel_rfl
noncomputable def fs36_1 : Field := fs36.getD 1 default
@[go_sem] theorem fs36_at1 : fs36[1]? = some fs36_1 := by kernel_rfl
@[go_sem] theorem fs36_1_type : fs36_1.type = 26 := by kernel_rfl
@[go_sem] theorem fs36_1_off : fs36_1.offset = 1 := by kernel_rfl
@[go_sem] theorem fo36_1 : fieldOf Tryd.prog 36 1 = some (1, 1) := by kernel_rfl
noncomputable def fs36_2 : Field := fs36.getD 2 default
@[go_sem] theorem fs36_at2 : fs36[2]? = some fs36_2 := by kernel_rfl
@[go_sem] theorem fs36_2_type : fs36_2.type = 26 := by kernel_rfl
@[go_sem] theorem fs36_2_off : fs36_2.offset = 2 := by kernel_rfl
@[go_sem] theorem fo36_2 : fieldOf Tryd.prog 36 2 = some (2, 1) := by kernel_rfl
@[go_sem] theorem pl36 : placesOf Tryd.prog fs36.toList = some [(0, 1), (1, 1), (2, 1)] := by kernel_rfl
@[go_sem] theorem T36_size : T36.size = 3 := by kernel_rfl
@[go_sem] theorem T36_bytes : T36.bytes = 56 := by kernel_rfl
@[go_sem] theorem T36_cells : zeroCells T36.zero = some [.d (.int .i64 0), .d .nilslice, .d .nilslice] := by kernel_rfl
@[go_sem] theorem T36_zero : zeroPV T36 = some (.d (.agg [(.int .i64 0), .nilslice, .nilslice])) := by kernel_rfl
@[go_sem] theorem T36_ok : zeroOk T36 = true := by kernel_rfl
noncomputable def T37 : Ty := (tyOf Tryd.prog 37).getD ⟨.invalid, 0, 0, none⟩
@[go_sem] theorem ty37 : tyOf Tryd.prog 37 = some T37 := by kernel_rfl
noncomputable def fs37 : Array Field := match T37.desc with | .struct fs => fs | _ => #[]
@[go_sem] theorem T37_desc : T37.desc = .struct fs37 := by kernel_rfl
noncomputable def fs37_0 : Field := fs37.getD 0 default
@[go_sem] theorem fs37_at0 : fs37[0]? = some fs37_0 := by kernel_rfl
@[go_sem] theorem fs37_0_type : fs37_0.type = 3 := by kernel_rfl
@[go_sem] theorem fs37_0_off : fs37_0.offset = 0 := by kernel_rfl
@[go_sem] theorem fo37_0 : fieldOf Tryd.prog 37 0 = some (0, 1) := by kernel_rfl
noncomputable def fs37_1 : Field := fs37.getD 1 default
@[go_sem] theorem fs37_at1 : fs37[1]? = some fs37_1 := by kernel_rfl
@[go_sem] theorem fs37_1_type : fs37_1.type = 26 := by kernel_rfl
@[go_sem] theorem fs37_1_off : fs37_1.offset = 1 := by kernel_rfl
@[go_sem] theorem fo37_1 : fieldOf Tryd.prog 37 1 = some (1, 1) := by kernel_rfl
noncomputable def fs37_2 : Field := fs37.getD 2 default
@[go_sem] theorem fs37_at2 : fs37[2]? = some fs37_2 := by kernel_rfl
@[go_sem] theorem fs37_2_type : fs37_2.type = 26 := by kernel_rfl
@[go_sem] theorem fs37_2_off : fs37_2.offset = 2 := by kernel_rfl
@[go_sem] theorem fo37_2 : fieldOf Tryd.prog 37 2 = some (2, 1) := by kernel_rfl
@[go_sem] theorem pl37 : placesOf Tryd.prog fs37.toList = some [(0, 1), (1, 1), (2, 1)] := by kernel_rfl
@[go_sem] theorem T37_size : T37.size = 3 := by kernel_rfl
@[go_sem] theorem T37_bytes : T37.bytes = 56 := by kernel_rfl
@[go_sem] theorem T37_cells : zeroCells T37.zero = some [.d (.int .i64 0), .d .nilslice, .d .nilslice] := by kernel_rfl
@[go_sem] theorem T37_zero : zeroPV T37 = some (.d (.agg [(.int .i64 0), .nilslice, .nilslice])) := by kernel_rfl
@[go_sem] theorem T37_ok : zeroOk T37 = true := by kernel_rfl
noncomputable def T39 : Ty := (tyOf Tryd.prog 39).getD ⟨.invalid, 0, 0, none⟩
@[go_sem] theorem ty39 : tyOf Tryd.prog 39 = some T39 := by kernel_rfl
@[go_sem] theorem T39_desc : T39.desc = .func #[3, 22] #[26, 3, 27] false := by kernel_rfl
@[go_sem] theorem T39_size : T39.size = 1 := by kernel_rfl
@[go_sem] theorem T39_bytes : T39.bytes = 8 := by kernel_rfl
@[go_sem] theorem T39_zero : zeroPV T39 = some (.d .nilfunc) := by kernel_rfl
@[go_sem] theorem T39_ok : zeroOk T39 = true := by kernel_rfl
noncomputable def T40 : Ty := (tyOf Tryd.prog 40).getD ⟨.invalid, 0, 0, none⟩
@[go_sem] theorem ty40 : tyOf Tryd.prog 40 = some T40 := by kernel_rfl
@[go_sem] theorem T40_desc : T40.desc = .func #[3, 22, 22] #[26, 27] false := by kernel_rfl
@[go_sem] theorem T40_size : T40.size = 1 := by kernel_rfl
@[go_sem] theorem T40_bytes : T40.bytes = 8 := by kernel_rfl
@[go_sem] theorem T40_zero : zeroPV T40 = some (.d .nilfunc) := by kernel_rfl
@[go_sem] theorem T40_ok : zeroOk T40 = true := by kernel_rfl
noncomputable def T41 : Ty := (tyOf Tryd.prog 41).getD ⟨.invalid, 0, 0, none⟩
@[go_sem] theorem ty41 : tyOf Tryd.prog 41 = some T41 := by kernel_rfl
@[go_sem] theorem T41_desc : T41.desc = .func #[3, 22, 22] #[4] false := by kernel_rfl
@[go_sem] theorem T41_size : T41.size = 1 := by kernel_rfl
@[go_sem] theorem T41_bytes : T41.bytes = 8 := by kernel_rfl
@[go_sem] theorem T41_zero : zeroPV T41 = some (.d .nilfunc) := by kernel_rfl
@[go_sem] theorem T41_ok : zeroOk T41 = true := by kernel_rfl
noncomputable def T42 : Ty := (tyOf Tryd.prog 42).getD ⟨.invalid, 0, 0, none⟩
@[go_sem] theorem ty42 : tyOf Tryd.prog 42 = some T42 := by kernel_rfl
@[go_sem] theorem T42_desc : T42.desc = .func #[3, 22, 3, 3] #[26, 27] false := by kernel_rfl
@[go_sem] theorem T42_size : T42.size = 1 := by kernel_rfl
@[go_sem] theorem T42_bytes : T42.bytes = 8 := by kernel_rfl
@[go_sem] theorem T42_zero : zeroPV T42 = some (.d .nilfunc) := by kernel_rfl
@[go_sem] theorem T42_ok : zeroOk T42 = true := by kernel_rfl
noncomputable def T43 : Ty := (tyOf Tryd.prog 43).getD ⟨.invalid, 0, 0, none⟩
@[go_sem] theorem ty43 : tyOf Tryd.prog 43 = some T43 := by kernel_rfl
@[go_sem] theorem T43_desc : T43.desc = .func #[3, 22, 3, 3] #[4] false := by kernel_rfl
@[go_sem] theorem T43_size : T43.size = 1 := by kernel_rfl
@[go_sem] theorem T43_bytes : T43.bytes = 8 := by kernel_rfl
@[go_sem] theorem T43_zero : zeroPV T43 = some (.d .nilfunc) := by kernel_rfl
@[go_sem] theorem T43_ok : zeroOk T43 = true := by kernel_rfl
noncomputable def T45 : Ty := (tyOf Tryd.prog 45).getD ⟨.invalid, 0, 0, none⟩
@[go_sem] theorem ty45 : tyOf Tryd.prog 45 = some T45 := by kernel_rfl
@[go_sem] theorem T45_desc : T45.desc = .func #[3, 22, 26] #[3, 3, 27] false := by kernel_rfl
@[go_sem] theorem T45_size : T45.size = 1 := by kernel_rfl
@[go_sem] theorem T45_bytes : T45.bytes = 8 := by kernel_rfl
@[go_sem] theorem T45_zero : zeroPV T45 = some (.d .nilfunc) := by kernel_rfl
@[go_sem] theorem T45_ok : zeroOk T45 = true := by kernel_rfl
noncomputable def T46 : Ty := (tyOf Tryd.prog 46).getD ⟨.invalid, 0, 0, none⟩
@[go_sem] theorem ty46 : tyOf Tryd.prog 46 = some T46 := by kernel_rfl
@[go_sem] theorem T46_desc : T46.desc = .func #[3, 22, 26] #[4] false := by kernel_rfl
@[go_sem] theorem T46_size : T46.size = 1 := by kernel_rfl
@[go_sem] theorem T46_bytes : T46.bytes = 8 := by kernel_rfl
@[go_sem] theorem T46_zero : zeroPV T46 = some (.d .nilfunc) := by kernel_rfl
@[go_sem] theorem T46_ok : zeroOk T46 = true := by kernel_rfl
noncomputable def T48 : Ty := (tyOf Tryd.prog 48).getD ⟨.invalid, 0, 0, none⟩
@[go_sem] theorem ty48 : tyOf Tryd.prog 48 = some T48 := by kernel_rfl
@[go_sem] theorem T48_desc : T48.desc = .func #[3, 32, 26] #[3, 27] false := by kernel_rfl
@[go_sem] theorem T48_size : T48.size = 1 := by kernel_rfl
@[go_sem] theorem T48_bytes : T48.bytes = 8 := by kernel_rfl
@[go_sem] theorem T48_zero : zeroPV T48 = some (.d .nilfunc) := by kernel_rfl
@[go_sem] theorem T48_ok : zeroOk T48 = true := by kernel_rfl
noncomputable def T49 : Ty := (tyOf Tryd.prog 49).getD ⟨.invalid, 0, 0, none⟩
@[go_sem] theorem ty49 : tyOf Tryd.prog 49 = some T49 := by kernel_rfl
@[go_sem] theorem T49_desc : T49.desc = .func #[3, 32, 26] #[4] false := by kernel_rfl
@[go_sem] theorem T49_size : T49.size = 1 := by kernel_rfl
@[go_sem] theorem T49_bytes : T49.bytes = 8 := by kernel_rfl
@[go_sem] theorem T49_zero : zeroPV T49 = some (.d .nilfunc) := by kernel_rfl
@[go_sem] theorem T49_ok : zeroOk T49 = true := by kernel_rfl
noncomputable def T50 : Ty := (tyOf Tryd.prog 50).getD ⟨.invalid, 0, 0, none⟩
@[go_sem] theorem ty50 : tyOf Tryd.prog 50 = some T50 := by kernel_rfl
@[go_sem] theorem T50_desc : T50.desc = .int .u16 := by kernel_rfl
@[go_sem] theorem T50_size : T50.size = 1 := by kernel_rfl
@[go_sem] theorem T50_bytes : T50.bytes = 2 := by kernel_rfl
@[go_sem] theorem T50_zero : zeroPV T50 = some (.d (.int .u16 0)) := by kernel_rfl
@[go_sem] theorem T50_ok : zeroOk T50 = true := by kernel_rfl
noncomputable def T51 : Ty := (tyOf Tryd.prog 51).getD ⟨.invalid, 0, 0, none⟩
@[go_sem] theorem ty51 : tyOf Tryd.prog 51 = some T51 := by kernel_rfl
@[go_sem] theorem T51_desc : T51.desc = .func #[4, 50] #[4] false := by kernel_rfl
@[go_sem] theorem T51_size : T51.size = 1 := by kernel_rfl
@[go_sem] theorem T51_bytes : T51.bytes = 8 := by kernel_rfl
@[go_sem] theorem T51_zero : zeroPV T51 = some (.d .nilfunc) := by kernel_rfl
@[go_sem] theorem T51_ok : zeroOk T51 = true := by kernel_rfl
noncomputable def T52 : Ty := (tyOf Tryd.prog 52).getD ⟨.invalid, 0, 0, none⟩
@[go_sem] theorem ty52 : tyOf Tryd.prog 52 = some T52 := by kernel_rfl
@[go_sem] theorem T52_desc : T52.desc = .slice 5 := by kernel_rfl
@[go_sem] theorem es52 : elemSize Tryd.prog 52 = some 1 := by kernel_rfl
@[go_sem] theorem T52_size : T52.size = 1 := by kernel_rfl
@[go_sem] theorem T52_bytes : T52.bytes = 24 := by kernel_rfl
@[go_sem] theorem T52_zero : zeroPV T52 = some (.d .nilslice) := by kernel_rfl
@[go_sem] theorem T52_ok : zeroOk T52 = true := by kernel_rfl
noncomputable def T53 : Ty := (tyOf Tryd.prog 53).getD ⟨.invalid, 0, 0, none⟩
@[go_sem] theorem ty53 : tyOf Tryd.prog 53 = some T53 := by kernel_rfl
@[go_sem] theorem T53_desc : T53.desc = .func #[3, 22] #[27] false := by kernel_rfl
@[go_sem] theorem T53_size : T53.size = 1 := by kernel_rfl
@[go_sem] theorem T53_bytes : T53.bytes = 8 := by kernel_rfl
@[go_sem] theorem T53_zero : zeroPV T53 = some (.d .nilfunc) := by kernel_rfl
@[go_sem] theorem T53_ok : zeroOk T53 = true := by kernel_rfl
noncomputable def T54 : Ty := (tyOf Tryd.prog 54).getD ⟨.invalid, 0, 0, none⟩
@[go_sem] theorem ty54 : tyOf Tryd.prog 54 = some T54 := by kernel_rfl
@[go_sem] theorem T54_desc : T54.desc = .slice 61 := by kernel_rfl
@[go_sem] theorem es54 : elemSize Tryd.prog 54 = some 2 := by kernel_rfl
@[go_sem] theorem T54_size : T54.size = 1 := by kernel_rfl
@[go_sem] theorem T54_bytes : T54.bytes = 24 := by kernel_rfl
@[go_sem] theorem T54_zero : zeroPV T54 = some (.d .nilslice) := by kernel_rfl
@[go_sem] theorem T54_ok : zeroOk T54 = true := by kernel_rfl
noncomputable def T55 : Ty := (tyOf Tryd.prog 55).getD ⟨.invalid, 0, 0, none⟩
@[go_sem] theorem ty55 : tyOf Tryd.prog 55 = some T55 := by kernel_rfl
noncomputable def fs55 : Array Field := match T55.desc with | .struct fs => fs | _ => #[]
@[go_sem] theorem T55_desc : T55.desc = .struct fs55 := by kernel_rfl
noncomputable def fs55_0 : Field := fs55.getD 0 default
@[go_sem] theorem fs55_at0 : fs55[0]? = some fs55_0 := by kernel_rfl
@[go_sem] theorem fs55_0_type : fs55_0.type = 54 := by kernel_rfl
@[go_sem] theorem fs55_0_off : fs55_0.offset = 0 := by kernel_rfl
@[go_sem] theorem fo55_0 : fieldOf Tryd.prog 55 0 = some (0, 1) := by kernel_rfl
noncomputable def fs55_1 : Field := fs55.getD 1 default
@[go_sem] theorem fs55_at1 : fs55[1]? = some fs55_1 := by kernel_rfl
@[go_sem] theorem fs55_1_type : fs55_1.type = 3 := by kernel_rfl
@[go_sem] theorem fs55_1_off : fs55_1.offset = 1 := by kernel_rfl
@[go_sem] theorem fo55_1 : fieldOf Tryd.prog 55 1 = some (1, 1) := by kernel_rfl
@[go_sem] theorem pl55 : placesOf Tryd.prog fs55.toList = some [(0, 1), (1, 1)] := by kernel_rfl
@[go_sem] theorem T55_size : T55.size = 2 := by kernel_rfl
@[go_sem] theorem T55_bytes : T55.bytes = 32 := by kernel_rfl
@[go_sem] theorem T55_cells : zeroCells T55.zero = some [.d .nilslice, .d (.int .i64 0)] := by kernel_rfl
@[go_sem] theorem T55_zero : zeroPV T55 = some (.d (.agg [.nilslice, (.int .i64 0)])) := by kernel_rfl
@[go_sem] theorem T55_ok : zeroOk T55 = true := by kernel_rfl
noncomputable def T56 : Ty := (tyOf Tryd.prog 56).getD ⟨.invalid, 0, 0, none⟩
@[go_sem] theorem ty56 : tyOf Tryd.prog 56 = some T56 := by kernel_rfl
noncomputable def fs56 : Array Field := match T56.desc with | .struct fs => fs | _ => #[]
@[go_sem] theorem T56_desc : T56.desc = .struct fs56 := by kernel_rfl
noncomputable def fs56_0 : Field := fs56.getD 0 default
@[go_sem] theorem fs56_at0 : fs56[0]? = some fs56_0 := by kernel_rfl
@[go_sem] theorem fs56_0_type : fs56_0.type = 54 := by kernel_rfl
@[go_sem] theorem fs56_0_off : fs56_0.offset = 0 := by kernel_rfl
@[go_sem] theorem fo56_0 : fieldOf Tryd.prog 56 0 = some (0, 1) := by kernel_rfl
noncomputable def fs56_1 : Field := fs56.getD 1 default
@[go_sem] theorem fs56_at1 : fs56[1]? = some fs56_1 := by kernel_rfl
@[go_sem] theorem fs56_1_type : fs56_1.type = 3 := by kernel_rfl
@[go_sem] theorem fs56_1_off : fs56_1.offset = 1 := by kernel_rfl
@[go_sem] theorem fo56_1 : fieldOf Tryd.prog 56 1 = some (1, 1) := by kernel_rfl
@[go_sem] theorem pl56 : placesOf Tryd.prog fs56.toList = some [(0, 1), (1, 1)] := by kernel_rfl
@[go_sem] theorem T56_size : T56.size = 2 := by kernel_rfl
@[go_sem] theorem T56_bytes : T56.bytes = 32 := by kernel_rfl
@[go_sem] theorem T56_cells : zeroCells T56.zero = some [.d .nilslice, .d (.int .i64 0)] := by kernel_rfl
@[go_sem] theorem T56_zero : zeroPV T56 = some (.d (.agg [.nilslice, (.int .i64 0)])) := by kernel_rfl
@[go_sem] theorem T56_ok : zeroOk T56 = true := by kernel_rfl
noncomputable def T57 : Ty := (tyOf Tryd.prog 57).getD ⟨.invalid, 0, 0, none⟩
@[go_sem] theorem ty57 : tyOf Tryd.prog 57 = some T57 := by kernel_rfl
@[go_sem] theorem T57_desc : T57.desc = .func #[3, 22, 52] #[4] false := by kernel_rfl
@[go_sem] theorem T57_size : T57.size = 1 := by kernel_rfl
@[go_sem] theorem T57_bytes : T57.bytes = 8 := by kernel_rfl
@[go_sem] theorem T57_zero : zeroPV T57 = some (.d .nilfunc) := by kernel_rfl
@[go_sem] theorem T57_ok : zeroOk T57 = true := by kernel_rfl
noncomputable def T59 : Ty := (tyOf Tryd.prog 59).getD ⟨.invalid, 0, 0, none⟩
@[go_sem] theorem ty59 : tyOf Tryd.prog 59 = some T59 := by kernel_rfl
@[go_sem] theorem T59_desc : T59.desc = .func #[3, 22] #[22, 27] false := by kernel_rfl
@[go_sem] theorem T59_size : T59.size = 1 := by kernel_rfl
@[go_sem] theorem T59_bytes : T59.bytes = 8 := by kernel_rfl
@[go_sem] theorem T59_zero : zeroPV T59 = some (.d .nilfunc) := by kernel_rfl
@[go_sem] theorem T59_ok : zeroOk T59 = true := by kernel_rfl
noncomputable def T60 : Ty := (tyOf Tryd.prog 60).getD ⟨.invalid, 0, 0, none⟩
@[go_sem] theorem ty60 : tyOf Tryd.prog 60 = some T60 := by kernel_rfl
noncomputable def fs60 : Array Field := match T60.desc with | .struct fs => fs | _ => #[]
@[go_sem] theorem T60_desc : T60.desc = .struct fs60 := by kernel_rfl
noncomputable def fs60_0 : Field := fs60.getD 0 default
@[go_sem] theorem fs60_at0 : fs60[0]? = some fs60_0 := by kernel_rfl
@[go_sem] theorem fs60_0_type : fs60_0.type = 3 := by kernel_rfl
@[go_sem] theorem fs60_0_off : fs60_0.offset = 0 := by kernel_rfl
@[go_sem] theorem fo60_0 : fieldOf Tryd.prog 60 0 = some (0, 1) := by kernel_rfl
@[go_sem] theorem fs60_0_nm : (fs60_0.name == "_") = false := by kernel_rfl
noncomputable def fs60_1 : Field := fs60.getD 1 default
@[go_sem] theorem fs60_at1 : fs60[1]? = some fs60_1 := by kernel_rfl
@[go_sem] theorem fs60_1_type : fs60_1.type = 3 := by kernel_rfl
@[go_sem] theorem fs60_1_off : fs60_1.offset = 1 := by kernel_rfl
@[go_sem] theorem fo60_1 : fieldOf Tryd.prog 60 1 = some (1, 1) := by kernel_rfl
@[go_sem] theorem fs60_1_nm : (fs60_1.name == "_") = false := by kernel_rfl
@[go_sem] theorem sih60 : Tryd.prog.stoodInHeld 60 = false := by kernel_rfl
@[go_sem] theorem egt60 : Tryd.prog.eqGuardType Tryd.prog.depth 60 = false := by kernel_rfl
@[go_sem] theorem pl60 : placesOf Tryd.prog fs60.toList = some [(0, 1), (1, 1)] := by kernel_rfl
@[go_sem] theorem T60_size : T60.size = 2 := by kernel_rfl
@[go_sem] theorem T60_bytes : T60.bytes = 16 := by kernel_rfl
@[go_sem] theorem T60_cells : zeroCells T60.zero = some [.d (.int .i64 0), .d (.int .i64 0)] := by kernel_rfl
@[go_sem] theorem T60_zero : zeroPV T60 = some (.d (.agg [(.int .i64 0), (.int .i64 0)])) := by kernel_rfl
@[go_sem] theorem T60_ok : zeroOk T60 = true := by kernel_rfl
noncomputable def T61 : Ty := (tyOf Tryd.prog 61).getD ⟨.invalid, 0, 0, none⟩
@[go_sem] theorem ty61 : tyOf Tryd.prog 61 = some T61 := by kernel_rfl
noncomputable def fs61 : Array Field := match T61.desc with | .struct fs => fs | _ => #[]
@[go_sem] theorem T61_desc : T61.desc = .struct fs61 := by kernel_rfl
noncomputable def fs61_0 : Field := fs61.getD 0 default
@[go_sem] theorem fs61_at0 : fs61[0]? = some fs61_0 := by kernel_rfl
@[go_sem] theorem fs61_0_type : fs61_0.type = 3 := by kernel_rfl
@[go_sem] theorem fs61_0_off : fs61_0.offset = 0 := by kernel_rfl
@[go_sem] theorem fo61_0 : fieldOf Tryd.prog 61 0 = some (0, 1) := by kernel_rfl
@[go_sem] theorem fs61_0_nm : (fs61_0.name == "_") = false := by kernel_rfl
noncomputable def fs61_1 : Field := fs61.getD 1 default
@[go_sem] theorem fs61_at1 : fs61[1]? = some fs61_1 := by kernel_rfl
@[go_sem] theorem fs61_1_type : fs61_1.type = 3 := by kernel_rfl
@[go_sem] theorem fs61_1_off : fs61_1.offset = 1 := by kernel_rfl
@[go_sem] theorem fo61_1 : fieldOf Tryd.prog 61 1 = some (1, 1) := by kernel_rfl
@[go_sem] theorem fs61_1_nm : (fs61_1.name == "_") = false := by kernel_rfl
theorem fsl61 : fs61.toList = [fs61_0, fs61_1] := by kernel_rfl
@[go_sem] theorem sih61 : Tryd.prog.stoodInHeld 61 = false := by kernel_rfl
@[go_sem] theorem egt61 : Tryd.prog.eqGuardType Tryd.prog.depth 61 = false := by kernel_rfl
@[go_sem] theorem pl61 : placesOf Tryd.prog fs61.toList = some [(0, 1), (1, 1)] := by kernel_rfl
@[go_sem] theorem T61_size : T61.size = 2 := by kernel_rfl
@[go_sem] theorem T61_bytes : T61.bytes = 16 := by kernel_rfl
@[go_sem] theorem T61_cells : zeroCells T61.zero = some [.d (.int .i64 0), .d (.int .i64 0)] := by kernel_rfl
@[go_sem] theorem T61_zero : zeroPV T61 = some (.d (.agg [(.int .i64 0), (.int .i64 0)])) := by kernel_rfl
@[go_sem] theorem T61_ok : zeroOk T61 = true := by kernel_rfl
noncomputable def T62 : Ty := (tyOf Tryd.prog 62).getD ⟨.invalid, 0, 0, none⟩
@[go_sem] theorem ty62 : tyOf Tryd.prog 62 = some T62 := by kernel_rfl
@[go_sem] theorem T62_desc : T62.desc = .func #[3, 22, 56, 5] #[4] false := by kernel_rfl
@[go_sem] theorem T62_size : T62.size = 1 := by kernel_rfl
@[go_sem] theorem T62_bytes : T62.bytes = 8 := by kernel_rfl
@[go_sem] theorem T62_zero : zeroPV T62 = some (.d .nilfunc) := by kernel_rfl
@[go_sem] theorem T62_ok : zeroOk T62 = true := by kernel_rfl
noncomputable def T63 : Ty := (tyOf Tryd.prog 63).getD ⟨.invalid, 0, 0, none⟩
@[go_sem] theorem ty63 : tyOf Tryd.prog 63 = some T63 := by kernel_rfl
@[go_sem] theorem T63_desc : T63.desc = .func #[3, 26] #[4] false := by kernel_rfl
@[go_sem] theorem T63_size : T63.size = 1 := by kernel_rfl
@[go_sem] theorem T63_bytes : T63.bytes = 8 := by kernel_rfl
@[go_sem] theorem T63_zero : zeroPV T63 = some (.d .nilfunc) := by kernel_rfl
@[go_sem] theorem T63_ok : zeroOk T63 = true := by kernel_rfl
noncomputable def T64 : Ty := (tyOf Tryd.prog 64).getD ⟨.invalid, 0, 0, none⟩
@[go_sem] theorem ty64 : tyOf Tryd.prog 64 = some T64 := by kernel_rfl
@[go_sem] theorem T64_desc : T64.desc = .func #[3, 22, 22, 3, 3, 26] #[4] false := by kernel_rfl
@[go_sem] theorem T64_size : T64.size = 1 := by kernel_rfl
@[go_sem] theorem T64_bytes : T64.bytes = 8 := by kernel_rfl
@[go_sem] theorem T64_zero : zeroPV T64 = some (.d .nilfunc) := by kernel_rfl
@[go_sem] theorem T64_ok : zeroOk T64 = true := by kernel_rfl
noncomputable def T65 : Ty := (tyOf Tryd.prog 65).getD ⟨.invalid, 0, 0, none⟩
@[go_sem] theorem ty65 : tyOf Tryd.prog 65 = some T65 := by kernel_rfl
@[go_sem] theorem T65_desc : T65.desc = .func #[3, 22, 22, 26] #[4] false := by kernel_rfl
@[go_sem] theorem T65_size : T65.size = 1 := by kernel_rfl
@[go_sem] theorem T65_bytes : T65.bytes = 8 := by kernel_rfl
@[go_sem] theorem T65_zero : zeroPV T65 = some (.d .nilfunc) := by kernel_rfl
@[go_sem] theorem T65_ok : zeroOk T65 = true := by kernel_rfl
noncomputable def T66 : Ty := (tyOf Tryd.prog 66).getD ⟨.invalid, 0, 0, none⟩
@[go_sem] theorem ty66 : tyOf Tryd.prog 66 = some T66 := by kernel_rfl
@[go_sem] theorem T66_desc : T66.desc = .func #[3, 22, 3] #[3] false := by kernel_rfl
@[go_sem] theorem T66_size : T66.size = 1 := by kernel_rfl
@[go_sem] theorem T66_bytes : T66.bytes = 8 := by kernel_rfl
@[go_sem] theorem T66_zero : zeroPV T66 = some (.d .nilfunc) := by kernel_rfl
@[go_sem] theorem T66_ok : zeroOk T66 = true := by kernel_rfl
noncomputable def T67 : Ty := (tyOf Tryd.prog 67).getD ⟨.invalid, 0, 0, none⟩
@[go_sem] theorem ty67 : tyOf Tryd.prog 67 = some T67 := by kernel_rfl
@[go_sem] theorem T67_desc : T67.desc = .func #[] #[22] false := by kernel_rfl
@[go_sem] theorem T67_size : T67.size = 1 := by kernel_rfl
@[go_sem] theorem T67_bytes : T67.bytes = 8 := by kernel_rfl
@[go_sem] theorem T67_zero : zeroPV T67 = some (.d .nilfunc) := by kernel_rfl
@[go_sem] theorem T67_ok : zeroOk T67 = true := by kernel_rfl
noncomputable def T68 : Ty := (tyOf Tryd.prog 68).getD ⟨.invalid, 0, 0, none⟩
@[go_sem] theorem ty68 : tyOf Tryd.prog 68 = some T68 := by kernel_rfl
@[go_sem] theorem T68_desc : T68.desc = .func #[3, 113] #[27] true := by kernel_rfl
@[go_sem] theorem T68_size : T68.size = 1 := by kernel_rfl
@[go_sem] theorem T68_bytes : T68.bytes = 8 := by kernel_rfl
@[go_sem] theorem T68_zero : zeroPV T68 = some (.d .nilfunc) := by kernel_rfl
@[go_sem] theorem T68_ok : zeroOk T68 = true := by kernel_rfl
noncomputable def T69 : Ty := (tyOf Tryd.prog 69).getD ⟨.invalid, 0, 0, none⟩
@[go_sem] theorem ty69 : tyOf Tryd.prog 69 = some T69 := by kernel_rfl
@[go_sem] theorem T69_desc : T69.desc = .func #[26, 4] #[26, 27] false := by kernel_rfl
@[go_sem] theorem T69_size : T69.size = 1 := by kernel_rfl
@[go_sem] theorem T69_bytes : T69.bytes = 8 := by kernel_rfl
@[go_sem] theorem T69_zero : zeroPV T69 = some (.d .nilfunc) := by kernel_rfl
@[go_sem] theorem T69_ok : zeroOk T69 = true := by kernel_rfl
noncomputable def T71 : Ty := (tyOf Tryd.prog 71).getD ⟨.invalid, 0, 0, none⟩
@[go_sem] theorem ty71 : tyOf Tryd.prog 71 = some T71 := by kernel_rfl
noncomputable def fs71 : Array Field := match T71.desc with | .struct fs => fs | _ => #[]
@[go_sem] theorem T71_desc : T71.desc = .struct fs71 := by kernel_rfl
noncomputable def fs71_0 : Field := fs71.getD 0 default
@[go_sem] theorem fs71_at0 : fs71[0]? = some fs71_0 := by kernel_rfl
@[go_sem] theorem fs71_0_type : fs71_0.type = 3 := by kernel_rfl
@[go_sem] theorem fs71_0_off : fs71_0.offset = 0 := by kernel_rfl
@[go_sem] theorem fo71_0 : fieldOf Tryd.prog 71 0 = some (0, 1) := by kernel_rfl
noncomputable def fs71_1 : Field := fs71.getD 1 default
@[go_sem] theorem fs71_at1 : fs71[1]? = some fs71_1 := by kernel_rfl
@[go_sem] theorem fs71_1_type : fs71_1.type = 22 := by kernel_rfl
@[go_sem] theorem fs71_1_off : fs71_1.offset = 1 := by kernel_rfl
@[go_sem] theorem fo71_1 : fieldOf Tryd.prog 71 1 = some (1, 1) := by kernel_rfl
noncomputable def fs71_2 : Field := fs71.getD 2 default
@[go_sem] theorem fs71_at2 : fs71[2]? = some fs71_2 := by kernel_rfl
@[go_sem] theorem fs71_2_type : fs71_2.type = 22 := by kernel_rfl
@[go_sem] theorem fs71_2_off : fs71_2.offset = 2 := by kernel_rfl
@[go_sem] theorem fo71_2 : fieldOf Tryd.prog 71 2 = some (2, 1) := by kernel_rfl
@[go_sem] theorem pl71 : placesOf Tryd.prog fs71.toList = some [(0, 1), (1, 1), (2, 1)] := by kernel_rfl
@[go_sem] theorem T71_size : T71.size = 3 := by kernel_rfl
@[go_sem] theorem T71_bytes : T71.bytes = 56 := by kernel_rfl
@[go_sem] theorem T71_cells : zeroCells T71.zero = some [.d (.int .i64 0), .d .nilslice, .d .nilslice] := by kernel_rfl
@[go_sem] theorem T71_zero : zeroPV T71 = some (.d (.agg [(.int .i64 0), .nilslice, .nilslice])) := by kernel_rfl
@[go_sem] theorem T71_ok : zeroOk T71 = true := by kernel_rfl
noncomputable def T72 : Ty := (tyOf Tryd.prog 72).getD ⟨.invalid, 0, 0, none⟩
@[go_sem] theorem ty72 : tyOf Tryd.prog 72 = some T72 := by kernel_rfl
noncomputable def fs72 : Array Field := match T72.desc with | .struct fs => fs | _ => #[]
@[go_sem] theorem T72_desc : T72.desc = .struct fs72 := by kernel_rfl
noncomputable def fs72_0 : Field := fs72.getD 0 default
@[go_sem] theorem fs72_at0 : fs72[0]? = some fs72_0 := by kernel_rfl
@[go_sem] theorem fs72_0_type : fs72_0.type = 3 := by kernel_rfl
@[go_sem] theorem fs72_0_off : fs72_0.offset = 0 := by kernel_rfl
@[go_sem] theorem fo72_0 : fieldOf Tryd.prog 72 0 = some (0, 1) := by kernel_rfl
noncomputable def fs72_1 : Field := fs72.getD 1 default
@[go_sem] theorem fs72_at1 : fs72[1]? = some fs72_1 := by kernel_rfl
@[go_sem] theorem fs72_1_type : fs72_1.type = 22 := by kernel_rfl
@[go_sem] theorem fs72_1_off : fs72_1.offset = 1 := by kernel_rfl
@[go_sem] theorem fo72_1 : fieldOf Tryd.prog 72 1 = some (1, 1) := by kernel_rfl
noncomputable def fs72_2 : Field := fs72.getD 2 default
@[go_sem] theorem fs72_at2 : fs72[2]? = some fs72_2 := by kernel_rfl
@[go_sem] theorem fs72_2_type : fs72_2.type = 22 := by kernel_rfl
@[go_sem] theorem fs72_2_off : fs72_2.offset = 2 := by kernel_rfl
@[go_sem] theorem fo72_2 : fieldOf Tryd.prog 72 2 = some (2, 1) := by kernel_rfl
@[go_sem] theorem pl72 : placesOf Tryd.prog fs72.toList = some [(0, 1), (1, 1), (2, 1)] := by kernel_rfl
@[go_sem] theorem T72_size : T72.size = 3 := by kernel_rfl
@[go_sem] theorem T72_bytes : T72.bytes = 56 := by kernel_rfl
@[go_sem] theorem T72_cells : zeroCells T72.zero = some [.d (.int .i64 0), .d .nilslice, .d .nilslice] := by kernel_rfl
@[go_sem] theorem T72_zero : zeroPV T72 = some (.d (.agg [(.int .i64 0), .nilslice, .nilslice])) := by kernel_rfl
@[go_sem] theorem T72_ok : zeroOk T72 = true := by kernel_rfl
noncomputable def T73 : Ty := (tyOf Tryd.prog 73).getD ⟨.invalid, 0, 0, none⟩
@[go_sem] theorem ty73 : tyOf Tryd.prog 73 = some T73 := by kernel_rfl
@[go_sem] theorem T73_desc : T73.desc = .func #[74] #[26, 4] false := by kernel_rfl
@[go_sem] theorem T73_size : T73.size = 1 := by kernel_rfl
@[go_sem] theorem T73_bytes : T73.bytes = 8 := by kernel_rfl
@[go_sem] theorem T73_zero : zeroPV T73 = some (.d .nilfunc) := by kernel_rfl
@[go_sem] theorem T73_ok : zeroOk T73 = true := by kernel_rfl
noncomputable def T74 : Ty := (tyOf Tryd.prog 74).getD ⟨.invalid, 0, 0, none⟩
@[go_sem] theorem ty74 : tyOf Tryd.prog 74 = some T74 := by kernel_rfl
@[go_sem] theorem T74_desc : T74.desc = .func #[3, 3] #[4] false := by kernel_rfl
@[go_sem] theorem T74_size : T74.size = 1 := by kernel_rfl
@[go_sem] theorem T74_bytes : T74.bytes = 8 := by kernel_rfl
@[go_sem] theorem T74_zero : zeroPV T74 = some (.d .nilfunc) := by kernel_rfl
@[go_sem] theorem T74_ok : zeroOk T74 = true := by kernel_rfl
noncomputable def T75 : Ty := (tyOf Tryd.prog 75).getD ⟨.invalid, 0, 0, none⟩
@[go_sem] theorem ty75 : tyOf Tryd.prog 75 = some T75 := by kernel_rfl
@[go_sem] theorem T75_desc : T75.desc = .pointer 81 := by kernel_rfl
@[go_sem] theorem T75_size : T75.size = 1 := by kernel_rfl
@[go_sem] theorem T75_bytes : T75.bytes = 8 := by kernel_rfl
@[go_sem] theorem T75_zero : zeroPV T75 = some (.d .nilptr) := by kernel_rfl
@[go_sem] theorem T75_ok : zeroOk T75 = true := by kernel_rfl
noncomputable def T76 : Ty := (tyOf Tryd.prog 76).getD ⟨.invalid, 0, 0, none⟩
@[go_sem] theorem ty76 : tyOf Tryd.prog 76 = some T76 := by kernel_rfl
@[go_sem] theorem T76_desc : T76.desc = .slice 120 := by kernel_rfl
@[go_sem] theorem es76 : elemSize Tryd.prog 76 = some 3 := by kernel_rfl
@[go_sem] theorem T76_size : T76.size = 1 := by kernel_rfl
@[go_sem] theorem T76_bytes : T76.bytes = 24 := by kernel_rfl
@[go_sem] theorem T76_zero : zeroPV T76 = some (.d .nilslice) := by kernel_rfl
@[go_sem] theorem T76_ok : zeroOk T76 = true := by kernel_rfl
noncomputable def T77 : Ty := (tyOf Tryd.prog 77).getD ⟨.invalid, 0, 0, none⟩
@[go_sem] theorem ty77 : tyOf Tryd.prog 77 = some T77 := by kernel_rfl
noncomputable def fs77 : Array Field := match T77.desc with | .struct fs => fs | _ => #[]
@[go_sem] theorem T77_desc : T77.desc = .struct fs77 := by kernel_rfl
noncomputable def fs77_0 : Field := fs77.getD 0 default
@[go_sem] theorem fs77_at0 : fs77[0]? = some fs77_0 := by kernel_rfl
@[go_sem] theorem fs77_0_type : fs77_0.type = 26 := by kernel_rfl
@[go_sem] theorem fs77_0_off : fs77_0.offset = 0 := by kernel_rfl
@[go_sem] theorem fo77_0 : fieldOf Tryd.prog 77 0 = some (0, 1) := by kernel_rfl
noncomputable def fs77_1 : Field := fs77.getD 1 default
@[go_sem] theorem fs77_at1 : fs77[1]? = some fs77_1 := by kernel_rfl
@[go_sem] theorem fs77_1_type : fs77_1.type = 26 := by kernel_rfl
@[go_sem] theorem fs77_1_off : fs77_1.offset = 1 := by kernel_rfl
@[go_sem] theorem fo77_1 : fieldOf Tryd.prog 77 1 = some (1, 1) := by kernel_rfl
noncomputable def fs77_2 : Field := fs77.getD 2 default
@[go_sem] theorem fs77_at2 : fs77[2]? = some fs77_2 := by kernel_rfl
@[go_sem] theorem fs77_2_type : fs77_2.type = 76 := by kernel_rfl
@[go_sem] theorem fs77_2_off : fs77_2.offset = 2 := by kernel_rfl
@[go_sem] theorem fo77_2 : fieldOf Tryd.prog 77 2 = some (2, 1) := by kernel_rfl
@[go_sem] theorem pl77 : placesOf Tryd.prog fs77.toList = some [(0, 1), (1, 1), (2, 1)] := by kernel_rfl
@[go_sem] theorem T77_size : T77.size = 3 := by kernel_rfl
@[go_sem] theorem T77_bytes : T77.bytes = 72 := by kernel_rfl
@[go_sem] theorem T77_cells : zeroCells T77.zero = some [.d .nilslice, .d .nilslice, .d .nilslice] := by kernel_rfl
@[go_sem] theorem T77_zero : zeroPV T77 = some (.d (.agg [.nilslice, .nilslice, .nilslice])) := by kernel_rfl
@[go_sem] theorem T77_ok : zeroOk T77 = true := by kernel_rfl
noncomputable def T78 : Ty := (tyOf Tryd.prog 78).getD ⟨.invalid, 0, 0, none⟩
@[go_sem] theorem ty78 : tyOf Tryd.prog 78 = some T78 := by kernel_rfl
noncomputable def fs78 : Array Field := match T78.desc with | .struct fs => fs | _ => #[]
@[go_sem] theorem T78_desc : T78.desc = .struct fs78 := by kernel_rfl
noncomputable def fs78_0 : Field := fs78.getD 0 default
@[go_sem] theorem fs78_at0 : fs78[0]? = some fs78_0 := by kernel_rfl
@[go_sem] theorem fs78_0_type : fs78_0.type = 26 := by kernel_rfl
@[go_sem] theorem fs78_0_off : fs78_0.offset = 0 := by kernel_rfl
@[go_sem] theorem fo78_0 : fieldOf Tryd.prog 78 0 = some (0, 1) := by kernel_rfl
noncomputable def fs78_1 : Field := fs78.getD 1 default
@[go_sem] theorem fs78_at1 : fs78[1]? = some fs78_1 := by kernel_rfl
@[go_sem] theorem fs78_1_type : fs78_1.type = 26 := by kernel_rfl
@[go_sem] theorem fs78_1_off : fs78_1.offset = 1 := by kernel_rfl
@[go_sem] theorem fo78_1 : fieldOf Tryd.prog 78 1 = some (1, 1) := by kernel_rfl
noncomputable def fs78_2 : Field := fs78.getD 2 default
@[go_sem] theorem fs78_at2 : fs78[2]? = some fs78_2 := by kernel_rfl
@[go_sem] theorem fs78_2_type : fs78_2.type = 76 := by kernel_rfl
@[go_sem] theorem fs78_2_off : fs78_2.offset = 2 := by kernel_rfl
@[go_sem] theorem fo78_2 : fieldOf Tryd.prog 78 2 = some (2, 1) := by kernel_rfl
@[go_sem] theorem pl78 : placesOf Tryd.prog fs78.toList = some [(0, 1), (1, 1), (2, 1)] := by kernel_rfl
@[go_sem] theorem T78_size : T78.size = 3 := by kernel_rfl
@[go_sem] theorem T78_bytes : T78.bytes = 72 := by kernel_rfl
@[go_sem] theorem T78_cells : zeroCells T78.zero = some [.d .nilslice, .d .nilslice, .d .nilslice] := by kernel_rfl
@[go_sem] theorem T78_zero : zeroPV T78 = some (.d (.agg [.nilslice, .nilslice, .nilslice])) := by kernel_rfl
@[go_sem] theorem T78_ok : zeroOk T78 = true := by kernel_rfl
noncomputable def T79 : Ty := (tyOf Tryd.prog 79).getD ⟨.invalid, 0, 0, none⟩
@[go_sem] theorem ty79 : tyOf Tryd.prog 79 = some T79 := by kernel_rfl
@[go_sem] theorem T79_desc : T79.desc = .slice 26 := by kernel_rfl
@[go_sem] theorem es79 : elemSize Tryd.prog 79 = some 1 := by kernel_rfl
@[go_sem] theorem T79_size : T79.size = 1 := by kernel_rfl
@[go_sem] theorem T79_bytes : T79.bytes = 24 := by kernel_rfl
@[go_sem] theorem T79_zero : zeroPV T79 = some (.d .nilslice) := by kernel_rfl
@[go_sem] theorem T79_ok : zeroOk T79 = true := by kernel_rfl
noncomputable def T80 : Ty := (tyOf Tryd.prog 80).getD ⟨.invalid, 0, 0, none⟩
@[go_sem] theorem ty80 : tyOf Tryd.prog 80 = some T80 := by kernel_rfl
noncomputable def fs80 : Array Field := match T80.desc with | .struct fs => fs | _ => #[]
@[go_sem] theorem T80_desc : T80.desc = .struct fs80 := by kernel_rfl
noncomputable def fs80_0 : Field := fs80.getD 0 default
@[go_sem] theorem fs80_at0 : fs80[0]? = some fs80_0 := by kernel_rfl
@[go_sem] theorem fs80_0_type : fs80_0.type = 3 := by kernel_rfl
@[go_sem] theorem fs80_0_off : fs80_0.offset = 0 := by kernel_rfl
@[go_sem] theorem fo80_0 : fieldOf Tryd.prog 80 0 = some (0, 1) := by kernel_rfl
noncomputable def fs80_1 : Field := fs80.getD 1 default
@[go_sem] theorem fs80_at1 : fs80[1]? = some fs80_1 := by kernel_rfl
@[go_sem] theorem fs80_1_type : fs80_1.type = 22 := by kernel_rfl
@[go_sem] theorem fs80_1_off : fs80_1.offset = 1 := by kernel_rfl
@[go_sem] theorem fo80_1 : fieldOf Tryd.prog 80 1 = some (1, 1) := by kernel_rfl
noncomputable def fs80_2 : Field := fs80.getD 2 default
@[go_sem] theorem fs80_at2 : fs80[2]? = some fs80_2 := by kernel_rfl
@[go_sem] theorem fs80_2_type : fs80_2.type = 78 := by kernel_rfl
@[go_sem] theorem fs80_2_off : fs80_2.offset = 2 := by kernel_rfl
@[go_sem] theorem fo80_2 : fieldOf Tryd.prog 80 2 = some (2, 3) := by kernel_rfl
noncomputable def fs80_3 : Field := fs80.getD 3 default
@[go_sem] theorem fs80_at3 : fs80[3]? = some fs80_3 := by kernel_rfl
@[go_sem] theorem fs80_3_type : fs80_3.type = 79 := by kernel_rfl
@[go_sem] theorem fs80_3_off : fs80_3.offset = 5 := by kernel_rfl
@[go_sem] theorem fo80_3 : fieldOf Tryd.prog 80 3 = some (5, 1) := by kernel_rfl
noncomputable def fs80_4 : Field := fs80.getD 4 default
@[go_sem] theorem fs80_at4 : fs80[4]? = some fs80_4 := by kernel_rfl
@[go_sem] theorem fs80_4_type : fs80_4.type = 26 := by kernel_rfl
@[go_sem] theorem fs80_4_off : fs80_4.offset = 6 := by kernel_rfl
@[go_sem] theorem fo80_4 : fieldOf Tryd.prog 80 4 = some (6, 1) := by kernel_rfl
noncomputable def fs80_5 : Field := fs80.getD 5 default
@[go_sem] theorem fs80_at5 : fs80[5]? = some fs80_5 := by kernel_rfl
@[go_sem] theorem fs80_5_type : fs80_5.type = 32 := by kernel_rfl
@[go_sem] theorem fs80_5_off : fs80_5.offset = 7 := by kernel_rfl
@[go_sem] theorem fo80_5 : fieldOf Tryd.prog 80 5 = some (7, 1) := by kernel_rfl
@[go_sem] theorem pl80 : placesOf Tryd.prog fs80.toList = some [(0, 1), (1, 1), (2, 3), (5, 1), (6, 1), (7, 1)] := by kernel_rfl
@[go_sem] theorem T80_size : T80.size = 8 := by kernel_rfl
@[go_sem] theorem T80_bytes : T80.bytes = 176 := by kernel_rfl
@[go_sem] theorem T80_cells : zeroCells T80.zero = some [.d (.int .i64 0), .d .nilslice, .d .nilslice, .d .nilslice, .d .nilslice, .d .nilslice, .d .nilslice, .d .nilslice] := by kernel_rfl
@[go_sem] theorem T80_zero : zeroPV T80 = some (.d (.agg [(.int .i64 0), .nilslice, .nilslice, .nilslice, .nilslice, .nilslice, .nilslice, .nilslice])) := by kernel_rfl
@[go_sem] theorem T80_ok : zeroOk T80 = true := by kernel_rfl
noncomputable def T81 : Ty := (tyOf Tryd.prog 81).getD ⟨.invalid, 0, 0, none⟩
@[go_sem] theorem ty81 : tyOf Tryd.prog 81 = some T81 := by kernel_rfl
noncomputable def fs81 : Array Field := match T81.desc with | .struct fs => fs | _ => #[]
@[go_sem] theorem T81_desc : T81.desc = .struct fs81 := by kernel_rfl
noncomputable def fs81_0 : Field := fs81.getD 0 default
@[go_sem] theorem fs81_at0 : fs81[0]? = some fs81_0 := by kernel_rfl
@[go_sem] theorem fs81_0_type : fs81_0.type = 3 := by kernel_rfl
@[go_sem] theorem fs81_0_off : fs81_0.offset = 0 := by kernel_rfl
@[go_sem] theorem fo81_0 : fieldOf Tryd.prog 81 0 = some (0, 1) := by kernel_rfl
noncomputable def fs81_1 : Field := fs81.getD 1 default
@[go_sem] theorem fs81_at1 : fs81[1]? = some fs81_1 := by kernel_rfl
@[go_sem] theorem fs81_1_type : fs81_1.type = 22 := by kernel_rfl
@[go_sem] theorem fs81_1_off : fs81_1.offset = 1 := by kernel_rfl
@[go_sem] theorem fo81_1 : fieldOf Tryd.prog 81 1 = some (1, 1) := by kernel_rfl
noncomputable def fs81_2 : Field := fs81.getD 2 default
@[go_sem] theorem fs81_at2 : fs81[2]? = some fs81_2 := by kernel_rfl
@[go_sem] theorem fs81_2_type : fs81_2.type = 78 := by kernel_rfl
@[go_sem] theorem fs81_2_off : fs81_2.offset = 2 := by kernel_rfl
@[go_sem] theorem fo81_2 : fieldOf Tryd.prog 81 2 = some (2, 3) := by kernel_rfl
noncomputable def fs81_3 : Field := fs81.getD 3 default
@[go_sem] theorem fs81_at3 : fs81[3]? = some fs81_3 := by kernel_rfl
@[go_sem] theorem fs81_3_type : fs81_3.type = 79 := by kernel_rfl
@[go_sem] theorem fs81_3_off : fs81_3.offset = 5 := by kernel_rfl
@[go_sem] theorem fo81_3 : fieldOf Tryd.prog 81 3 = some (5, 1) := by kernel_rfl
noncomputable def fs81_4 : Field := fs81.getD 4 default
@[go_sem] theorem fs81_at4 : fs81[4]? = some fs81_4 := by kernel_rfl
@[go_sem] theorem fs81_4_type : fs81_4.type = 26 := by kernel_rfl
@[go_sem] theorem fs81_4_off : fs81_4.offset = 6 := by kernel_rfl
@[go_sem] theorem fo81_4 : fieldOf Tryd.prog 81 4 = some (6, 1) := by kernel_rfl
noncomputable def fs81_5 : Field := fs81.getD 5 default
@[go_sem] theorem fs81_at5 : fs81[5]? = some fs81_5 := by kernel_rfl
@[go_sem] theorem fs81_5_type : fs81_5.type = 32 := by kernel_rfl
@[go_sem] theorem fs81_5_off : fs81_5.offset = 7 := by kernel_rfl
@[go_sem] theorem fo81_5 : fieldOf Tryd.prog 81 5 = some (7, 1) := by kernel_rfl
@[go_sem] theorem pl81 : placesOf Tryd.prog fs81.toList = some [(0, 1), (1, 1), (2, 3), (5, 1), (6, 1), (7, 1)] := by kernel_rfl
@[go_sem] theorem T81_size : T81.size = 8 := by kernel_rfl
@[go_sem] theorem T81_bytes : T81.bytes = 176 := by kernel_rfl
@[go_sem] theorem T81_cells : zeroCells T81.zero = some [.d (.int .i64 0), .d .nilslice, .d .nilslice, .d .nilslice, .d .nilslice, .d .nilslice, .d .nilslice, .d .nilslice] := by kernel_rfl
@[go_sem] theorem T81_zero : zeroPV T81 = some (.d (.agg [(.int .i64 0), .nilslice, .nilslice, .nilslice, .nilslice, .nilslice, .nilslice, .nilslice])) := by kernel_rfl
@[go_sem] theorem T81_ok : zeroOk T81 = true := by kernel_rfl
noncomputable def T82 : Ty := (tyOf Tryd.prog 82).getD ⟨.invalid, 0, 0, none⟩
@[go_sem] theorem ty82 : tyOf Tryd.prog 82 = some T82 := by kernel_rfl
@[go_sem] theorem T82_desc : T82.desc = .func #[22] #[3] false := by kernel_rfl
@[go_sem] theorem T82_size : T82.size = 1 := by kernel_rfl
@[go_sem] theorem T82_bytes : T82.bytes = 8 := by kernel_rfl
@[go_sem] theorem T82_zero : zeroPV T82 = some (.d .nilfunc) := by kernel_rfl
@[go_sem] theorem T82_ok : zeroOk T82 = true := by kernel_rfl
noncomputable def T83 : Ty := (tyOf Tryd.prog 83).getD ⟨.invalid, 0, 0, none⟩
@[go_sem] theorem ty83 : tyOf Tryd.prog 83 = some T83 := by kernel_rfl
@[go_sem] theorem T83_desc : T83.desc = .func #[3, 3] #[26] false := by kernel_rfl
@[go_sem] theorem T83_size : T83.size = 1 := by kernel_rfl
@[go_sem] theorem T83_bytes : T83.bytes = 8 := by kernel_rfl
@[go_sem] theorem T83_zero : zeroPV T83 = some (.d .nilfunc) := by kernel_rfl
@[go_sem] theorem T83_ok : zeroOk T83 = true := by kernel_rfl
noncomputable def T84 : Ty := (tyOf Tryd.prog 84).getD ⟨.invalid, 0, 0, none⟩
@[go_sem] theorem ty84 : tyOf Tryd.prog 84 = some T84 := by kernel_rfl
@[go_sem] theorem T84_desc : T84.desc = .func #[22, 3, 3] #[26] false := by kernel_rfl
@[go_sem] theorem T84_size : T84.size = 1 := by kernel_rfl
@[go_sem] theorem T84_bytes : T84.bytes = 8 := by kernel_rfl
@[go_sem] theorem T84_zero : zeroPV T84 = some (.d .nilfunc) := by kernel_rfl
@[go_sem] theorem T84_ok : zeroOk T84 = true := by kernel_rfl
noncomputable def T85 : Ty := (tyOf Tryd.prog 85).getD ⟨.invalid, 0, 0, none⟩
@[go_sem] theorem ty85 : tyOf Tryd.prog 85 = some T85 := by kernel_rfl
@[go_sem] theorem T85_desc : T85.desc = .func #[22, 3, 3, 3] #[3] false := by kernel_rfl
@[go_sem] theorem T85_size : T85.size = 1 := by kernel_rfl
@[go_sem] theorem T85_bytes : T85.bytes = 8 := by kernel_rfl
@[go_sem] theorem T85_zero : zeroPV T85 = some (.d .nilfunc) := by kernel_rfl
@[go_sem] theorem T85_ok : zeroOk T85 = true := by kernel_rfl
noncomputable def T86 : Ty := (tyOf Tryd.prog 86).getD ⟨.invalid, 0, 0, none⟩
@[go_sem] theorem ty86 : tyOf Tryd.prog 86 = some T86 := by kernel_rfl
@[go_sem] theorem T86_desc : T86.desc = .func #[3, 3] #[3] false := by kernel_rfl
@[go_sem] theorem T86_size : T86.size = 1 := by kernel_rfl
@[go_sem] theorem T86_bytes : T86.bytes = 8 := by kernel_rfl
@[go_sem] theorem T86_zero : zeroPV T86 = some (.d .nilfunc) := by kernel_rfl
@[go_sem] theorem T86_ok : zeroOk T86 = true := by kernel_rfl
noncomputable def T87 : Ty := (tyOf Tryd.prog 87).getD ⟨.invalid, 0, 0, none⟩
@[go_sem] theorem ty87 : tyOf Tryd.prog 87 = some T87 := by kernel_rfl
@[go_sem] theorem T87_desc : T87.desc = .func #[3, 26] #[26] false := by kernel_rfl
@[go_sem] theorem T87_size : T87.size = 1 := by kernel_rfl
@[go_sem] theorem T87_bytes : T87.bytes = 8 := by kernel_rfl
@[go_sem] theorem T87_zero : zeroPV T87 = some (.d .nilfunc) := by kernel_rfl
@[go_sem] theorem T87_ok : zeroOk T87 = true := by kernel_rfl
noncomputable def T88 : Ty := (tyOf Tryd.prog 88).getD ⟨.invalid, 0, 0, none⟩
@[go_sem] theorem ty88 : tyOf Tryd.prog 88 = some T88 := by kernel_rfl
@[go_sem] theorem T88_desc : T88.desc = .pointer 92 := by kernel_rfl
@[go_sem] theorem T88_size : T88.size = 1 := by kernel_rfl
@[go_sem] theorem T88_bytes : T88.bytes = 8 := by kernel_rfl
@[go_sem] theorem T88_zero : zeroPV T88 = some (.d .nilptr) := by kernel_rfl
@[go_sem] theorem T88_ok : zeroOk T88 = true := by kernel_rfl
noncomputable def T89 : Ty := (tyOf Tryd.prog 89).getD ⟨.invalid, 0, 0, none⟩
@[go_sem] theorem ty89 : tyOf Tryd.prog 89 = some T89 := by kernel_rfl
@[go_sem] theorem T89_desc : T89.desc = .map 121 3 := by kernel_rfl
@[go_sem] theorem T89_size : T89.size = 1 := by kernel_rfl
@[go_sem] theorem T89_bytes : T89.bytes = 8 := by kernel_rfl
@[go_sem] theorem T89_zero : zeroPV T89 = some (.d .nilmap) := by kernel_rfl
@[go_sem] theorem T89_ok : zeroOk T89 = true := by kernel_rfl
noncomputable def T90 : Ty := (tyOf Tryd.prog 90).getD ⟨.invalid, 0, 0, none⟩
@[go_sem] theorem ty90 : tyOf Tryd.prog 90 = some T90 := by kernel_rfl
@[go_sem] theorem T90_desc : T90.desc = .map 9 3 := by kernel_rfl
@[go_sem] theorem T90_size : T90.size = 1 := by kernel_rfl
@[go_sem] theorem T90_bytes : T90.bytes = 8 := by kernel_rfl
@[go_sem] theorem T90_zero : zeroPV T90 = some (.d .nilmap) := by kernel_rfl
@[go_sem] theorem T90_ok : zeroOk T90 = true := by kernel_rfl
noncomputable def T91 : Ty := (tyOf Tryd.prog 91).getD ⟨.invalid, 0, 0, none⟩
@[go_sem] theorem ty91 : tyOf Tryd.prog 91 = some T91 := by kernel_rfl
noncomputable def fs91 : Array Field := match T91.desc with | .struct fs => fs | _ => #[]
@[go_sem] theorem T91_desc : T91.desc = .struct fs91 := by kernel_rfl
noncomputable def fs91_0 : Field := fs91.getD 0 default
@[go_sem] theorem fs91_at0 : fs91[0]? = some fs91_0 := by kernel_rfl
@[go_sem] theorem fs91_0_type : fs91_0.type = 3 := by kernel_rfl
@[go_sem] theorem fs91_0_off : fs91_0.offset = 0 := by kernel_rfl
@[go_sem] theorem fo91_0 : fieldOf Tryd.prog 91 0 = some (0, 1) := by kernel_rfl
noncomputable def fs91_1 : Field := fs91.getD 1 default
@[go_sem] theorem fs91_at1 : fs91[1]? = some fs91_1 := by kernel_rfl
@[go_sem] theorem fs91_1_type : fs91_1.type = 22 := by kernel_rfl
@[go_sem] theorem fs91_1_off : fs91_1.offset = 1 := by kernel_rfl
@[go_sem] theorem fo91_1 : fieldOf Tryd.prog 91 1 = some (1, 1) := by kernel_rfl
noncomputable def fs91_2 : Field := fs91.getD 2 default
@[go_sem] theorem fs91_at2 : fs91[2]? = some fs91_2 := by kernel_rfl
@[go_sem] theorem fs91_2_type : fs91_2.type = 89 := by kernel_rfl
@[go_sem] theorem fs91_2_off : fs91_2.offset = 2 := by kernel_rfl
@[go_sem] theorem fo91_2 : fieldOf Tryd.prog 91 2 = some (2, 1) := by kernel_rfl
noncomputable def fs91_3 : Field := fs91.getD 3 default
@[go_sem] theorem fs91_at3 : fs91[3]? = some fs91_3 := by kernel_rfl
@[go_sem] theorem fs91_3_type : fs91_3.type = 90 := by kernel_rfl
@[go_sem] theorem fs91_3_off : fs91_3.offset = 3 := by kernel_rfl
@[go_sem] theorem fo91_3 : fieldOf Tryd.prog 91 3 = some (3, 1) := by kernel_rfl
noncomputable def fs91_4 : Field := fs91.getD 4 default
@[go_sem] theorem fs91_at4 : fs91[4]? = some fs91_4 := by kernel_rfl
@[go_sem] theorem fs91_4_type : fs91_4.type = 32 := by kernel_rfl
@[go_sem] theorem fs91_4_off : fs91_4.offset = 4 := by kernel_rfl
@[go_sem] theorem fo91_4 : fieldOf Tryd.prog 91 4 = some (4, 1) := by kernel_rfl
@[go_sem] theorem pl91 : placesOf Tryd.prog fs91.toList = some [(0, 1), (1, 1), (2, 1), (3, 1), (4, 1)] := by kernel_rfl
@[go_sem] theorem T91_size : T91.size = 5 := by kernel_rfl
@[go_sem] theorem T91_bytes : T91.bytes = 72 := by kernel_rfl
@[go_sem] theorem T91_cells : zeroCells T91.zero = some [.d (.int .i64 0), .d .nilslice, .d .nilmap, .d .nilmap, .d .nilslice] := by kernel_rfl
@[go_sem] theorem T91_zero : zeroPV T91 = some (.d (.agg [(.int .i64 0), .nilslice, .nilmap, .nilmap, .nilslice])) := by kernel_rfl
@[go_sem] theorem T91_ok : zeroOk T91 = true := by kernel_rfl
noncomputable def T92 : Ty := (tyOf Tryd.prog 92).getD ⟨.invalid, 0, 0, none⟩
@[go_sem] theorem ty92 : tyOf Tryd.prog 92 = some T92 := by kernel_rfl
noncomputable def fs92 : Array Field := match T92.desc with | .struct fs => fs | _ => #[]
@[go_sem] theorem T92_desc : T92.desc = .struct fs92 := by kernel_rfl
noncomputable def fs92_0 : Field := fs92.getD 0 default
@[go_sem] theorem fs92_at0 : fs92[0]? = some fs92_0 := by kernel_rfl
@[go_sem] theorem fs92_0_type : fs92_0.type = 3 := by kernel_rfl
@[go_sem] theorem fs92_0_off : fs92_0.offset = 0 := by kernel_rfl
@[go_sem] theorem fo92_0 : fieldOf Tryd.prog 92 0 = some (0, 1) := by kernel_rfl
noncomputable def fs92_1 : Field := fs92.getD 1 default
@[go_sem] theorem fs92_at1 : fs92[1]? = some fs92_1 := by kernel_rfl
@[go_sem] theorem fs92_1_type : fs92_1.type = 22 := by kernel_rfl
@[go_sem] theorem fs92_1_off : fs92_1.offset = 1 := by kernel_rfl
@[go_sem] theorem fo92_1 : fieldOf Tryd.prog 92 1 = some (1, 1) := by kernel_rfl
noncomputable def fs92_2 : Field := fs92.getD 2 default
@[go_sem] theorem fs92_at2 : fs92[2]? = some fs92_2 := by kernel_rfl
@[go_sem] theorem fs92_2_type : fs92_2.type = 89 := by kernel_rfl
@[go_sem] theorem fs92_2_off : fs92_2.offset = 2 := by kernel_rfl
@[go_sem] theorem fo92_2 : fieldOf Tryd.prog 92 2 = some (2, 1) := by kernel_rfl
noncomputable def fs92_3 : Field := fs92.getD 3 default
@[go_sem] theorem fs92_at3 : fs92[3]? = some fs92_3 := by kernel_rfl
@[go_sem] theorem fs92_3_type : fs92_3.type = 90 := by kernel_rfl
@[go_sem] theorem fs92_3_off : fs92_3.offset = 3 := by kernel_rfl
@[go_sem] theorem fo92_3 : fieldOf Tryd.prog 92 3 = some (3, 1) := by kernel_rfl
noncomputable def fs92_4 : Field := fs92.getD 4 default
@[go_sem] theorem fs92_at4 : fs92[4]? = some fs92_4 := by kernel_rfl
@[go_sem] theorem fs92_4_type : fs92_4.type = 32 := by kernel_rfl
@[go_sem] theorem fs92_4_off : fs92_4.offset = 4 := by kernel_rfl
@[go_sem] theorem fo92_4 : fieldOf Tryd.prog 92 4 = some (4, 1) := by kernel_rfl
@[go_sem] theorem pl92 : placesOf Tryd.prog fs92.toList = some [(0, 1), (1, 1), (2, 1), (3, 1), (4, 1)] := by kernel_rfl
@[go_sem] theorem T92_size : T92.size = 5 := by kernel_rfl
@[go_sem] theorem T92_bytes : T92.bytes = 72 := by kernel_rfl
@[go_sem] theorem T92_cells : zeroCells T92.zero = some [.d (.int .i64 0), .d .nilslice, .d .nilmap, .d .nilmap, .d .nilslice] := by kernel_rfl
@[go_sem] theorem T92_zero : zeroPV T92 = some (.d (.agg [(.int .i64 0), .nilslice, .nilmap, .nilmap, .nilslice])) := by kernel_rfl
@[go_sem] theorem T92_ok : zeroOk T92 = true := by kernel_rfl
noncomputable def T93 : Ty := (tyOf Tryd.prog 93).getD ⟨.invalid, 0, 0, none⟩
@[go_sem] theorem ty93 : tyOf Tryd.prog 93 = some T93 := by kernel_rfl
@[go_sem] theorem T93_desc : T93.desc = .func #[3, 95] #[3] false := by kernel_rfl
@[go_sem] theorem T93_size : T93.size = 1 := by kernel_rfl
@[go_sem] theorem T93_bytes : T93.bytes = 8 := by kernel_rfl
@[go_sem] theorem T93_zero : zeroPV T93 = some (.d .nilfunc) := by kernel_rfl
@[go_sem] theorem T93_ok : zeroOk T93 = true := by kernel_rfl
noncomputable def T94 : Ty := (tyOf Tryd.prog 94).getD ⟨.invalid, 0, 0, none⟩
@[go_sem] theorem ty94 : tyOf Tryd.prog 94 = some T94 := by kernel_rfl
@[go_sem] theorem T94_desc : T94.desc = .int .u32 := by kernel_rfl
@[go_sem] theorem T94_size : T94.size = 1 := by kernel_rfl
@[go_sem] theorem T94_bytes : T94.bytes = 4 := by kernel_rfl
@[go_sem] theorem T94_zero : zeroPV T94 = some (.d (.int .u32 0)) := by kernel_rfl
@[go_sem] theorem T94_ok : zeroOk T94 = true := by kernel_rfl
noncomputable def T95 : Ty := (tyOf Tryd.prog 95).getD ⟨.invalid, 0, 0, none⟩
@[go_sem] theorem ty95 : tyOf Tryd.prog 95 = some T95 := by kernel_rfl
@[go_sem] theorem T95_desc : T95.desc = .int .u32 := by kernel_rfl
@[go_sem] theorem T95_size : T95.size = 1 := by kernel_rfl
@[go_sem] theorem T95_bytes : T95.bytes = 4 := by kernel_rfl
@[go_sem] theorem T95_zero : zeroPV T95 = some (.d (.int .u32 0)) := by kernel_rfl
@[go_sem] theorem T95_ok : zeroOk T95 = true := by kernel_rfl
noncomputable def T96 : Ty := (tyOf Tryd.prog 96).getD ⟨.invalid, 0, 0, none⟩
@[go_sem] theorem ty96 : tyOf Tryd.prog 96 = some T96 := by kernel_rfl
@[go_sem] theorem T96_desc : T96.desc = .func #[22] #[95] false := by kernel_rfl
@[go_sem] theorem T96_size : T96.size = 1 := by kernel_rfl
@[go_sem] theorem T96_bytes : T96.bytes = 8 := by kernel_rfl
@[go_sem] theorem T96_zero : zeroPV T96 = some (.d .nilfunc) := by kernel_rfl
@[go_sem] theorem T96_ok : zeroOk T96 = true := by kernel_rfl
noncomputable def T97 : Ty := (tyOf Tryd.prog 97).getD ⟨.invalid, 0, 0, none⟩
@[go_sem] theorem ty97 : tyOf Tryd.prog 97 = some T97 := by kernel_rfl
@[go_sem] theorem T97_desc : T97.desc = .func #[3] #[32] false := by kernel_rfl
@[go_sem] theorem T97_size : T97.size = 1 := by kernel_rfl
@[go_sem] theorem T97_bytes : T97.bytes = 8 := by kernel_rfl
@[go_sem] theorem T97_zero : zeroPV T97 = some (.d .nilfunc) := by kernel_rfl
@[go_sem] theorem T97_ok : zeroOk T97 = true := by kernel_rfl
noncomputable def T98 : Ty := (tyOf Tryd.prog 98).getD ⟨.invalid, 0, 0, none⟩
@[go_sem] theorem ty98 : tyOf Tryd.prog 98 = some T98 := by kernel_rfl
@[go_sem] theorem T98_desc : T98.desc = .func #[3, 22] #[26] false := by kernel_rfl
@[go_sem] theorem T98_size : T98.size = 1 := by kernel_rfl
@[go_sem] theorem T98_bytes : T98.bytes = 8 := by kernel_rfl
@[go_sem] theorem T98_zero : zeroPV T98 = some (.d .nilfunc) := by kernel_rfl
@[go_sem] theorem T98_ok : zeroOk T98 = true := by kernel_rfl
noncomputable def T99 : Ty := (tyOf Tryd.prog 99).getD ⟨.invalid, 0, 0, none⟩
@[go_sem] theorem ty99 : tyOf Tryd.prog 99 = some T99 := by kernel_rfl
@[go_sem] theorem T99_desc : T99.desc = .func #[3, 22, 22] #[26, 4] false := by kernel_rfl
@[go_sem] theorem T99_size : T99.size = 1 := by kernel_rfl
@[go_sem] theorem T99_bytes : T99.bytes = 8 := by kernel_rfl
@[go_sem] theorem T99_zero : zeroPV T99 = some (.d .nilfunc) := by kernel_rfl
@[go_sem] theorem T99_ok : zeroOk T99 = true := by kernel_rfl
noncomputable def T100 : Ty := (tyOf Tryd.prog 100).getD ⟨.invalid, 0, 0, none⟩
@[go_sem] theorem ty100 : tyOf Tryd.prog 100 = some T100 := by kernel_rfl
@[go_sem] theorem T100_desc : T100.desc = .pointer 102 := by kernel_rfl
@[go_sem] theorem T100_size : T100.size = 1 := by kernel_rfl
@[go_sem] theorem T100_bytes : T100.bytes = 8 := by kernel_rfl
@[go_sem] theorem T100_zero : zeroPV T100 = some (.d .nilptr) := by kernel_rfl
@[go_sem] theorem T100_ok : zeroOk T100 = true := by kernel_rfl
noncomputable def T101 : Ty := (tyOf Tryd.prog 101).getD ⟨.invalid, 0, 0, none⟩
@[go_sem] theorem ty101 : tyOf Tryd.prog 101 = some T101 := by kernel_rfl
noncomputable def fs101 : Array Field := match T101.desc with | .struct fs => fs | _ => #[]
@[go_sem] theorem T101_desc : T101.desc = .struct fs101 := by kernel_rfl
noncomputable def fs101_0 : Field := fs101.getD 0 default
@[go_sem] theorem fs101_at0 : fs101[0]? = some fs101_0 := by kernel_rfl
@[go_sem] theorem fs101_0_type : fs101_0.type = 3 := by kernel_rfl
@[go_sem] theorem fs101_0_off : fs101_0.offset = 0 := by kernel_rfl
@[go_sem] theorem fo101_0 : fieldOf Tryd.prog 101 0 = some (0, 1) := by kernel_rfl
noncomputable def fs101_1 : Field := fs101.getD 1 default
@[go_sem] theorem fs101_at1 : fs101[1]? = some fs101_1 := by kernel_rfl
@[go_sem] theorem fs101_1_type : fs101_1.type = 22 := by kernel_rfl
@[go_sem] theorem fs101_1_off : fs101_1.offset = 1 := by kernel_rfl
@[go_sem] theorem fo101_1 : fieldOf Tryd.prog 101 1 = some (1, 1) := by kernel_rfl
noncomputable def fs101_2 : Field := fs101.getD 2 default
@[go_sem] theorem fs101_at2 : fs101[2]? = some fs101_2 := by kernel_rfl
@[go_sem] theorem fs101_2_type : fs101_2.type = 22 := by kernel_rfl
@[go_sem] theorem fs101_2_off : fs101_2.offset = 2 := by kernel_rfl
@[go_sem] theorem fo101_2 : fieldOf Tryd.prog 101 2 = some (2, 1) := by kernel_rfl
noncomputable def fs101_3 : Field := fs101.getD 3 default
@[go_sem] theorem fs101_at3 : fs101[3]? = some fs101_3 := by kernel_rfl
@[go_sem] theorem fs101_3_type : fs101_3.type = 78 := by kernel_rfl
@[go_sem] theorem fs101_3_off : fs101_3.offset = 3 := by kernel_rfl
@[go_sem] theorem fo101_3 : fieldOf Tryd.prog 101 3 = some (3, 3) := by kernel_rfl
@[go_sem] theorem pl101 : placesOf Tryd.prog fs101.toList = some [(0, 1), (1, 1), (2, 1), (3, 3)] := by kernel_rfl
@[go_sem] theorem T101_size : T101.size = 6 := by kernel_rfl
@[go_sem] theorem T101_bytes : T101.bytes = 128 := by kernel_rfl
@[go_sem] theorem T101_cells : zeroCells T101.zero = some [.d (.int .i64 0), .d .nilslice, .d .nilslice, .d .nilslice, .d .nilslice, .d .nilslice] := by kernel_rfl
@[go_sem] theorem T101_zero : zeroPV T101 = some (.d (.agg [(.int .i64 0), .nilslice, .nilslice, .nilslice, .nilslice, .nilslice])) := by kernel_rfl
@[go_sem] theorem T101_ok : zeroOk T101 = true := by kernel_rfl
noncomputable def T102 : Ty := (tyOf Tryd.prog 102).getD ⟨.invalid, 0, 0, none⟩
@[go_sem] theorem ty102 : tyOf Tryd.prog 102 = some T102 := by kernel_rfl
noncomputable def fs102 : Array Field := match T102.desc with | .struct fs => fs | _ => #[]
@[go_sem] theorem T102_desc : T102.desc = .struct fs102 := by kernel_rfl
noncomputable def fs102_0 : Field := fs102.getD 0 default
@[go_sem] theorem fs102_at0 : fs102[0]? = some fs102_0 := by kernel_rfl
@[go_sem] theorem fs102_0_type : fs102_0.type = 3 := by kernel_rfl
@[go_sem] theorem fs102_0_off : fs102_0.offset = 0 := by kernel_rfl
@[go_sem] theorem fo102_0 : fieldOf Tryd.prog 102 0 = some (0, 1) := by kernel_rfl
noncomputable def fs102_1 : Field := fs102.getD 1 default
@[go_sem] theorem fs102_at1 : fs102[1]? = some fs102_1 := by kernel_rfl
@[go_sem] theorem fs102_1_type : fs102_1.type = 22 := by kernel_rfl
@[go_sem] theorem fs102_1_off : fs102_1.offset = 1 := by kernel_rfl
@[go_sem] theorem fo102_1 : fieldOf Tryd.prog 102 1 = some (1, 1) := by kernel_rfl
noncomputable def fs102_2 : Field := fs102.getD 2 default
@[go_sem] theorem fs102_at2 : fs102[2]? = some fs102_2 := by kernel_rfl
@[go_sem] theorem fs102_2_type : fs102_2.type = 22 := by kernel_rfl
@[go_sem] theorem fs102_2_off : fs102_2.offset = 2 := by kernel_rfl
@[go_sem] theorem fo102_2 : fieldOf Tryd.prog 102 2 = some (2, 1) := by kernel_rfl
noncomputable def fs102_3 : Field := fs102.getD 3 default
@[go_sem] theorem fs102_at3 : fs102[3]? = some fs102_3 := by kernel_rfl
@[go_sem] theorem fs102_3_type : fs102_3.type = 78 := by kernel_rfl
@[go_sem] theorem fs102_3_off : fs102_3.offset = 3 := by kernel_rfl
@[go_sem] theorem fo102_3 : fieldOf Tryd.prog 102 3 = some (3, 3) := by kernel_rfl
@[go_sem] theorem pl102 : placesOf Tryd.prog fs102.toList = some [(0, 1), (1, 1), (2, 1), (3, 3)] := by kernel_rfl
@[go_sem] theorem T102_size : T102.size = 6 := by kernel_rfl
@[go_sem] theorem T102_bytes : T102.bytes = 128 := by kernel_rfl
@[go_sem] theorem T102_cells : zeroCells T102.zero = some [.d (.int .i64 0), .d .nilslice, .d .nilslice, .d .nilslice, .d .nilslice, .d .nilslice] := by kernel_rfl
@[go_sem] theorem T102_zero : zeroPV T102 = some (.d (.agg [(.int .i64 0), .nilslice, .nilslice, .nilslice, .nilslice, .nilslice])) := by kernel_rfl
@[go_sem] theorem T102_ok : zeroOk T102 = true := by kernel_rfl
noncomputable def T103 : Ty := (tyOf Tryd.prog 103).getD ⟨.invalid, 0, 0, none⟩
@[go_sem] theorem ty103 : tyOf Tryd.prog 103 = some T103 := by kernel_rfl
@[go_sem] theorem T103_desc : T103.desc = .func #[3, 3, 3] #[26, 4] false := by kernel_rfl
@[go_sem] theorem T103_size : T103.size = 1 := by kernel_rfl
@[go_sem] theorem T103_bytes : T103.bytes = 8 := by kernel_rfl
@[go_sem] theorem T103_zero : zeroPV T103 = some (.d .nilfunc) := by kernel_rfl
@[go_sem] theorem T103_ok : zeroOk T103 = true := by kernel_rfl
noncomputable def T104 : Ty := (tyOf Tryd.prog 104).getD ⟨.invalid, 0, 0, none⟩
@[go_sem] theorem ty104 : tyOf Tryd.prog 104 = some T104 := by kernel_rfl
@[go_sem] theorem T104_desc : T104.desc = .func #[22, 26] #[3] false := by kernel_rfl
@[go_sem] theorem T104_size : T104.size = 1 := by kernel_rfl
@[go_sem] theorem T104_bytes : T104.bytes = 8 := by kernel_rfl
@[go_sem] theorem T104_zero : zeroPV T104 = some (.d .nilfunc) := by kernel_rfl
@[go_sem] theorem T104_ok : zeroOk T104 = true := by kernel_rfl
noncomputable def T105 : Ty := (tyOf Tryd.prog 105).getD ⟨.invalid, 0, 0, none⟩
@[go_sem] theorem ty105 : tyOf Tryd.prog 105 = some T105 := by kernel_rfl
@[go_sem] theorem T105_desc : T105.desc = .func #[3] #[4] false := by kernel_rfl
@[go_sem] theorem T105_size : T105.size = 1 := by kernel_rfl
@[go_sem] theorem T105_bytes : T105.bytes = 8 := by kernel_rfl
@[go_sem] theorem T105_zero : zeroPV T105 = some (.d .nilfunc) := by kernel_rfl
@[go_sem] theorem T105_ok : zeroOk T105 = true := by kernel_rfl
noncomputable def T106 : Ty := (tyOf Tryd.prog 106).getD ⟨.invalid, 0, 0, none⟩
@[go_sem] theorem ty106 : tyOf Tryd.prog 106 = some T106 := by kernel_rfl
@[go_sem] theorem T106_desc : T106.desc = .func #[32, 108] #[4] false := by kernel_rfl
@[go_sem] theorem T106_size : T106.size = 1 := by kernel_rfl
@[go_sem] theorem T106_bytes : T106.bytes = 8 := by kernel_rfl
@[go_sem] theorem T106_zero : zeroPV T106 = some (.d .nilfunc) := by kernel_rfl
@[go_sem] theorem T106_ok : zeroOk T106 = true := by kernel_rfl
noncomputable def T107 : Ty := (tyOf Tryd.prog 107).getD ⟨.invalid, 0, 0, none⟩
@[go_sem] theorem ty107 : tyOf Tryd.prog 107 = some T107 := by kernel_rfl
@[go_sem] theorem T107_desc : T107.desc = .func #[3, 32, 37] #[4] false := by kernel_rfl
@[go_sem] theorem T107_size : T107.size = 1 := by kernel_rfl
@[go_sem] theorem T107_bytes : T107.bytes = 8 := by kernel_rfl
@[go_sem] theorem T107_zero : zeroPV T107 = some (.d .nilfunc) := by kernel_rfl
@[go_sem] theorem T107_ok : zeroOk T107 = true := by kernel_rfl
noncomputable def T108 : Ty := (tyOf Tryd.prog 108).getD ⟨.invalid, 0, 0, none⟩
@[go_sem] theorem ty108 : tyOf Tryd.prog 108 = some T108 := by kernel_rfl
@[go_sem] theorem T108_desc : T108.desc = .func #[37] #[4] false := by kernel_rfl
@[go_sem] theorem T108_size : T108.size = 1 := by kernel_rfl
@[go_sem] theorem T108_bytes : T108.bytes = 8 := by kernel_rfl
@[go_sem] theorem T108_zero : zeroPV T108 = some (.d .nilfunc) := by kernel_rfl
@[go_sem] theorem T108_ok : zeroOk T108 = true := by kernel_rfl
noncomputable def T109 : Ty := (tyOf Tryd.prog 109).getD ⟨.invalid, 0, 0, none⟩
@[go_sem] theorem ty109 : tyOf Tryd.prog 109 = some T109 := by kernel_rfl
@[go_sem] theorem T109_desc : T109.desc = .func #[26, 105] #[3] false := by kernel_rfl
@[go_sem] theorem T109_size : T109.size = 1 := by kernel_rfl
@[go_sem] theorem T109_bytes : T109.bytes = 8 := by kernel_rfl
@[go_sem] theorem T109_zero : zeroPV T109 = some (.d .nilfunc) := by kernel_rfl
@[go_sem] theorem T109_ok : zeroOk T109 = true := by kernel_rfl
noncomputable def T110 : Ty := (tyOf Tryd.prog 110).getD ⟨.invalid, 0, 0, none⟩
@[go_sem] theorem ty110 : tyOf Tryd.prog 110 = some T110 := by kernel_rfl
@[go_sem] theorem T110_desc : T110.desc = .func #[3, 32] #[4] false := by kernel_rfl
@[go_sem] theorem T110_size : T110.size = 1 := by kernel_rfl
@[go_sem] theorem T110_bytes : T110.bytes = 8 := by kernel_rfl
@[go_sem] theorem T110_zero : zeroPV T110 = some (.d .nilfunc) := by kernel_rfl
@[go_sem] theorem T110_ok : zeroOk T110 = true := by kernel_rfl
noncomputable def T111 : Ty := (tyOf Tryd.prog 111).getD ⟨.invalid, 0, 0, none⟩
@[go_sem] theorem ty111 : tyOf Tryd.prog 111 = some T111 := by kernel_rfl
@[go_sem] theorem T111_desc : T111.desc = .func #[54] #[54] false := by kernel_rfl
@[go_sem] theorem T111_size : T111.size = 1 := by kernel_rfl
@[go_sem] theorem T111_bytes : T111.bytes = 8 := by kernel_rfl
@[go_sem] theorem T111_zero : zeroPV T111 = some (.d .nilfunc) := by kernel_rfl
@[go_sem] theorem T111_ok : zeroOk T111 = true := by kernel_rfl
noncomputable def T112 : Ty := (tyOf Tryd.prog 112).getD ⟨.invalid, 0, 0, none⟩
@[go_sem] theorem ty112 : tyOf Tryd.prog 112 = some T112 := by kernel_rfl
@[go_sem] theorem T112_desc : T112.desc = .func #[22, 3, 3] #[22] false := by kernel_rfl
@[go_sem] theorem T112_size : T112.size = 1 := by kernel_rfl
@[go_sem] theorem T112_bytes : T112.bytes = 8 := by kernel_rfl
@[go_sem] theorem T112_zero : zeroPV T112 = some (.d .nilfunc) := by kernel_rfl
@[go_sem] theorem T112_ok : zeroOk T112 = true := by kernel_rfl
noncomputable def T113 : Ty := (tyOf Tryd.prog 113).getD ⟨.invalid, 0, 0, none⟩
@[go_sem] theorem ty113 : tyOf Tryd.prog 113 = some T113 := by kernel_rfl
@[go_sem] theorem T113_desc : T113.desc = .slice 22 := by kernel_rfl
@[go_sem] theorem es113 : elemSize Tryd.prog 113 = some 1 := by kernel_rfl
@[go_sem] theorem T113_size : T113.size = 1 := by kernel_rfl
@[go_sem] theorem T113_bytes : T113.bytes = 24 := by kernel_rfl
@[go_sem] theorem T113_zero : zeroPV T113 = some (.d .nilslice) := by kernel_rfl
@[go_sem] theorem T113_ok : zeroOk T113 = true := by kernel_rfl
noncomputable def T114 : Ty := (tyOf Tryd.prog 114).getD ⟨.invalid, 0, 0, none⟩
@[go_sem] theorem ty114 : tyOf Tryd.prog 114 = some T114 := by kernel_rfl
@[go_sem] theorem T114_desc : T114.desc = .func #[22, 116] #[4] false := by kernel_rfl
@[go_sem] theorem T114_size : T114.size = 1 := by kernel_rfl
@[go_sem] theorem T114_bytes : T114.bytes = 8 := by kernel_rfl
@[go_sem] theorem T114_zero : zeroPV T114 = some (.d .nilfunc) := by kernel_rfl
@[go_sem] theorem T114_ok : zeroOk T114 = true := by kernel_rfl
noncomputable def T115 : Ty := (tyOf Tryd.prog 115).getD ⟨.invalid, 0, 0, none⟩
@[go_sem] theorem ty115 : tyOf Tryd.prog 115 = some T115 := by kernel_rfl
@[go_sem] theorem T115_desc : T115.desc = .func #[3, 56] #[4] false := by kernel_rfl
@[go_sem] theorem T115_size : T115.size = 1 := by kernel_rfl
@[go_sem] theorem T115_bytes : T115.bytes = 8 := by kernel_rfl
@[go_sem] theorem T115_zero : zeroPV T115 = some (.d .nilfunc) := by kernel_rfl
@[go_sem] theorem T115_ok : zeroOk T115 = true := by kernel_rfl
noncomputable def T116 : Ty := (tyOf Tryd.prog 116).getD ⟨.invalid, 0, 0, none⟩
@[go_sem] theorem ty116 : tyOf Tryd.prog 116 = some T116 := by kernel_rfl
@[go_sem] theorem T116_desc : T116.desc = .func #[56] #[4] false := by kernel_rfl
@[go_sem] theorem T116_size : T116.size = 1 := by kernel_rfl
@[go_sem] theorem T116_bytes : T116.bytes = 8 := by kernel_rfl
@[go_sem] theorem T116_zero : zeroPV T116 = some (.d .nilfunc) := by kernel_rfl
@[go_sem] theorem T116_ok : zeroOk T116 = true := by kernel_rfl
noncomputable def T117 : Ty := (tyOf Tryd.prog 117).getD ⟨.invalid, 0, 0, none⟩
@[go_sem] theorem ty117 : tyOf Tryd.prog 117 = some T117 := by kernel_rfl
@[go_sem] theorem T117_desc : T117.desc = .map 121 4 := by kernel_rfl
@[go_sem] theorem T117_size : T117.size = 1 := by kernel_rfl
@[go_sem] theorem T117_bytes : T117.bytes = 8 := by kernel_rfl
@[go_sem] theorem T117_zero : zeroPV T117 = some (.d .nilmap) := by kernel_rfl
@[go_sem] theorem T117_ok : zeroOk T117 = true := by kernel_rfl
noncomputable def T118 : Ty := (tyOf Tryd.prog 118).getD ⟨.invalid, 0, 0, none⟩
@[go_sem] theorem ty118 : tyOf Tryd.prog 118 = some T118 := by kernel_rfl
@[go_sem] theorem T118_desc : T118.desc = .func #[3, 95, 95] #[26, 4] false := by kernel_rfl
@[go_sem] theorem T118_size : T118.size = 1 := by kernel_rfl
@[go_sem] theorem T118_bytes : T118.bytes = 8 := by kernel_rfl
@[go_sem] theorem T118_zero : zeroPV T118 = some (.d .nilfunc) := by kernel_rfl
@[go_sem] theorem T118_ok : zeroOk T118 = true := by kernel_rfl
noncomputable def T119 : Ty := (tyOf Tryd.prog 119).getD ⟨.invalid, 0, 0, none⟩
@[go_sem] theorem ty119 : tyOf Tryd.prog 119 = some T119 := by kernel_rfl
@[go_sem] theorem T119_desc : T119.desc = .func #[] #[3] false := by kernel_rfl
@[go_sem] theorem T119_size : T119.size = 1 := by kernel_rfl
@[go_sem] theorem T119_bytes : T119.bytes = 8 := by kernel_rfl
@[go_sem] theorem T119_zero : zeroPV T119 = some (.d .nilfunc) := by kernel_rfl
@[go_sem] theorem T119_ok : zeroOk T119 = true := by kernel_rfl
noncomputable def T120 : Ty := (tyOf Tryd.prog 120).getD ⟨.invalid, 0, 0, none⟩
@[go_sem] theorem ty120 : tyOf Tryd.prog 120 = some T120 := by kernel_rfl
@[go_sem] theorem egt120 : Tryd.prog.eqGuardType Tryd.prog.depth 120 = false := by kernel_rfl
@[go_sem] theorem T120_desc : T120.desc = .array 3 3 := by kernel_rfl
@[go_sem] theorem es120 : elemSize Tryd.prog 120 = none := by kernel_rfl
@[go_sem] theorem ars120 : arrSize Tryd.prog 120 = some (3, 1) := by kernel_rfl
@[go_sem] theorem T120_size : T120.size = 3 := by kernel_rfl
@[go_sem] theorem T120_bytes : T120.bytes = 24 := by kernel_rfl
@[go_sem] theorem T120_cells : zeroCells T120.zero = some [.d (.int .i64 0), .d (.int .i64 0), .d (.int .i64 0)] := by kernel_rfl
@[go_sem] theorem T120_zero : zeroPV T120 = some (.d (.agg [(.int .i64 0), (.int .i64 0), (.int .i64 0)])) := by kernel_rfl
@[go_sem] theorem T120_ok : zeroOk T120 = true := by kernel_rfl
noncomputable def T121 : Ty := (tyOf Tryd.prog 121).getD ⟨.invalid, 0, 0, none⟩
@[go_sem] theorem ty121 : tyOf Tryd.prog 121 = some T121 := by kernel_rfl
@[go_sem] theorem egt121 : Tryd.prog.eqGuardType Tryd.prog.depth 121 = false := by kernel_rfl
@[go_sem] theorem T121_desc : T121.desc = .array 3 3 := by kernel_rfl
@[go_sem] theorem es121 : elemSize Tryd.prog 121 = none := by kernel_rfl
@[go_sem] theorem ars121 : arrSize Tryd.prog 121 = some (3, 1) := by kernel_rfl
@[go_sem] theorem T121_size : T121.size = 3 := by kernel_rfl
@[go_sem] theorem T121_bytes : T121.bytes = 24 := by kernel_rfl
@[go_sem] theorem T121_cells : zeroCells T121.zero = some [.d (.int .i64 0), .d (.int .i64 0), .d (.int .i64 0)] := by kernel_rfl
@[go_sem] theorem T121_zero : zeroPV T121 = some (.d (.agg [(.int .i64 0), (.int .i64 0), (.int .i64 0)])) := by kernel_rfl
@[go_sem] theorem T121_ok : zeroOk T121 = true := by kernel_rfl
noncomputable def T122 : Ty := (tyOf Tryd.prog 122).getD ⟨.invalid, 0, 0, none⟩
@[go_sem] theorem ty122 : tyOf Tryd.prog 122 = some T122 := by kernel_rfl
@[go_sem] theorem T122_desc : T122.desc = .func #[3, 113] #[26] true := by kernel_rfl
@[go_sem] theorem T122_size : T122.size = 1 := by kernel_rfl
@[go_sem] theorem T122_bytes : T122.bytes = 8 := by kernel_rfl
@[go_sem] theorem T122_zero : zeroPV T122 = some (.d .nilfunc) := by kernel_rfl
@[go_sem] theorem T122_ok : zeroOk T122 = true := by kernel_rfl
noncomputable def T123 : Ty := (tyOf Tryd.prog 123).getD ⟨.invalid, 0, 0, none⟩
@[go_sem] theorem ty123 : tyOf Tryd.prog 123 = some T123 := by kernel_rfl
@[go_sem] theorem T123_desc : T123.desc = .func #[22, 3, 3] #[95] false := by kernel_rfl
@[go_sem] theorem T123_size : T123.size = 1 := by kernel_rfl
@[go_sem] theorem T123_bytes : T123.bytes = 8 := by kernel_rfl
@[go_sem] theorem T123_zero : zeroPV T123 = some (.d .nilfunc) := by kernel_rfl
@[go_sem] theorem T123_ok : zeroOk T123 = true := by kernel_rfl
noncomputable def T124 : Ty := (tyOf Tryd.prog 124).getD ⟨.invalid, 0, 0, none⟩
@[go_sem] theorem ty124 : tyOf Tryd.prog 124 = some T124 := by kernel_rfl
@[go_sem] theorem T124_desc : T124.desc = .func #[3] #[3] false := by kernel_rfl
@[go_sem] theorem T124_size : T124.size = 1 := by kernel_rfl
@[go_sem] theorem T124_bytes : T124.bytes = 8 := by kernel_rfl
@[go_sem] theorem T124_zero : zeroPV T124 = some (.d .nilfunc) := by kernel_rfl
@[go_sem] theorem T124_ok : zeroOk T124 = true := by kernel_rfl
noncomputable def T125 : Ty := (tyOf Tryd.prog 125).getD ⟨.invalid, 0, 0, none⟩
@[go_sem] theorem ty125 : tyOf Tryd.prog 125 = some T125 := by kernel_rfl
@[go_sem] theorem T125_desc : T125.desc = .func #[120] #[3] false := by kernel_rfl
@[go_sem] theorem T125_size : T125.size = 1 := by kernel_rfl
@[go_sem] theorem T125_bytes : T125.bytes = 8 := by kernel_rfl
@[go_sem] theorem T125_zero : zeroPV T125 = some (.d .nilfunc) := by kernel_rfl
@[go_sem] theorem T125_ok : zeroOk T125 = true := by kernel_rfl
noncomputable def T126 : Ty := (tyOf Tryd.prog 126).getD ⟨.invalid, 0, 0, none⟩
@[go_sem] theorem ty126 : tyOf Tryd.prog 126 = some T126 := by kernel_rfl
@[go_sem] theorem T126_desc : T126.desc = .func #[120] #[] false := by kernel_rfl
@[go_sem] theorem T126_size : T126.size = 1 := by kernel_rfl
@[go_sem] theorem T126_bytes : T126.bytes = 8 := by kernel_rfl
@[go_sem] theorem T126_zero : zeroPV T126 = some (.d .nilfunc) := by kernel_rfl
@[go_sem] theorem T126_ok : zeroOk T126 = true := by kernel_rfl
noncomputable def T127 : Ty := (tyOf Tryd.prog 127).getD ⟨.invalid, 0, 0, none⟩
@[go_sem] theorem ty127 : tyOf Tryd.prog 127 = some T127 := by kernel_rfl
@[go_sem] theorem T127_desc : T127.desc = .func #[26, 3] #[26] false := by kernel_rfl
@[go_sem] theorem T127_size : T127.size = 1 := by kernel_rfl
@[go_sem] theorem T127_bytes : T127.bytes = 8 := by kernel_rfl
@[go_sem] theorem T127_zero : zeroPV T127 = some (.d .nilfunc) := by kernel_rfl
@[go_sem] theorem T127_ok : zeroOk T127 = true := by kernel_rfl
noncomputable def T128 : Ty := (tyOf Tryd.prog 128).getD ⟨.invalid, 0, 0, none⟩
@[go_sem] theorem ty128 : tyOf Tryd.prog 128 = some T128 := by kernel_rfl
@[go_sem] theorem T128_desc : T128.desc = .func #[37] #[3] false := by kernel_rfl
@[go_sem] theorem T128_size : T128.size = 1 := by kernel_rfl
@[go_sem] theorem T128_bytes : T128.bytes = 8 := by kernel_rfl
@[go_sem] theorem T128_zero : zeroPV T128 = some (.d .nilfunc) := by kernel_rfl
@[go_sem] theorem T128_ok : zeroOk T128 = true := by kernel_rfl
noncomputable def T129 : Ty := (tyOf Tryd.prog 129).getD ⟨.invalid, 0, 0, none⟩
@[go_sem] theorem ty129 : tyOf Tryd.prog 129 = some T129 := by kernel_rfl
@[go_sem] theorem T129_desc : T129.desc = .func #[95] #[3] false := by kernel_rfl
@[go_sem] theorem T129_size : T129.size = 1 := by kernel_rfl
@[go_sem] theorem T129_bytes : T129.bytes = 8 := by kernel_rfl
@[go_sem] theorem T129_zero : zeroPV T129 = some (.d .nilfunc) := by kernel_rfl
@[go_sem] theorem T129_ok : zeroOk T129 = true := by kernel_rfl
noncomputable def T132 : Ty := (tyOf Tryd.prog 132).getD ⟨.invalid, 0, 0, none⟩
@[go_sem] theorem ty132 : tyOf Tryd.prog 132 = some T132 := by kernel_rfl
@[go_sem] theorem T132_desc : T132.desc = .func #[26, 26] #[26, 26] false := by kernel_rfl
@[go_sem] theorem T132_size : T132.size = 1 := by kernel_rfl
@[go_sem] theorem T132_bytes : T132.bytes = 8 := by kernel_rfl
@[go_sem] theorem T132_zero : zeroPV T132 = some (.d .nilfunc) := by kernel_rfl
@[go_sem] theorem T132_ok : zeroOk T132 = true := by kernel_rfl
noncomputable def T133 : Ty := (tyOf Tryd.prog 133).getD ⟨.invalid, 0, 0, none⟩
@[go_sem] theorem ty133 : tyOf Tryd.prog 133 = some T133 := by kernel_rfl
@[go_sem] theorem T133_desc : T133.desc = .map 3 3 := by kernel_rfl
@[go_sem] theorem T133_size : T133.size = 1 := by kernel_rfl
@[go_sem] theorem T133_bytes : T133.bytes = 8 := by kernel_rfl
@[go_sem] theorem T133_zero : zeroPV T133 = some (.d .nilmap) := by kernel_rfl
@[go_sem] theorem T133_ok : zeroOk T133 = true := by kernel_rfl
noncomputable def T134 : Ty := (tyOf Tryd.prog 134).getD ⟨.invalid, 0, 0, none⟩
@[go_sem] theorem ty134 : tyOf Tryd.prog 134 = some T134 := by kernel_rfl
@[go_sem] theorem T134_desc : T134.desc = .func #[26] #[26] false := by kernel_rfl
@[go_sem] theorem T134_size : T134.size = 1 := by kernel_rfl
@[go_sem] theorem T134_bytes : T134.bytes = 8 := by kernel_rfl
@[go_sem] theorem T134_zero : zeroPV T134 = some (.d .nilfunc) := by kernel_rfl
@[go_sem] theorem T134_ok : zeroOk T134 = true := by kernel_rfl
noncomputable def T135 : Ty := (tyOf Tryd.prog 135).getD ⟨.invalid, 0, 0, none⟩
@[go_sem] theorem ty135 : tyOf Tryd.prog 135 = some T135 := by kernel_rfl
@[go_sem] theorem T135_desc : T135.desc = .map 121 26 := by kernel_rfl
@[go_sem] theorem T135_size : T135.size = 1 := by kernel_rfl
@[go_sem] theorem T135_bytes : T135.bytes = 8 := by kernel_rfl
@[go_sem] theorem T135_zero : zeroPV T135 = some (.d .nilmap) := by kernel_rfl
@[go_sem] theorem T135_ok : zeroOk T135 = true := by kernel_rfl
noncomputable def T136 : Ty := (tyOf Tryd.prog 136).getD ⟨.invalid, 0, 0, none⟩
@[go_sem] theorem ty136 : tyOf Tryd.prog 136 = some T136 := by kernel_rfl
@[go_sem] theorem T136_desc : T136.desc = .func #[3, 95] #[26] false := by kernel_rfl
@[go_sem] theorem T136_size : T136.size = 1 := by kernel_rfl
@[go_sem] theorem T136_bytes : T136.bytes = 8 := by kernel_rfl
@[go_sem] theorem T136_zero : zeroPV T136 = some (.d .nilfunc) := by kernel_rfl
@[go_sem] theorem T136_ok : zeroOk T136 = true := by kernel_rfl
noncomputable def T137 : Ty := (tyOf Tryd.prog 137).getD ⟨.invalid, 0, 0, none⟩
@[go_sem] theorem ty137 : tyOf Tryd.prog 137 = some T137 := by kernel_rfl
@[go_sem] theorem T137_desc : T137.desc = .func #[22, 3] #[3] false := by kernel_rfl
@[go_sem] theorem T137_size : T137.size = 1 := by kernel_rfl
@[go_sem] theorem T137_bytes : T137.bytes = 8 := by kernel_rfl
@[go_sem] theorem T137_zero : zeroPV T137 = some (.d .nilfunc) := by kernel_rfl
@[go_sem] theorem T137_ok : zeroOk T137 = true := by kernel_rfl
noncomputable def T138 : Ty := (tyOf Tryd.prog 138).getD ⟨.invalid, 0, 0, none⟩
@[go_sem] theorem ty138 : tyOf Tryd.prog 138 = some T138 := by kernel_rfl
@[go_sem] theorem T138_desc : T138.desc = .func #[26, 105] #[4] false := by kernel_rfl
@[go_sem] theorem T138_size : T138.size = 1 := by kernel_rfl
@[go_sem] theorem T138_bytes : T138.bytes = 8 := by kernel_rfl
@[go_sem] theorem T138_zero : zeroPV T138 = some (.d .nilfunc) := by kernel_rfl
@[go_sem] theorem T138_ok : zeroOk T138 = true := by kernel_rfl
noncomputable def T139 : Ty := (tyOf Tryd.prog 139).getD ⟨.invalid, 0, 0, none⟩
@[go_sem] theorem ty139 : tyOf Tryd.prog 139 = some T139 := by kernel_rfl
@[go_sem] theorem T139_desc : T139.desc = .func #[22, 116] #[3] false := by kernel_rfl
@[go_sem] theorem T139_size : T139.size = 1 := by kernel_rfl
@[go_sem] theorem T139_bytes : T139.bytes = 8 := by kernel_rfl
@[go_sem] theorem T139_zero : zeroPV T139 = some (.d .nilfunc) := by kernel_rfl
@[go_sem] theorem T139_ok : zeroOk T139 = true := by kernel_rfl
noncomputable def T140 : Ty := (tyOf Tryd.prog 140).getD ⟨.invalid, 0, 0, none⟩
@[go_sem] theorem ty140 : tyOf Tryd.prog 140 = some T140 := by kernel_rfl
@[go_sem] theorem T140_desc : T140.desc = .func #[56, 26] #[4] false := by kernel_rfl
@[go_sem] theorem T140_size : T140.size = 1 := by kernel_rfl
@[go_sem] theorem T140_bytes : T140.bytes = 8 := by kernel_rfl
@[go_sem] theorem T140_zero : zeroPV T140 = some (.d .nilfunc) := by kernel_rfl
@[go_sem] theorem T140_ok : zeroOk T140 = true := by kernel_rfl
noncomputable def T141 : Ty := (tyOf Tryd.prog 141).getD ⟨.invalid, 0, 0, none⟩
@[go_sem] theorem ty141 : tyOf Tryd.prog 141 = some T141 := by kernel_rfl
@[go_sem] theorem T141_desc : T141.desc = .func #[32, 108] #[3] false := by kernel_rfl
@[go_sem] theorem T141_size : T141.size = 1 := by kernel_rfl
@[go_sem] theorem T141_bytes : T141.bytes = 8 := by kernel_rfl
@[go_sem] theorem T141_zero : zeroPV T141 = some (.d .nilfunc) := by kernel_rfl
@[go_sem] theorem T141_ok : zeroOk T141 = true := by kernel_rfl
noncomputable def T142 : Ty := (tyOf Tryd.prog 142).getD ⟨.invalid, 0, 0, none⟩
@[go_sem] theorem ty142 : tyOf Tryd.prog 142 = some T142 := by kernel_rfl
@[go_sem] theorem T142_desc : T142.desc = .func #[61] #[4] false := by kernel_rfl
@[go_sem] theorem T142_size : T142.size = 1 := by kernel_rfl
@[go_sem] theorem T142_bytes : T142.bytes = 8 := by kernel_rfl
@[go_sem] theorem T142_zero : zeroPV T142 = some (.d .nilfunc) := by kernel_rfl
@[go_sem] theorem T142_ok : zeroOk T142 = true := by kernel_rfl
noncomputable def T143 : Ty := (tyOf Tryd.prog 143).getD ⟨.invalid, 0, 0, none⟩
@[go_sem] theorem ty143 : tyOf Tryd.prog 143 = some T143 := by kernel_rfl
@[go_sem] theorem T143_desc : T143.desc = .func #[54, 142] #[4] false := by kernel_rfl
@[go_sem] theorem T143_size : T143.size = 1 := by kernel_rfl
@[go_sem] theorem T143_bytes : T143.bytes = 8 := by kernel_rfl
@[go_sem] theorem T143_zero : zeroPV T143 = some (.d .nilfunc) := by kernel_rfl
@[go_sem] theorem T143_ok : zeroOk T143 = true := by kernel_rfl
noncomputable def T144 : Ty := (tyOf Tryd.prog 144).getD ⟨.invalid, 0, 0, none⟩
@[go_sem] theorem ty144 : tyOf Tryd.prog 144 = some T144 := by kernel_rfl
@[go_sem] theorem T144_desc : T144.desc = .func #[26] #[] false := by kernel_rfl
@[go_sem] theorem T144_size : T144.size = 1 := by kernel_rfl
@[go_sem] theorem T144_bytes : T144.bytes = 8 := by kernel_rfl
@[go_sem] theorem T144_zero : zeroPV T144 = some (.d .nilfunc) := by kernel_rfl
@[go_sem] theorem T144_ok : zeroOk T144 = true := by kernel_rfl
noncomputable def T145 : Ty := (tyOf Tryd.prog 145).getD ⟨.invalid, 0, 0, none⟩
@[go_sem] theorem ty145 : tyOf Tryd.prog 145 = some T145 := by kernel_rfl
@[go_sem] theorem T145_desc : T145.desc = .pointer 78 := by kernel_rfl
@[go_sem] theorem T145_size : T145.size = 1 := by kernel_rfl
@[go_sem] theorem T145_bytes : T145.bytes = 8 := by kernel_rfl
@[go_sem] theorem T145_zero : zeroPV T145 = some (.d .nilptr) := by kernel_rfl
@[go_sem] theorem T145_ok : zeroOk T145 = true := by kernel_rfl
noncomputable def T146 : Ty := (tyOf Tryd.prog 146).getD ⟨.invalid, 0, 0, none⟩
@[go_sem] theorem ty146 : tyOf Tryd.prog 146 = some T146 := by kernel_rfl
@[go_sem] theorem T146_desc : T146.desc = .pointer 148 := by kernel_rfl
@[go_sem] theorem T146_size : T146.size = 1 := by kernel_rfl
@[go_sem] theorem T146_bytes : T146.bytes = 8 := by kernel_rfl
@[go_sem] theorem T146_zero : zeroPV T146 = some (.d .nilptr) := by kernel_rfl
@[go_sem] theorem T146_ok : zeroOk T146 = true := by kernel_rfl
noncomputable def T147 : Ty := (tyOf Tryd.prog 147).getD ⟨.invalid, 0, 0, none⟩
@[go_sem] theorem ty147 : tyOf Tryd.prog 147 = some T147 := by kernel_rfl
noncomputable def fs147 : Array Field := match T147.desc with | .struct fs => fs | _ => #[]
@[go_sem] theorem T147_desc : T147.desc = .struct fs147 := by kernel_rfl
noncomputable def fs147_0 : Field := fs147.getD 0 default
@[go_sem] theorem fs147_at0 : fs147[0]? = some fs147_0 := by kernel_rfl
@[go_sem] theorem fs147_0_type : fs147_0.type = 146 := by kernel_rfl
@[go_sem] theorem fs147_0_off : fs147_0.offset = 0 := by kernel_rfl
@[go_sem] theorem fo147_0 : fieldOf Tryd.prog 147 0 = some (0, 1) := by kernel_rfl
noncomputable def fs147_1 : Field := fs147.getD 1 default
@[go_sem] theorem fs147_at1 : fs147[1]? = some fs147_1 := by kernel_rfl
@[go_sem] theorem fs147_1_type : fs147_1.type = 52 := by kernel_rfl
@[go_sem] theorem fs147_1_off : fs147_1.offset = 1 := by kernel_rfl
@[go_sem] theorem fo147_1 : fieldOf Tryd.prog 147 1 = some (1, 1) := by kernel_rfl
@[go_sem] theorem pl147 : placesOf Tryd.prog fs147.toList = some [(0, 1), (1, 1)] := by kernel_rfl
@[go_sem] theorem T147_size : T147.size = 2 := by kernel_rfl
@[go_sem] theorem T147_bytes : T147.bytes = 32 := by kernel_rfl
@[go_sem] theorem T147_cells : zeroCells T147.zero = some [.d .nilptr, .d .nilslice] := by kernel_rfl
@[go_sem] theorem T147_zero : zeroPV T147 = some (.d (.agg [.nilptr, .nilslice])) := by kernel_rfl
@[go_sem] theorem T147_ok : zeroOk T147 = true := by kernel_rfl
noncomputable def T148 : Ty := (tyOf Tryd.prog 148).getD ⟨.invalid, 0, 0, none⟩
@[go_sem] theorem ty148 : tyOf Tryd.prog 148 = some T148 := by kernel_rfl
noncomputable def fs148 : Array Field := match T148.desc with | .struct fs => fs | _ => #[]
@[go_sem] theorem T148_desc : T148.desc = .struct fs148 := by kernel_rfl
noncomputable def fs148_0 : Field := fs148.getD 0 default
@[go_sem] theorem fs148_at0 : fs148[0]? = some fs148_0 := by kernel_rfl
@[go_sem] theorem fs148_0_type : fs148_0.type = 146 := by kernel_rfl
@[go_sem] theorem fs148_0_off : fs148_0.offset = 0 := by kernel_rfl
@[go_sem] theorem fo148_0 : fieldOf Tryd.prog 148 0 = some (0, 1) := by kernel_rfl
noncomputable def fs148_1 : Field := fs148.getD 1 default
@[go_sem] theorem fs148_at1 : fs148[1]? = some fs148_1 := by kernel_rfl
@[go_sem] theorem fs148_1_type : fs148_1.type = 52 := by kernel_rfl
@[go_sem] theorem fs148_1_off : fs148_1.offset = 1 := by kernel_rfl
@[go_sem] theorem fo148_1 : fieldOf Tryd.prog 148 1 = some (1, 1) := by kernel_rfl
@[go_sem] theorem pl148 : placesOf Tryd.prog fs148.toList = some [(0, 1), (1, 1)] := by kernel_rfl
@[go_sem] theorem T148_size : T148.size = 2 := by kernel_rfl
@[go_sem] theorem T148_bytes : T148.bytes = 32 := by kernel_rfl
@[go_sem] theorem T148_cells : zeroCells T148.zero = some [.d .nilptr, .d .nilslice] := by kernel_rfl
@[go_sem] theorem T148_zero : zeroPV T148 = some (.d (.agg [.nilptr, .nilslice])) := by kernel_rfl
@[go_sem] theorem T148_ok : zeroOk T148 = true := by kernel_rfl
noncomputable def T150 : Ty := (tyOf Tryd.prog 150).getD ⟨.invalid, 0, 0, none⟩
@[go_sem] theorem ty150 : tyOf Tryd.prog 150 = some T150 := by kernel_rfl
@[go_sem] theorem T150_size : T150.size = 1 := by kernel_rfl
@[go_sem] theorem T150_bytes : T150.bytes = 16 := by kernel_rfl
@[go_sem] theorem T150_zero : zeroPV T150 = some (.d .niliface) := by kernel_rfl
@[go_sem] theorem T150_ok : zeroOk T150 = true := by kernel_rfl
noncomputable def T152 : Ty := (tyOf Tryd.prog 152).getD ⟨.invalid, 0, 0, none⟩
@[go_sem] theorem ty152 : tyOf Tryd.prog 152 = some T152 := by kernel_rfl
@[go_sem] theorem T152_desc : T152.desc = .func #[9] #[3, 150] false := by kernel_rfl
@[go_sem] theorem T152_size : T152.size = 1 := by kernel_rfl
@[go_sem] theorem T152_bytes : T152.bytes = 8 := by kernel_rfl
@[go_sem] theorem T152_zero : zeroPV T152 = some (.d .nilfunc) := by kernel_rfl
@[go_sem] theorem T152_ok : zeroOk T152 = true := by kernel_rfl
noncomputable def T153 : Ty := (tyOf Tryd.prog 153).getD ⟨.invalid, 0, 0, none⟩
@[go_sem] theorem ty153 : tyOf Tryd.prog 153 = some T153 := by kernel_rfl
@[go_sem] theorem T153_desc : T153.desc = .func #[3] #[9] false := by kernel_rfl
@[go_sem] theorem T153_size : T153.size = 1 := by kernel_rfl
@[go_sem] theorem T153_bytes : T153.bytes = 8 := by kernel_rfl
@[go_sem] theorem T153_zero : zeroPV T153 = some (.d .nilfunc) := by kernel_rfl
@[go_sem] theorem T153_ok : zeroOk T153 = true := by kernel_rfl
noncomputable def T154 : Ty := (tyOf Tryd.prog 154).getD ⟨.invalid, 0, 0, none⟩
@[go_sem] theorem ty154 : tyOf Tryd.prog 154 = some T154 := by kernel_rfl
@[go_sem] theorem T154_desc : T154.desc = .func #[5] #[150] false := by kernel_rfl
@[go_sem] theorem T154_size : T154.size = 1 := by kernel_rfl
@[go_sem] theorem T154_bytes : T154.bytes = 8 := by kernel_rfl
@[go_sem] theorem T154_zero : zeroPV T154 = some (.d .nilfunc) := by kernel_rfl
@[go_sem] theorem T154_ok : zeroOk T154 = true := by kernel_rfl
noncomputable def T155 : Ty := (tyOf Tryd.prog 155).getD ⟨.invalid, 0, 0, none⟩
@[go_sem] theorem ty155 : tyOf Tryd.prog 155 = some T155 := by kernel_rfl
@[go_sem] theorem T155_desc : T155.desc = .func #[] #[9] false := by kernel_rfl
@[go_sem] theorem T155_size : T155.size = 1 := by kernel_rfl
@[go_sem] theorem T155_bytes : T155.bytes = 8 := by kernel_rfl
@[go_sem] theorem T155_zero : zeroPV T155 = some (.d .nilfunc) := by kernel_rfl
@[go_sem] theorem T155_ok : zeroOk T155 = true := by kernel_rfl
noncomputable def T156 : Ty := (tyOf Tryd.prog 156).getD ⟨.invalid, 0, 0, none⟩
@[go_sem] theorem ty156 : tyOf Tryd.prog 156 = some T156 := by kernel_rfl
@[go_sem] theorem T156_desc : T156.desc = .func #[54, 142] #[3] false := by kernel_rfl
@[go_sem] theorem T156_size : T156.size = 1 := by kernel_rfl
@[go_sem] theorem T156_bytes : T156.bytes = 8 := by kernel_rfl
@[go_sem] theorem T156_zero : zeroPV T156 = some (.d .nilfunc) := by kernel_rfl
@[go_sem] theorem T156_ok : zeroOk T156 = true := by kernel_rfl
noncomputable def T157 : Ty := (tyOf Tryd.prog 157).getD ⟨.invalid, 0, 0, none⟩
@[go_sem] theorem ty157 : tyOf Tryd.prog 157 = some T157 := by kernel_rfl
@[go_sem] theorem T157_desc : T157.desc = .func #[26, 3, 3, 3] #[] false := by kernel_rfl
@[go_sem] theorem T157_size : T157.size = 1 := by kernel_rfl
@[go_sem] theorem T157_bytes : T157.bytes = 8 := by kernel_rfl
@[go_sem] theorem T157_zero : zeroPV T157 = some (.d .nilfunc) := by kernel_rfl
@[go_sem] theorem T157_ok : zeroOk T157 = true := by kernel_rfl
noncomputable def T158 : Ty := (tyOf Tryd.prog 158).getD ⟨.invalid, 0, 0, none⟩
@[go_sem] theorem ty158 : tyOf Tryd.prog 158 = some T158 := by kernel_rfl
@[go_sem] theorem T158_desc : T158.desc = .func #[159] #[3] false := by kernel_rfl
@[go_sem] theorem T158_size : T158.size = 1 := by kernel_rfl
@[go_sem] theorem T158_bytes : T158.bytes = 8 := by kernel_rfl
@[go_sem] theorem T158_zero : zeroPV T158 = some (.d .nilfunc) := by kernel_rfl
@[go_sem] theorem T158_ok : zeroOk T158 = true := by kernel_rfl
noncomputable def T159 : Ty := (tyOf Tryd.prog 159).getD ⟨.invalid, 0, 0, none⟩
@[go_sem] theorem ty159 : tyOf Tryd.prog 159 = some T159 := by kernel_rfl
@[go_sem] theorem T159_desc : T159.desc = .int .u64 := by kernel_rfl
@[go_sem] theorem T159_size : T159.size = 1 := by kernel_rfl
@[go_sem] theorem T159_bytes : T159.bytes = 8 := by kernel_rfl
@[go_sem] theorem T159_zero : zeroPV T159 = some (.d (.int .u64 0)) := by kernel_rfl
@[go_sem] theorem T159_ok : zeroOk T159 = true := by kernel_rfl
noncomputable def T160 : Ty := (tyOf Tryd.prog 160).getD ⟨.invalid, 0, 0, none⟩
@[go_sem] theorem ty160 : tyOf Tryd.prog 160 = some T160 := by kernel_rfl
@[go_sem] theorem T160_desc : T160.desc = .pointer 5 := by kernel_rfl
@[go_sem] theorem T160_size : T160.size = 1 := by kernel_rfl
@[go_sem] theorem T160_bytes : T160.bytes = 8 := by kernel_rfl
@[go_sem] theorem T160_zero : zeroPV T160 = some (.d .nilptr) := by kernel_rfl
@[go_sem] theorem T160_ok : zeroOk T160 = true := by kernel_rfl
noncomputable def T161 : Ty := (tyOf Tryd.prog 161).getD ⟨.invalid, 0, 0, none⟩
@[go_sem] theorem ty161 : tyOf Tryd.prog 161 = some T161 := by kernel_rfl
@[go_sem] theorem T161_desc : T161.desc = .func #[26, 3, 3] #[] false := by kernel_rfl
@[go_sem] theorem T161_size : T161.size = 1 := by kernel_rfl
@[go_sem] theorem T161_bytes : T161.bytes = 8 := by kernel_rfl
@[go_sem] theorem T161_zero : zeroPV T161 = some (.d .nilfunc) := by kernel_rfl
@[go_sem] theorem T161_ok : zeroOk T161 = true := by kernel_rfl
noncomputable def T162 : Ty := (tyOf Tryd.prog 162).getD ⟨.invalid, 0, 0, none⟩
@[go_sem] theorem ty162 : tyOf Tryd.prog 162 = some T162 := by kernel_rfl
@[go_sem] theorem T162_desc : T162.desc = .int .i64 := by kernel_rfl
@[go_sem] theorem T162_size : T162.size = 1 := by kernel_rfl
@[go_sem] theorem T162_bytes : T162.bytes = 8 := by kernel_rfl
@[go_sem] theorem T162_zero : zeroPV T162 = some (.d (.int .i64 0)) := by kernel_rfl
@[go_sem] theorem T162_ok : zeroOk T162 = true := by kernel_rfl
noncomputable def T164 : Ty := (tyOf Tryd.prog 164).getD ⟨.invalid, 0, 0, none⟩
@[go_sem] theorem ty164 : tyOf Tryd.prog 164 = some T164 := by kernel_rfl
@[go_sem] theorem T164_desc : T164.desc = .func #[26, 3, 3] #[3, 162] false := by kernel_rfl
@[go_sem] theorem T164_size : T164.size = 1 := by kernel_rfl
@[go_sem] theorem T164_bytes : T164.bytes = 8 := by kernel_rfl
@[go_sem] theorem T164_zero : zeroPV T164 = some (.d .nilfunc) := by kernel_rfl
@[go_sem] theorem T164_ok : zeroOk T164 = true := by kernel_rfl
noncomputable def T165 : Ty := (tyOf Tryd.prog 165).getD ⟨.invalid, 0, 0, none⟩
@[go_sem] theorem ty165 : tyOf Tryd.prog 165 = some T165 := by kernel_rfl
@[go_sem] theorem T165_desc : T165.desc = .func #[26, 3, 3] #[4] false := by kernel_rfl
@[go_sem] theorem T165_size : T165.size = 1 := by kernel_rfl
@[go_sem] theorem T165_bytes : T165.bytes = 8 := by kernel_rfl
@[go_sem] theorem T165_zero : zeroPV T165 = some (.d .nilfunc) := by kernel_rfl
@[go_sem] theorem T165_ok : zeroOk T165 = true := by kernel_rfl
noncomputable def T166 : Ty := (tyOf Tryd.prog 166).getD ⟨.invalid, 0, 0, none⟩
@[go_sem] theorem ty166 : tyOf Tryd.prog 166 = some T166 := by kernel_rfl
@[go_sem] theorem T166_desc : T166.desc = .func #[26, 3, 3, 3] #[3] false := by kernel_rfl
@[go_sem] theorem T166_size : T166.size = 1 := by kernel_rfl
@[go_sem] theorem T166_bytes : T166.bytes = 8 := by kernel_rfl
@[go_sem] theorem T166_zero : zeroPV T166 = some (.d .nilfunc) := by kernel_rfl
@[go_sem] theorem T166_ok : zeroOk T166 = true := by kernel_rfl
noncomputable def T167 : Ty := (tyOf Tryd.prog 167).getD ⟨.invalid, 0, 0, none⟩
@[go_sem] theorem ty167 : tyOf Tryd.prog 167 = some T167 := by kernel_rfl
@[go_sem] theorem T167_desc : T167.desc = .func #[26, 3, 3, 3] #[3, 4] false := by kernel_rfl
@[go_sem] theorem T167_size : T167.size = 1 := by kernel_rfl
@[go_sem] theorem T167_bytes : T167.bytes = 8 := by kernel_rfl
@[go_sem] theorem T167_zero : zeroPV T167 = some (.d .nilfunc) := by kernel_rfl
@[go_sem] theorem T167_ok : zeroOk T167 = true := by kernel_rfl
noncomputable def T168 : Ty := (tyOf Tryd.prog 168).getD ⟨.invalid, 0, 0, none⟩
@[go_sem] theorem ty168 : tyOf Tryd.prog 168 = some T168 := by kernel_rfl
@[go_sem] theorem T168_desc : T168.desc = .func #[94] #[3] false := by kernel_rfl
@[go_sem] theorem T168_size : T168.size = 1 := by kernel_rfl
@[go_sem] theorem T168_bytes : T168.bytes = 8 := by kernel_rfl
@[go_sem] theorem T168_zero : zeroPV T168 = some (.d .nilfunc) := by kernel_rfl
@[go_sem] theorem T168_ok : zeroOk T168 = true := by kernel_rfl
noncomputable def T169 : Ty := (tyOf Tryd.prog 169).getD ⟨.invalid, 0, 0, none⟩
@[go_sem] theorem ty169 : tyOf Tryd.prog 169 = some T169 := by kernel_rfl
@[go_sem] theorem T169_desc : T169.desc = .func #[170] #[3] false := by kernel_rfl
@[go_sem] theorem T169_size : T169.size = 1 := by kernel_rfl
@[go_sem] theorem T169_bytes : T169.bytes = 8 := by kernel_rfl
@[go_sem] theorem T169_zero : zeroPV T169 = some (.d .nilfunc) := by kernel_rfl
@[go_sem] theorem T169_ok : zeroOk T169 = true := by kernel_rfl
noncomputable def T170 : Ty := (tyOf Tryd.prog 170).getD ⟨.invalid, 0, 0, none⟩
@[go_sem] theorem ty170 : tyOf Tryd.prog 170 = some T170 := by kernel_rfl
@[go_sem] theorem T170_desc : T170.desc = .int .u64 := by kernel_rfl
@[go_sem] theorem T170_size : T170.size = 1 := by kernel_rfl
@[go_sem] theorem T170_bytes : T170.bytes = 8 := by kernel_rfl
@[go_sem] theorem T170_zero : zeroPV T170 = some (.d (.int .u64 0)) := by kernel_rfl
@[go_sem] theorem T170_ok : zeroOk T170 = true := by kernel_rfl
noncomputable def T172 : Ty := (tyOf Tryd.prog 172).getD ⟨.invalid, 0, 0, none⟩
@[go_sem] theorem ty172 : tyOf Tryd.prog 172 = some T172 := by kernel_rfl
@[go_sem] theorem T172_desc : T172.desc = .func #[171] #[171] false := by kernel_rfl
@[go_sem] theorem T172_size : T172.size = 1 := by kernel_rfl
@[go_sem] theorem T172_bytes : T172.bytes = 8 := by kernel_rfl
@[go_sem] theorem T172_zero : zeroPV T172 = some (.d .nilfunc) := by kernel_rfl
@[go_sem] theorem T172_ok : zeroOk T172 = true := by kernel_rfl
noncomputable def T173 : Ty := (tyOf Tryd.prog 173).getD ⟨.invalid, 0, 0, none⟩
@[go_sem] theorem ty173 : tyOf Tryd.prog 173 = some T173 := by kernel_rfl
@[go_sem] theorem T173_desc : T173.desc = .func #[2, 3] #[9] false := by kernel_rfl
@[go_sem] theorem T173_size : T173.size = 1 := by kernel_rfl
@[go_sem] theorem T173_bytes : T173.bytes = 8 := by kernel_rfl
@[go_sem] theorem T173_zero : zeroPV T173 = some (.d .nilfunc) := by kernel_rfl
@[go_sem] theorem T173_ok : zeroOk T173 = true := by kernel_rfl
noncomputable def T174 : Ty := (tyOf Tryd.prog 174).getD ⟨.invalid, 0, 0, none⟩
@[go_sem] theorem ty174 : tyOf Tryd.prog 174 = some T174 := by kernel_rfl
@[go_sem] theorem T174_desc : T174.desc = .int .u64 := by kernel_rfl
@[go_sem] theorem T174_size : T174.size = 1 := by kernel_rfl
@[go_sem] theorem T174_bytes : T174.bytes = 8 := by kernel_rfl
@[go_sem] theorem T174_zero : zeroPV T174 = some (.d (.int .u64 0)) := by kernel_rfl
@[go_sem] theorem T174_ok : zeroOk T174 = true := by kernel_rfl
noncomputable def T175 : Ty := (tyOf Tryd.prog 175).getD ⟨.invalid, 0, 0, none⟩
@[go_sem] theorem ty175 : tyOf Tryd.prog 175 = some T175 := by kernel_rfl
@[go_sem] theorem T175_desc : T175.desc = .func #[3] #[159] false := by kernel_rfl
@[go_sem] theorem T175_size : T175.size = 1 := by kernel_rfl
@[go_sem] theorem T175_bytes : T175.bytes = 8 := by kernel_rfl
@[go_sem] theorem T175_zero : zeroPV T175 = some (.d .nilfunc) := by kernel_rfl
@[go_sem] theorem T175_ok : zeroOk T175 = true := by kernel_rfl
noncomputable def T176 : Ty := (tyOf Tryd.prog 176).getD ⟨.invalid, 0, 0, none⟩
@[go_sem] theorem ty176 : tyOf Tryd.prog 176 = some T176 := by kernel_rfl
@[go_sem] theorem T176_desc : T176.desc = .func #[] #[170] false := by kernel_rfl
@[go_sem] theorem T176_size : T176.size = 1 := by kernel_rfl
@[go_sem] theorem T176_bytes : T176.bytes = 8 := by kernel_rfl
@[go_sem] theorem T176_zero : zeroPV T176 = some (.d .nilfunc) := by kernel_rfl
@[go_sem] theorem T176_ok : zeroOk T176 = true := by kernel_rfl
noncomputable def T177 : Ty := (tyOf Tryd.prog 177).getD ⟨.invalid, 0, 0, none⟩
@[go_sem] theorem ty177 : tyOf Tryd.prog 177 = some T177 := by kernel_rfl
@[go_sem] theorem T177_desc : T177.desc = .func #[26, 3, 178] #[3] false := by kernel_rfl
@[go_sem] theorem T177_size : T177.size = 1 := by kernel_rfl
@[go_sem] theorem T177_bytes : T177.bytes = 8 := by kernel_rfl
@[go_sem] theorem T177_zero : zeroPV T177 = some (.d .nilfunc) := by kernel_rfl
@[go_sem] theorem T177_ok : zeroOk T177 = true := by kernel_rfl
noncomputable def T178 : Ty := (tyOf Tryd.prog 178).getD ⟨.invalid, 0, 0, none⟩
@[go_sem] theorem ty178 : tyOf Tryd.prog 178 = some T178 := by kernel_rfl
@[go_sem] theorem T178_desc : T178.desc = .pointer 3 := by kernel_rfl
@[go_sem] theorem T178_size : T178.size = 1 := by kernel_rfl
@[go_sem] theorem T178_bytes : T178.bytes = 8 := by kernel_rfl
@[go_sem] theorem T178_zero : zeroPV T178 = some (.d .nilptr) := by kernel_rfl
@[go_sem] theorem T178_ok : zeroOk T178 = true := by kernel_rfl
noncomputable def T179 : Ty := (tyOf Tryd.prog 179).getD ⟨.invalid, 0, 0, none⟩
@[go_sem] theorem ty179 : tyOf Tryd.prog 179 = some T179 := by kernel_rfl
@[go_sem] theorem T179_desc : T179.desc = .func #[26, 3, 3, 3, 178] #[3] false := by kernel_rfl
@[go_sem] theorem T179_size : T179.size = 1 := by kernel_rfl
@[go_sem] theorem T179_bytes : T179.bytes = 8 := by kernel_rfl
@[go_sem] theorem T179_zero : zeroPV T179 = some (.d .nilfunc) := by kernel_rfl
@[go_sem] theorem T179_ok : zeroOk T179 = true := by kernel_rfl
noncomputable def T180 : Ty := (tyOf Tryd.prog 180).getD ⟨.invalid, 0, 0, none⟩
@[go_sem] theorem ty180 : tyOf Tryd.prog 180 = some T180 := by kernel_rfl
@[go_sem] theorem T180_desc : T180.desc = .array 24 5 := by kernel_rfl
@[go_sem] theorem es180 : elemSize Tryd.prog 180 = none := by kernel_rfl
@[go_sem] theorem ars180 : arrSize Tryd.prog 180 = some (24, 1) := by kernel_rfl
@[go_sem] theorem T180_size : T180.size = 24 := by kernel_rfl
@[go_sem] theorem T180_bytes : T180.bytes = 24 := by kernel_rfl
@[go_sem] theorem T180_cells : zeroCells T180.zero = some [.d (.int .u8 0), .d (.int .u8 0), .d (.int .u8 0), .d (.int .u8 0), .d (.int .u8 0), .d (.int .u8 0), .d (.int .u8 0), .d (.int .u8 0), .d (.int .u8 0), .d (.int .u8 0), .d (.int .u8 0), .d (.int .u8 0), .d (.int .u8 0), .d (.int .u8 0), .d (.int .u8 0), .d (.int .u8 0), .d (.int .u8 0), .d (.int .u8 0), .d (.int .u8 0), .d (.int .u8 0), .d (.int .u8 0), .d (.int .u8 0), .d (.int .u8 0), .d (.int .u8 0)] := by kernel_rfl
@[go_sem] theorem T180_zero : zeroPV T180 = some (.d (.agg [(.int .u8 0), (.int .u8 0), (.int .u8 0), (.int .u8 0), (.int .u8 0), (.int .u8 0), (.int .u8 0), (.int .u8 0), (.int .u8 0), (.int .u8 0), (.int .u8 0), (.int .u8 0), (.int .u8 0), (.int .u8 0), (.int .u8 0), (.int .u8 0), (.int .u8 0), (.int .u8 0), (.int .u8 0), (.int .u8 0), (.int .u8 0), (.int .u8 0), (.int .u8 0), (.int .u8 0)])) := by kernel_rfl
@[go_sem] theorem T180_ok : zeroOk T180 = true := by kernel_rfl
noncomputable def T181 : Ty := (tyOf Tryd.prog 181).getD ⟨.invalid, 0, 0, none⟩
@[go_sem] theorem ty181 : tyOf Tryd.prog 181 = some T181 := by kernel_rfl
@[go_sem] theorem T181_desc : T181.desc = .func #[52, 170] #[] false := by kernel_rfl
@[go_sem] theorem T181_size : T181.size = 1 := by kernel_rfl
@[go_sem] theorem T181_bytes : T181.bytes = 8 := by kernel_rfl
@[go_sem] theorem T181_zero : zeroPV T181 = some (.d .nilfunc) := by kernel_rfl
@[go_sem] theorem T181_ok : zeroOk T181 = true := by kernel_rfl
noncomputable def T183 : Ty := (tyOf Tryd.prog 183).getD ⟨.invalid, 0, 0, none⟩
@[go_sem] theorem ty183 : tyOf Tryd.prog 183 = some T183 := by kernel_rfl
@[go_sem] theorem T183_desc : T183.desc = .func #[52, 170, 3, 4, 4] #[52, 9] false := by kernel_rfl
@[go_sem] theorem T183_size : T183.size = 1 := by kernel_rfl
@[go_sem] theorem T183_bytes : T183.bytes = 8 := by kernel_rfl
@[go_sem] theorem T183_zero : zeroPV T183 = some (.d .nilfunc) := by kernel_rfl
@[go_sem] theorem T183_ok : zeroOk T183 = true := by kernel_rfl
noncomputable def T184 : Ty := (tyOf Tryd.prog 184).getD ⟨.invalid, 0, 0, none⟩
@[go_sem] theorem ty184 : tyOf Tryd.prog 184 = some T184 := by kernel_rfl
@[go_sem] theorem T184_desc : T184.desc = .pointer 174 := by kernel_rfl
@[go_sem] theorem T184_size : T184.size = 1 := by kernel_rfl
@[go_sem] theorem T184_bytes : T184.bytes = 8 := by kernel_rfl
@[go_sem] theorem T184_zero : zeroPV T184 = some (.d .nilptr) := by kernel_rfl
@[go_sem] theorem T184_ok : zeroOk T184 = true := by kernel_rfl
noncomputable def T186 : Ty := (tyOf Tryd.prog 186).getD ⟨.invalid, 0, 0, none⟩
@[go_sem] theorem ty186 : tyOf Tryd.prog 186 = some T186 := by kernel_rfl
@[go_sem] theorem T186_desc : T186.desc = .func #[26, 3, 3, 178] #[3, 3] false := by kernel_rfl
@[go_sem] theorem T186_size : T186.size = 1 := by kernel_rfl
@[go_sem] theorem T186_bytes : T186.bytes = 8 := by kernel_rfl
@[go_sem] theorem T186_zero : zeroPV T186 = some (.d .nilfunc) := by kernel_rfl
@[go_sem] theorem T186_ok : zeroOk T186 = true := by kernel_rfl
noncomputable def T187 : Ty := (tyOf Tryd.prog 187).getD ⟨.invalid, 0, 0, none⟩
@[go_sem] theorem ty187 : tyOf Tryd.prog 187 = some T187 := by kernel_rfl
@[go_sem] theorem T187_desc : T187.desc = .func #[4] #[3] false := by kernel_rfl
@[go_sem] theorem T187_size : T187.size = 1 := by kernel_rfl
@[go_sem] theorem T187_bytes : T187.bytes = 8 := by kernel_rfl
@[go_sem] theorem T187_zero : zeroPV T187 = some (.d .nilfunc) := by kernel_rfl
@[go_sem] theorem T187_ok : zeroOk T187 = true := by kernel_rfl
noncomputable def T188 : Ty := (tyOf Tryd.prog 188).getD ⟨.invalid, 0, 0, none⟩
@[go_sem] theorem ty188 : tyOf Tryd.prog 188 = some T188 := by kernel_rfl
@[go_sem] theorem T188_desc : T188.desc = .array 20 170 := by kernel_rfl
@[go_sem] theorem es188 : elemSize Tryd.prog 188 = none := by kernel_rfl
@[go_sem] theorem ars188 : arrSize Tryd.prog 188 = some (20, 1) := by kernel_rfl
@[go_sem] theorem T188_size : T188.size = 20 := by kernel_rfl
@[go_sem] theorem T188_bytes : T188.bytes = 160 := by kernel_rfl
@[go_sem] theorem T188_cells : zeroCells T188.zero = some [.d (.int .u64 0), .d (.int .u64 0), .d (.int .u64 0), .d (.int .u64 0), .d (.int .u64 0), .d (.int .u64 0), .d (.int .u64 0), .d (.int .u64 0), .d (.int .u64 0), .d (.int .u64 0), .d (.int .u64 0), .d (.int .u64 0), .d (.int .u64 0), .d (.int .u64 0), .d (.int .u64 0), .d (.int .u64 0), .d (.int .u64 0), .d (.int .u64 0), .d (.int .u64 0), .d (.int .u64 0)] := by kernel_rfl
@[go_sem] theorem T188_zero : zeroPV T188 = some (.d (.agg [(.int .u64 0), (.int .u64 0), (.int .u64 0), (.int .u64 0), (.int .u64 0), (.int .u64 0), (.int .u64 0), (.int .u64 0), (.int .u64 0), (.int .u64 0), (.int .u64 0), (.int .u64 0), (.int .u64 0), (.int .u64 0), (.int .u64 0), (.int .u64 0), (.int .u64 0), (.int .u64 0), (.int .u64 0), (.int .u64 0)])) := by kernel_rfl
@[go_sem] theorem T188_ok : zeroOk T188 = true := by kernel_rfl
noncomputable def T189 : Ty := (tyOf Tryd.prog 189).getD ⟨.invalid, 0, 0, none⟩
@[go_sem] theorem ty189 : tyOf Tryd.prog 189 = some T189 := by kernel_rfl
@[go_sem] theorem T189_desc : T189.desc = .array 65 5 := by kernel_rfl
@[go_sem] theorem es189 : elemSize Tryd.prog 189 = none := by kernel_rfl
@[go_sem] theorem ars189 : arrSize Tryd.prog 189 = some (65, 1) := by kernel_rfl
@[go_sem] theorem T189_size : T189.size = 65 := by kernel_rfl
@[go_sem] theorem T189_bytes : T189.bytes = 65 := by kernel_rfl
@[go_sem] theorem T189_cells : zeroCells T189.zero = some [.d (.int .u8 0), .d (.int .u8 0), .d (.int .u8 0), .d (.int .u8 0), .d (.int .u8 0), .d (.int .u8 0), .d (.int .u8 0), .d (.int .u8 0), .d (.int .u8 0), .d (.int .u8 0), .d (.int .u8 0), .d (.int .u8 0), .d (.int .u8 0), .d (.int .u8 0), .d (.int .u8 0), .d (.int .u8 0), .d (.int .u8 0), .d (.int .u8 0), .d (.int .u8 0), .d (.int .u8 0), .d (.int .u8 0), .d (.int .u8 0), .d (.int .u8 0), .d (.int .u8 0), .d (.int .u8 0), .d (.int .u8 0), .d (.int .u8 0), .d (.int .u8 0), .d (.int .u8 0), .d (.int .u8 0), .d (.int .u8 0), .d (.int .u8 0), .d (.int .u8 0), .d (.int .u8 0), .d (.int .u8 0), .d (.int .u8 0), .d (.int .u8 0), .d (.int .u8 0), .d (.int .u8 0), .d (.int .u8 0), .d (.int .u8 0), .d (.int .u8 0), .d (.int .u8 0), .d (.int .u8 0), .d (.int .u8 0), .d (.int .u8 0), .d (.int .u8 0), .d (.int .u8 0), .d (.int .u8 0), .d (.int .u8 0), .d (.int .u8 0), .d (.int .u8 0), .d (.int .u8 0), .d (.int .u8 0), .d (.int .u8 0), .d (.int .u8 0), .d (.int .u8 0), .d (.int .u8 0), .d (.int .u8 0), .d (.int .u8 0), .d (.int .u8 0), .d (.int .u8 0), .d (.int .u8 0), .d (.int .u8 0), .d (.int .u8 0)] := by kernel_rfl
@[go_sem] theorem T189_zero : zeroPV T189 = some (.d (.agg [(.int .u8 0), (.int .u8 0), (.int .u8 0), (.int .u8 0), (.int .u8 0), (.int .u8 0), (.int .u8 0), (.int .u8 0), (.int .u8 0), (.int .u8 0), (.int .u8 0), (.int .u8 0), (.int .u8 0), (.int .u8 0), (.int .u8 0), (.int .u8 0), (.int .u8 0), (.int .u8 0), (.int .u8 0), (.int .u8 0), (.int .u8 0), (.int .u8 0), (.int .u8 0), (.int .u8 0), (.int .u8 0), (.int .u8 0), (.int .u8 0), (.int .u8 0), (.int .u8 0), (.int .u8 0), (.int .u8 0), (.int .u8 0), (.int .u8 0), (.int .u8 0), (.int .u8 0), (.int .u8 0), (.int .u8 0), (.int .u8 0), (.int .u8 0), (.int .u8 0), (.int .u8 0), (.int .u8 0), (.int .u8 0), (.int .u8 0), (.int .u8 0), (.int .u8 0), (.int .u8 0), (.int .u8 0), (.int .u8 0), (.int .u8 0), (.int .u8 0), (.int .u8 0), (.int .u8 0), (.int .u8 0), (.int .u8 0), (.int .u8 0), (.int .u8 0), (.int .u8 0), (.int .u8 0), (.int .u8 0), (.int .u8 0), (.int .u8 0), (.int .u8 0), (.int .u8 0), (.int .u8 0)])) := by kernel_rfl
@[go_sem] theorem T189_ok : zeroOk T189 = true := by kernel_rfl
noncomputable def T190 : Ty := (tyOf Tryd.prog 190).getD ⟨.invalid, 0, 0, none⟩
@[go_sem] theorem ty190 : tyOf Tryd.prog 190 = some T190 := by kernel_rfl
@[go_sem] theorem T190_desc : T190.desc = .array 32 5 := by kernel_rfl
@[go_sem] theorem es190 : elemSize Tryd.prog 190 = none := by kernel_rfl
@[go_sem] theorem ars190 : arrSize Tryd.prog 190 = some (32, 1) := by kernel_rfl
@[go_sem] theorem T190_size : T190.size = 32 := by kernel_rfl
@[go_sem] theorem T190_bytes : T190.bytes = 32 := by kernel_rfl
@[go_sem] theorem T190_cells : zeroCells T190.zero = some [.d (.int .u8 0), .d (.int .u8 0), .d (.int .u8 0), .d (.int .u8 0), .d (.int .u8 0), .d (.int .u8 0), .d (.int .u8 0), .d (.int .u8 0), .d (.int .u8 0), .d (.int .u8 0), .d (.int .u8 0), .d (.int .u8 0), .d (.int .u8 0), .d (.int .u8 0), .d (.int .u8 0), .d (.int .u8 0), .d (.int .u8 0), .d (.int .u8 0), .d (.int .u8 0), .d (.int .u8 0), .d (.int .u8 0), .d (.int .u8 0), .d (.int .u8 0), .d (.int .u8 0), .d (.int .u8 0), .d (.int .u8 0), .d (.int .u8 0), .d (.int .u8 0), .d (.int .u8 0), .d (.int .u8 0), .d (.int .u8 0), .d (.int .u8 0)] := by kernel_rfl
@[go_sem] theorem T190_zero : zeroPV T190 = some (.d (.agg [(.int .u8 0), (.int .u8 0), (.int .u8 0), (.int .u8 0), (.int .u8 0), (.int .u8 0), (.int .u8 0), (.int .u8 0), (.int .u8 0), (.int .u8 0), (.int .u8 0), (.int .u8 0), (.int .u8 0), (.int .u8 0), (.int .u8 0), (.int .u8 0), (.int .u8 0), (.int .u8 0), (.int .u8 0), (.int .u8 0), (.int .u8 0), (.int .u8 0), (.int .u8 0), (.int .u8 0), (.int .u8 0), (.int .u8 0), (.int .u8 0), (.int .u8 0), (.int .u8 0), (.int .u8 0), (.int .u8 0), (.int .u8 0)])) := by kernel_rfl
@[go_sem] theorem T190_ok : zeroOk T190 = true := by kernel_rfl
noncomputable def T191 : Ty := (tyOf Tryd.prog 191).getD ⟨.invalid, 0, 0, none⟩
@[go_sem] theorem ty191 : tyOf Tryd.prog 191 = some T191 := by kernel_rfl
@[go_sem] theorem T191_desc : T191.desc = .array 64 5 := by kernel_rfl
@[go_sem] theorem es191 : elemSize Tryd.prog 191 = none := by kernel_rfl
@[go_sem] theorem ars191 : arrSize Tryd.prog 191 = some (64, 1) := by kernel_rfl
@[go_sem] theorem T191_size : T191.size = 64 := by kernel_rfl
@[go_sem] theorem T191_bytes : T191.bytes = 64 := by kernel_rfl
@[go_sem] theorem T191_cells : zeroCells T191.zero = some [.d (.int .u8 0), .d (.int .u8 0), .d (.int .u8 0), .d (.int .u8 0), .d (.int .u8 0), .d (.int .u8 0), .d (.int .u8 0), .d (.int .u8 0), .d (.int .u8 0), .d (.int .u8 0), .d (.int .u8 0), .d (.int .u8 0), .d (.int .u8 0), .d (.int .u8 0), .d (.int .u8 0), .d (.int .u8 0), .d (.int .u8 0), .d (.int .u8 0), .d (.int .u8 0), .d (.int .u8 0), .d (.int .u8 0), .d (.int .u8 0), .d (.int .u8 0), .d (.int .u8 0), .d (.int .u8 0), .d (.int .u8 0), .d (.int .u8 0), .d (.int .u8 0), .d (.int .u8 0), .d (.int .u8 0), .d (.int .u8 0), .d (.int .u8 0), .d (.int .u8 0), .d (.int .u8 0), .d (.int .u8 0), .d (.int .u8 0), .d (.int .u8 0), .d (.int .u8 0), .d (.int .u8 0), .d (.int .u8 0), .d (.int .u8 0), .d (.int .u8 0), .d (.int .u8 0), .d (.int .u8 0), .d (.int .u8 0), .d (.int .u8 0), .d (.int .u8 0), .d (.int .u8 0), .d (.int .u8 0), .d (.int .u8 0), .d (.int .u8 0), .d (.int .u8 0), .d (.int .u8 0), .d (.int .u8 0), .d (.int .u8 0), .d (.int .u8 0), .d (.int .u8 0), .d (.int .u8 0), .d (.int .u8 0), .d (.int .u8 0), .d (.int .u8 0), .d (.int .u8 0), .d (.int .u8 0), .d (.int .u8 0)] := by kernel_rfl
@[go_sem] theorem T191_zero : zeroPV T191 = some (.d (.agg [(.int .u8 0), (.int .u8 0), (.int .u8 0), (.int .u8 0), (.int .u8 0), (.int .u8 0), (.int .u8 0), (.int .u8 0), (.int .u8 0), (.int .u8 0), (.int .u8 0), (.int .u8 0), (.int .u8 0), (.int .u8 0), (.int .u8 0), (.int .u8 0), (.int .u8 0), (.int .u8 0), (.int .u8 0), (.int .u8 0), (.int .u8 0), (.int .u8 0), (.int .u8 0), (.int .u8 0), (.int .u8 0), (.int .u8 0), (.int .u8 0), (.int .u8 0), (.int .u8 0), (.int .u8 0), (.int .u8 0), (.int .u8 0), (.int .u8 0), (.int .u8 0), (.int .u8 0), (.int .u8 0), (.int .u8 0), (.int .u8 0), (.int .u8 0), (.int .u8 0), (.int .u8 0), (.int .u8 0), (.int .u8 0), (.int .u8 0), (.int .u8 0), (.int .u8 0), (.int .u8 0), (.int .u8 0), (.int .u8 0), (.int .u8 0), (.int .u8 0), (.int .u8 0), (.int .u8 0), (.int .u8 0), (.int .u8 0), (.int .u8 0), (.int .u8 0), (.int .u8 0), (.int .u8 0), (.int .u8 0), (.int .u8 0), (.int .u8 0), (.int .u8 0), (.int .u8 0)])) := by kernel_rfl
@[go_sem] theorem T191_ok : zeroOk T191 = true := by kernel_rfl
noncomputable def T194 : Ty := (tyOf Tryd.prog 194).getD ⟨.invalid, 0, 0, none⟩
@[go_sem] theorem ty194 : tyOf Tryd.prog 194 = some T194 := by kernel_rfl
@[go_sem] theorem T194_desc : T194.desc = .array 0 16 := by kernel_rfl
@[go_sem] theorem es194 : elemSize Tryd.prog 194 = none := by kernel_rfl
@[go_sem] theorem ars194 : arrSize Tryd.prog 194 = some (0, 1) := by kernel_rfl
@[go_sem] theorem T194_size : T194.size = 0 := by kernel_rfl
@[go_sem] theorem T194_bytes : T194.bytes = 0 := by kernel_rfl
noncomputable def T195 : Ty := (tyOf Tryd.prog 195).getD ⟨.invalid, 0, 0, none⟩
@[go_sem] theorem ty195 : tyOf Tryd.prog 195 = some T195 := by kernel_rfl
noncomputable def fs195 : Array Field := match T195.desc with | .struct fs => fs | _ => #[]
@[go_sem] theorem T195_desc : T195.desc = .struct fs195 := by kernel_rfl
noncomputable def fs195_0 : Field := fs195.getD 0 default
@[go_sem] theorem fs195_at0 : fs195[0]? = some fs195_0 := by kernel_rfl
@[go_sem] theorem fs195_0_type : fs195_0.type = 194 := by kernel_rfl
@[go_sem] theorem fs195_0_off : fs195_0.offset = 0 := by kernel_rfl
@[go_sem] theorem fo195_0 : fieldOf Tryd.prog 195 0 = some (0, 0) := by kernel_rfl
@[go_sem] theorem pl195 : placesOf Tryd.prog fs195.toList = some [(0, 0)] := by kernel_rfl
@[go_sem] theorem T195_size : T195.size = 0 := by kernel_rfl
@[go_sem] theorem T195_bytes : T195.bytes = 0 := by kernel_rfl
noncomputable def T199 : Ty := (tyOf Tryd.prog 199).getD ⟨.invalid, 0, 0, none⟩
@[go_sem] theorem ty199 : tyOf Tryd.prog 199 = some T199 := by kernel_rfl
@[go_sem] theorem T199_desc : T199.desc = .func #[171, 171] #[4] false := by kernel_rfl
@[go_sem] theorem T199_size : T199.size = 1 := by kernel_rfl
@[go_sem] theorem T199_bytes : T199.bytes = 8 := by kernel_rfl
@[go_sem] theorem T199_zero : zeroPV T199 = some (.d .nilfunc) := by kernel_rfl
@[go_sem] theorem T199_ok : zeroOk T199 = true := by kernel_rfl
@[go_sem] theorem rg0 : List.range 0 = [] := by decide
@[go_sem] theorem rg3 : List.range 3 = [0, 1, 2] := by decide
@[go_sem] theorem se22 : sliceElem Tryd.prog 22 = some (56, T56) := by kernel_rfl
@[go_sem] theorem se26 : sliceElem Tryd.prog 26 = some (3, T3) := by kernel_rfl
@[go_sem] theorem se32 : sliceElem Tryd.prog 32 = some (37, T37) := by kernel_rfl
@[go_sem] theorem se52 : sliceElem Tryd.prog 52 = some (5, T5) := by kernel_rfl
@[go_sem] theorem se54 : sliceElem Tryd.prog 54 = some (61, T61) := by kernel_rfl
@[go_sem] theorem se76 : sliceElem Tryd.prog 76 = some (120, T120) := by kernel_rfl
@[go_sem] theorem se79 : sliceElem Tryd.prog 79 = some (26, T26) := by kernel_rfl
@[go_sem] theorem se113 : sliceElem Tryd.prog 113 = some (22, T22) := by kernel_rfl
end Go.Pv.Tryd

namespace Go.Pv.Tryd
open Go.Proofs Go.Pv
theorem mo : Tryd.prog.follows .mixedOrders = true := by kernel_rfl
def tabG : Nat := 0
def G : List (Nat × PD) := [(tabG, .agg (Lib.pow10Tab.map (PD.int .u64)))]
attribute [go_sem] reduceCtorEq Nat.reduceAdd Nat.reduceMul Nat.reduceLT Nat.reduceLeDiff Nat.reduceEqDiff Nat.reduceBEq Int.reduceToNat
attribute [go_sem] Tryd.results2 Tryd.results3 Tryd.results4 Tryd.results5 Tryd.results6 Tryd.results7 Tryd.results8 Tryd.results9 Tryd.results10 Tryd.results11 Tryd.results12 Tryd.results13 Tryd.results14 Tryd.results15 Tryd.results16 Tryd.results17 Tryd.results18 Tryd.results19 Tryd.results20 Tryd.results21 Tryd.results22 Tryd.results23 Tryd.results24 Tryd.results25 Tryd.results26 Tryd.results27 Tryd.results28 Tryd.results29 Tryd.results30 Tryd.results31 Tryd.results32 Tryd.results33 Tryd.results34 Tryd.results35 Tryd.results36 Tryd.results37 Tryd.results38 Tryd.results39 Tryd.results40 Tryd.results41 Tryd.results42 Tryd.results43 Tryd.results44 Tryd.results45 Tryd.results46 Tryd.results47 Tryd.results48 Tryd.results49 Tryd.results50 Tryd.results51 Tryd.results52 Tryd.results53 Tryd.results54 Tryd.results55 Tryd.results56 Tryd.results57 Tryd.results58 Tryd.results59 Tryd.results60 Tryd.results61 Tryd.results62 Tryd.results63 Tryd.results64 Tryd.results65 Tryd.results66 Tryd.results67 Tryd.results68 Tryd.results69 Tryd.results70 Tryd.results71 Tryd.results72 Tryd.results73 Tryd.results74 Tryd.results75 Tryd.results76 Tryd.results77 Tryd.results78 Tryd.results79 Tryd.results80 Tryd.results81 Tryd.results82 Tryd.results83 Tryd.results84 Tryd.results85 Tryd.results86 Tryd.results87 Tryd.results88 Tryd.results89 Tryd.results90 Tryd.results91 Tryd.results92 Tryd.results93 Tryd.results94 Tryd.results95 Tryd.results96 Tryd.results97 Tryd.results98 Tryd.results99 Tryd.results100 Tryd.results101 Tryd.results102 Tryd.results103 Tryd.results104 Tryd.results105 Tryd.results106 Tryd.results107 Tryd.results108 Tryd.results109 Tryd.results110 Tryd.results111 Tryd.results112 Tryd.results113 Tryd.results114 Tryd.results115 Tryd.results116 Tryd.results117 Tryd.results118 Tryd.results119 Tryd.results120 Tryd.results121 Tryd.results122 Tryd.results123 Tryd.results124 Tryd.results125 Tryd.results126 Tryd.results127 Tryd.results128 Tryd.results130 Tryd.results131 Tryd.results132 Tryd.results133 Tryd.results134 Tryd.results135 Tryd.results136 Tryd.results137 Tryd.results138 Tryd.results139 Tryd.results140 Tryd.results141 Tryd.results142 Tryd.results143 Tryd.results144 Tryd.results145 Tryd.results146 Tryd.results147 Tryd.results170
theorem MU135 : Tryd.prog.underlying 135 = some (.map 121 26) := by kernel_rfl
theorem KE121 : KeyEnc Tryd.prog 121 Arr3_Int.pd (fun a : Arr3_Int => Value.agg (([a.c0, a.c1, a.c2].map (Value.int .i64)).toArray)) := by
  obtain ⟨i, hi, hs⟩ : ∃ i, Tryd.prog.info? 3 = some i ∧ i.size = 1 := by
    have h : (Tryd.prog.info? 3).map (·.size) = some 1 := by kernel_rfl
    simpa [Option.map_eq_some_iff] using h
  exact KeyEnc.ints (n := 3) (by kernel_rfl) hi hs (by kernel_rfl) (fun a : Arr3_Int => [a.c0, a.c1, a.c2]) (fun _ => rfl) (by rintro ⟨⟩ ⟨⟩ h; simp at h; simp [h])
theorem MZ26 : T26.zero = some (.slice none 0 0) := by kernel_rfl
theorem MU117 : Tryd.prog.underlying 117 = some (.map 121 4) := by kernel_rfl
theorem MZ4 : T4.zero = some (.bool false) := by kernel_rfl
theorem MU89 : Tryd.prog.underlying 89 = some (.map 121 3) := by kernel_rfl
theorem MZ3 : T3.zero = some (.int .i64 0) := by kernel_rfl
theorem MU90 : Tryd.prog.underlying 90 = some (.map 9 3) := by kernel_rfl
theorem KE9 : KeyEnc Tryd.prog 9 PD.str Value.string := KeyEnc.str (by kernel_rfl)
theorem MU133 : Tryd.prog.underlying 133 = some (.map 3 3) := by kernel_rfl
theorem KE3 : KeyEnc Tryd.prog 3 (PD.int .i64) (Value.int .i64) := KeyEnc.int (by kernel_rfl)
end Go.Pv.Tryd

namespace Go.Pv
theorem drop_all {α : Type} (l : List α) {i : Nat} (h : l.length ≤ i) : l.drop i = [] := List.drop_eq_nil_of_le h
theorem iter_eq {S X : Type} (f : S → Option (S ⊕ X)) (s : S) : iter f s = (f s).bind fun o => match o with
    | .inl s' => iter f s'
    | .inr x => some x := by
  cases h : f s with
  | none =>
    simp only [Option.bind_none]
    cases hi : iter f s with
    | none => rfl
    | some x =>
      obtain ⟨n, hn⟩ := iter_some hi
      cases n with
      | zero => cases hn
      | succ n => rw [iterN_succ, h] at hn; cases hn
  | some o =>
    simp only [Option.bind_some]
    cases o with
    | inr x => exact iter_done h
    | inl s' =>
      show iter f s = iter f s'
      cases hi : iter f s' with
      | some x => exact iter_step h hi
      | none =>
        cases hi2 : iter f s with
        | none => rfl
        | some x =>
          obtain ⟨n, hn⟩ := iter_some hi2
          cases n with
          | zero => cases hn
          | succ n =>
            rw [iterN_succ, h] at hn
            have := iter_of (f := f) (s := s') (n := n) hn
            rw [hi] at this; cases this
theorem iter_find {α : Type} {s : List α} {p : α → Option Bool} {q : α → Bool} {f : Int → Option (Int ⊕ (Unit ⊕ Int))} (hs : s.length ≤ 9223372036854775807)
    (hf : ∀ v, f v = cond (decide (v < (s.length : Int))) ((idx s v).bind fun e => (p e).bind fun r => cond r (some (.inr (.inr v))) (some (.inl (IntKind.i64.wrap (v + 1))))) (some (.inr (.inl ()))))
    (hq : ∀ x ∈ s, p x = some (q x)) : ∀ (k i : Nat), k = s.length - i → iter f (i : Int) = some (match (s.drop i).findIdx? q with | some j => .inr ((i + j : Nat) : Int) | none => .inl ())
  | 0, i, hk => by
    have h1 : decide ((i : Int) < (s.length : Int)) = false := by simp; omega
    rw [iter_eq, hf, h1, List.drop_eq_nil_of_le (by omega)]; rfl
  | k + 1, i, hk => by
    have hi : i < s.length := by omega
    have h1 : decide ((i : Int) < (s.length : Int)) = true := by simp; omega
    have h2 : idx s (i : Int) = some s[i] := by
      unfold idx
      simp [hi]
    rw [iter_eq, hf, h1, h2, List.drop_eq_getElem_cons hi, List.findIdx?_cons]
    simp only [cond_true, Option.bind_some, hq _ (List.getElem_mem hi)]
    cases hb : q s[i] with
    | true => simp
    | false =>
      simp only [cond_false, Option.bind_some]
      rw [wrap_i64_eq (by omega)]
      have := iter_find hs hf hq k (i + 1) (by omega)
      rw [show ((i : Int) + 1) = ((i + 1 : Nat) : Int) by omega, this]
      cases (s.drop (i + 1)).findIdx? q with
      | none => rfl
      | some j => simp; omega
end Go.Pv

namespace Go.Pv
theorem find_nonneg {α : Type} (l : List α) (q : α → Bool) : decide (0 ≤ (match l.findIdx? q with | some j => (j : Int) | none => -1)) = l.any q := by
  cases h : l.findIdx? q with
  | none =>
    rw [List.findIdx?_eq_none_iff] at h
    have : l.any q = false := by rw [List.any_eq_false]; intro x hx; simp [h x hx]
    rw [this]; rfl
  | some j =>
    have h2 : l.any q = true := by
      cases ha : l.any q with
      | true => rfl
      | false =>
        rw [List.any_eq_false] at ha
        have : l.findIdx? q = none := List.findIdx?_eq_none_iff.2 fun x hx => by simpa using ha x hx
        rw [h] at this; cases this
    rw [h2]; simp
def bandBad (b : Band) : Bool := ((decide (b.Lo < 0)) || (decide (b.Hi ≤ b.Lo))) || (decide (1000 < b.Hi))
def fineR (k : Int) (r : Rule) : Bool := (((decide ((r.Bands.length : Int) = k)) && (decide (0 ≤ r.Code))) && (decide (r.Code ≤ 99))) && !(r.Bands.any bandBad)
theorem bad_index (s : List Band) (hs : s.length ≤ 9223372036854775807) : m_slices_IndexFunc_113_f103 s = some (match s.findIdx? bandBad with | some j => (j : Int) | none => -1) := by
  unfold m_slices_IndexFunc_113_f103
  have h := iter_find (s := s) (p := m_tariff_fine_1) (q := bandBad) (f := m_slices_IndexFunc_113_f103_l1 s) hs (fun v => rfl) (fun x _ => rfl) (s.length) 0 (by omega)
  rw [show ((0 : Nat) : Int) = 0 from rfl] at h
  rw [h, List.drop_zero]
  cases s.findIdx? bandBad <;> simp
theorem bad_any (s : List Band) (hs : s.length ≤ 9223372036854775807) : m_slices_ContainsFunc_104_f103 s = some (s.any bandBad) := by
  unfold m_slices_ContainsFunc_104_f103
  rw [bad_index s hs, Option.bind_some, find_nonneg]
theorem fine_eq {k : Int} (hk : k ≤ 4) (r : Rule) : m_tariff_fine k r = some (fineR k r) := by
  unfold m_tariff_fine fineR
  cases hc : (((decide ((r.Bands.length : Int) = k)) && (decide (0 ≤ r.Code))) && (decide (r.Code ≤ 99))) with
  | false => rfl
  | true =>
    have hl : (r.Bands.length : Int) = k := by simp at hc; exact hc.1.1
    simp only [cond_true, Bool.true_and]
    rw [bad_any _ (by omega)]; rfl
theorem notFine_index {k : Int} (hk : k ≤ 4) (s : List Rule) (hs : s.length ≤ 9223372036854775807) : m_slices_IndexFunc_99_f77 s k = some (match s.findIdx? (fun r => !fineR k r) with | some j => (j : Int) | none => -1) := by
  unfold m_slices_IndexFunc_99_f77
  have h := iter_find (s := s) (p := fun e => m_tariff_checked_1_c e k) (q := fun r => !fineR k r) (f := m_slices_IndexFunc_99_f77_l1 s k) hs (fun v => rfl) (fun x _ => by unfold m_tariff_checked_1_c; rw [fine_eq hk]; rfl) (s.length) 0 (by omega)
  rw [show ((0 : Nat) : Int) = 0 from rfl] at h
  rw [h, List.drop_zero]
  cases s.findIdx? (fun r => !fineR k r) <;> simp
theorem notFine_any {k : Int} (hk : k ≤ 4) (s : List Rule) (hs : s.length ≤ 9223372036854775807) : m_slices_ContainsFunc_76_f77 s k = some (s.any fun r => !fineR k r) := by
  unfold m_slices_ContainsFunc_76_f77
  rw [notFine_index hk s hs, Option.bind_some, find_nonneg]
end Go.Pv

namespace Go.Pv
def chk1 (k : Int) (t : List Rule) : Int := cond (decide (24 < (t.length : Int))) 3 (cond (t.any fun r => !fineR k r) 2 0)
def chkL (k : Int) : List (List Rule) → Int
  | [] => 0
  | t :: l => cond (chk1 k t == 0) (chkL k l) (chk1 k t)
def chk (k : Int) (ts : List (List Rule)) : Int := if 1 ≤ k ∧ k ≤ 4 then chkL k ts else 2
theorem checked_loop {k : Int} (hk : k ≤ 4) (ts : List (List Rule)) (hs : ts.length ≤ 9223372036854775807) : ∀ (n i : Nat), n = ts.length - i → iter (m_tariff_checked_l1 k ts) (i : Int) = some (cond (chkL k (ts.drop i) == 0) (.inl ()) (.inr (chkL k (ts.drop i))))
  | 0, i, hn => by
    have h1 : decide ((i : Int) < (ts.length : Int)) = false := by simp; omega
    rw [iter_eq, List.drop_eq_nil_of_le (by omega)]
    unfold m_tariff_checked_l1
    rw [h1]; rfl
  | n + 1, i, hn => by
    have hi : i < ts.length := by omega
    have h1 : decide ((i : Int) < (ts.length : Int)) = true := by simp; omega
    have h2 : idx ts (i : Int) = some ts[i] := by unfold idx; simp [hi]
    rw [iter_eq, List.drop_eq_getElem_cons hi]
    have ih := checked_loop hk ts hs n (i + 1) (by omega)
    generalize hm : m_tariff_checked_l1 k ts = f at ih ⊢
    have hf : f (i : Int) = cond (decide (24 < (ts[i].length : Int))) (some (.inr (.inr 3))) ((m_slices_ContainsFunc_76_f77 ts[i] k).bind fun r2 => cond r2 (some (.inr (.inr 2))) (some (.inl (IntKind.i64.wrap ((i : Int) + 1))))) := by
      rw [← hm]; unfold m_tariff_checked_l1; rw [h1, cond_true, h2]; rfl
    rw [hf]
    simp only [chkL, chk1]
    cases hb : decide (24 < (ts[i].length : Int)) with
    | true => rfl
    | false =>
      have hb : ¬ 24 < (ts[i].length : Int) := by simpa using hb
      simp only [cond_false]
      rw [notFine_any hk _ (by omega), Option.bind_some]
      cases ha : ts[i].any fun r => !fineR k r with
      | true => rfl
      | false =>
        simp only [cond_false, Option.bind_some]
        rw [wrap_i64_eq (by omega), show ((i : Int) + 1) = ((i + 1 : Nat) : Int) by omega]
        exact ih
theorem checked_eq (k : Int) (ts : List (List Rule)) (hs : ts.length ≤ 9223372036854775807) : m_tariff_checked k ts = some (chk k ts) := by
  unfold m_tariff_checked m_tariff_marks chk
  simp only [Option.bind_some]
  by_cases hk : 1 ≤ k ∧ k ≤ 4
  · have h1 : (!(decide (1 ≤ k) && decide (k ≤ 4))) = false := by simp; exact hk
    rw [h1, if_pos hk, cond_false]
    have h := checked_loop hk.2 ts hs ts.length 0 (by omega)
    rw [show ((0 : Nat) : Int) = 0 from rfl, List.drop_zero] at h
    rw [h]
    cases h0 : chkL k ts == 0 with
    | true => have : chkL k ts = 0 := by simpa using h0
              rw [this]; rfl
    | false => rfl
  · have h1 : (!(decide (1 ≤ k) && decide (k ≤ 4))) = true := by
      cases h : decide (1 ≤ k) && decide (k ≤ 4) with
      | false => rfl
      | true => exfalso; simp at h; exact hk h
    rw [h1, if_neg hk, cond_true]
theorem good_bands {k : Int} (e : Rule) (hl : (e.Bands.length : Int) = k) (hk : k ≤ 4) : ∀ (n i : Nat), n = e.Bands.length - i → iter (m_cocketref02_Good_l2 k e) (i : Int) = some (cond ((e.Bands.drop i).any bandBad) (.inr 2) (.inl ()))
  | 0, i, hn => by
    have h1 : decide ((i : Int) < k) = false := by simp; omega
    rw [iter_eq, List.drop_eq_nil_of_le (by omega)]
    unfold m_cocketref02_Good_l2
    rw [h1]; rfl
  | n + 1, i, hn => by
    have hi : i < e.Bands.length := by omega
    have h1 : decide ((i : Int) < k) = true := by simp; omega
    have h2 : idx e.Bands (i : Int) = some e.Bands[i] := by unfold idx; simp [hi]
    have ih := good_bands e hl hk n (i + 1) (by omega)
    rw [iter_eq, List.drop_eq_getElem_cons hi]
    generalize hm : m_cocketref02_Good_l2 k e = f at ih ⊢
    have hf : f (i : Int) = cond (decide (e.Bands[i].Lo < 0)) (some (.inr (.inr 2))) (cond (decide (e.Bands[i].Hi ≤ e.Bands[i].Lo)) (some (.inr (.inr 2))) (cond (decide (1000 < e.Bands[i].Hi)) (some (.inr (.inr 2))) (some (.inl (IntKind.i64.wrap ((i : Int) + 1)))))) := by
      rw [← hm]; unfold m_cocketref02_Good_l2; rw [h1, cond_true, h2]; rfl
    rw [hf]
    simp only [List.any_cons, bandBad]
    cases ha : decide (e.Bands[i].Lo < 0) with
    | true => rfl
    | false =>
      cases hb : decide (e.Bands[i].Hi ≤ e.Bands[i].Lo) with
      | true => rfl
      | false =>
        cases hc : decide (1000 < e.Bands[i].Hi) with
        | true => rfl
        | false =>
          simp only [cond_false, Option.bind_some, Bool.false_or]
          rw [wrap_i64_eq (by omega), show ((i : Int) + 1) = ((i + 1 : Nat) : Int) by omega]
          exact ih
theorem good_rules {k : Int} (hk : k ≤ 4) (t : List Rule) (ht : t.length ≤ 24) : ∀ (n i : Nat), n = t.length - i → iter (m_cocketref02_Good_l1 k t) (i : Int) = some (cond ((t.drop i).any fun r => !fineR k r) (.inr 2) (.inl ()))
  | 0, i, hn => by
    have h1 : decide ((i : Int) < (t.length : Int)) = false := by simp; omega
    rw [iter_eq, List.drop_eq_nil_of_le (by omega)]
    unfold m_cocketref02_Good_l1
    rw [h1]; rfl
  | n + 1, i, hn => by
    have hi : i < t.length := by omega
    have h1 : decide ((i : Int) < (t.length : Int)) = true := by simp; omega
    have h2 : idx t (i : Int) = some t[i] := by unfold idx; simp [hi]
    have ih := good_rules hk t ht n (i + 1) (by omega)
    rw [iter_eq, List.drop_eq_getElem_cons hi]
    generalize hm : m_cocketref02_Good_l1 k t = f at ih ⊢
    have hf : f (i : Int) = cond (fineR k t[i]) (some (.inl (IntKind.i64.wrap ((i : Int) + 1)))) (some (.inr (.inr 2))) := by
      rw [← hm]; unfold m_cocketref02_Good_l1; rw [h1, cond_true, h2, Option.bind_some]
      by_cases hc : ((t[i].Bands.length : Int) = k ∧ 0 ≤ t[i].Code) ∧ t[i].Code ≤ 99
      · have e1 : (((decide (¬(t[i].Bands.length : Int) = k)) || (decide (t[i].Code < 0))) || (decide (99 < t[i].Code))) = false := by
          simp only [Bool.or_eq_false_iff, decide_eq_false_iff_not]; exact ⟨⟨fun h => h hc.1.1, by omega⟩, by omega⟩
        have e2 : fineR k t[i] = !(t[i].Bands.any bandBad) := by simp [fineR, hc.1.1, hc.1.2, hc.2]
        have hb := good_bands t[i] hc.1.1 hk t[i].Bands.length 0 (by omega)
        rw [show ((0 : Nat) : Int) = 0 from rfl, List.drop_zero] at hb
        rw [e1, cond_false, hb, e2]
        cases t[i].Bands.any bandBad <;> rfl
      · have e1 : (((decide (¬(t[i].Bands.length : Int) = k)) || (decide (t[i].Code < 0))) || (decide (99 < t[i].Code))) = true := by
          cases he : (((decide (¬(t[i].Bands.length : Int) = k)) || (decide (t[i].Code < 0))) || (decide (99 < t[i].Code))) with
          | true => rfl
          | false =>
            exfalso; simp only [Bool.or_eq_false_iff, decide_eq_false_iff_not, Decidable.not_not] at he
            exact hc ⟨⟨he.1.1, by omega⟩, by omega⟩
        have e2 : fineR k t[i] = false := by
          cases he : fineR k t[i] with
          | false => rfl
          | true => exfalso; simp only [fineR, Bool.and_eq_true, decide_eq_true_eq] at he; exact hc he.1
        rw [e1, e2]; rfl
    rw [hf]
    simp only [List.any_cons]
    cases hc : fineR k t[i] with
    | false => rfl
    | true =>
      simp only [cond_true, Option.bind_some, Bool.not_true, Bool.false_or]
      rw [wrap_i64_eq (by omega), show ((i : Int) + 1) = ((i + 1 : Nat) : Int) by omega]
      exact ih
theorem good_eq (k : Int) (t : List Rule) : m_cocketref02_Good k t = some (chk k [t]) := by
  unfold m_cocketref02_Good chk
  by_cases hk : 1 ≤ k ∧ k ≤ 4
  · have h1 : ((decide (k < 1)) || (decide (4 < k))) = false := by simp; omega
    rw [h1, cond_false, if_pos hk]
    simp only [chkL, chk1]
    cases ht : decide (24 < (t.length : Int)) with
    | true => rfl
    | false =>
      have ht : ¬ 24 < (t.length : Int) := by simpa using ht
      have hb := good_rules hk.2 t (by omega) t.length 0 (by omega)
      rw [show ((0 : Nat) : Int) = 0 from rfl, List.drop_zero] at hb
      rw [cond_false, hb]
      cases t.any fun r => !fineR k r <;> rfl
  · have h1 : ((decide (k < 1)) || (decide (4 < k))) = true := by
      simp only [Bool.or_eq_true, decide_eq_true_eq]; omega
    rw [h1, cond_true, if_neg hk]
end Go.Pv

namespace Go.Pv
def inBand (b : Band) (x : Int) : Bool := !(decide (x < b.Lo)) && !(decide (b.Hi ≤ x))
def fitsL : List Band → List Int → Bool
  | b :: bs, x :: l => inBand b x && fitsL bs l
  | _, _ => true
def decideS (t : List Rule) (l : List Int) : Int := match t.findIdx? (fun r => fitsL r.Bands l) with | some j => (j : Int) | none => -1
end Go.Pv

namespace Go.Pv
theorem chk_good {k : Int} {t : List Rule} (h : chk k [t] = 0) : 1 ≤ k ∧ k ≤ 4 ∧ t.length ≤ 24 ∧ ∀ r ∈ t, fineR k r = true := by
  unfold chk at h
  by_cases hk : 1 ≤ k ∧ k ≤ 4
  · rw [if_pos hk] at h
    simp only [chkL, chk1] at h
    cases hb : decide (24 < (t.length : Int)) with
    | true => rw [hb] at h; simp at h
    | false =>
      rw [hb] at h
      cases ha : t.any fun r => !fineR k r with
      | true => rw [ha] at h; simp at h
      | false =>
        rw [List.any_eq_false] at ha
        refine ⟨hk.1, hk.2, by simp at hb; omega, fun r hr => ?_⟩
        have := ha r hr
        simpa using this
  · rw [if_neg hk] at h; cases h
theorem fine_len {k : Int} {r : Rule} (h : fineR k r = true) : (r.Bands.length : Int) = k := by
  simp only [fineR, Bool.and_eq_true, decide_eq_true_eq] at h; exact h.1.1.1
end Go.Pv

namespace Go.Pv
def insS (n : Int) : List Int → List Int
  | [] => [n]
  | x :: l => cond (decide (n ≤ x)) (cond (decide (n < x)) (n :: x :: l) (x :: l)) (x :: insS n l)
def hasS (n : Int) (l : List Int) : Bool := l.any fun x => decide (n ≤ x)
theorem insS_not {n : Int} : ∀ {l : List Int}, hasS n l = false → insS n l = l ++ [n]
  | [], _ => rfl
  | x :: l, h => by
    simp only [hasS, List.any_cons, Bool.or_eq_false_iff] at h
    simp only [insS, h.1, cond_false, List.cons_append, insS_not (l := l) h.2]
theorem putl_done (l : List Int) (n : Int) (hl : l.length ≤ 1000000) : ∀ (m i : Nat) (L : List Int), m = l.length - i → L.length ≤ i + 1 → iter (m_cocketref02_put_l1 l n) (true, (i : Int), L) = some (true, L ++ l.drop i)
  | 0, i, L, hm, hL => by
    have h1 : decide ((i : Int) < (l.length : Int)) = false := by simp; omega
    rw [iter_eq, drop_all (l) (by omega)]
    unfold m_cocketref02_put_l1
    simp only [h1, cond_false, Option.bind_some, List.append_nil]
  | m + 1, i, L, hm, hL => by
    have hi : i < l.length := by omega
    have h1 : decide ((i : Int) < (l.length : Int)) = true := by simp; omega
    have h2 : idx l (i : Int) = some l[i] := by unfold idx; simp [hi]
    have ih := putl_done l n hl m (i + 1) (L ++ [l[i]]) (by omega) (by simp; omega)
    rw [iter_eq, List.drop_eq_getElem_cons hi]
    generalize hf0 : m_cocketref02_put_l1 l n = f at ih ⊢
    have hf : f (true, (i : Int), L) = some (.inl (true, IntKind.i64.wrap ((i : Int) + 1), L ++ [l[i]])) := by
      rw [← hf0]; unfold m_cocketref02_put_l1
      simp only [h1, cond_true, Bool.not_true, cond_false, Option.bind_some, h2]
      have : L.length + [l[i]].length ≤ 4294967296 := by simp; omega
      simp only [guardO, this, if_true]
    rw [hf]
    simp only [Option.bind_some]
    rw [wrap_i64_eq (by omega), show ((i : Int) + 1) = ((i + 1 : Nat) : Int) by omega, ih]
    simp
theorem putl_loop (l : List Int) (n : Int) (hl : l.length ≤ 1000000) : ∀ (m i : Nat) (L : List Int), m = l.length - i → L.length ≤ i → iter (m_cocketref02_put_l1 l n) (false, (i : Int), L) = some (hasS n (l.drop i), L ++ cond (hasS n (l.drop i)) (insS n (l.drop i)) (l.drop i))
  | 0, i, L, hm, hL => by
    have h1 : decide ((i : Int) < (l.length : Int)) = false := by simp; omega
    rw [iter_eq, drop_all (l) (by omega)]
    unfold m_cocketref02_put_l1
    simp only [h1, cond_false, Option.bind_some, hasS, List.any_nil, List.append_nil]
  | m + 1, i, L, hm, hL => by
    have hi : i < l.length := by omega
    have h1 : decide ((i : Int) < (l.length : Int)) = true := by simp; omega
    have h2 : idx l (i : Int) = some l[i] := by unfold idx; simp [hi]
    have ihd := fun L hL => putl_done l n hl m (i + 1) L (by omega) hL
    have ih := putl_loop l n hl m (i + 1) (L ++ [l[i]]) (by omega) (by simp; omega)
    rw [iter_eq, List.drop_eq_getElem_cons hi]
    generalize hf0 : m_cocketref02_put_l1 l n = f at ih ihd ⊢
    have g1 : L.length + [n].length ≤ 4294967296 := by simp; omega
    have g2 : (L ++ [n]).length + [l[i]].length ≤ 4294967296 := by simp; omega
    have g3 : L.length + [l[i]].length ≤ 4294967296 := by simp; omega
    have hf : f (false, (i : Int), L) = cond (decide (n ≤ l[i])) (cond (decide (n < l[i])) (some (.inl (true, IntKind.i64.wrap ((i : Int) + 1), L ++ [n] ++ [l[i]]))) (some (.inl (true, IntKind.i64.wrap ((i : Int) + 1), L ++ [l[i]])))) (some (.inl (false, IntKind.i64.wrap ((i : Int) + 1), L ++ [l[i]]))) := by
      rw [← hf0]; unfold m_cocketref02_put_l1
      simp only [h1, cond_true, Bool.not_false, Option.bind_some, h2]
      cases decide (n ≤ l[i]) with
      | false => simp only [cond_false, Option.bind_some, guardO, g3, if_true]
      | true =>
        cases decide (n < l[i]) with
        | false => simp only [cond_true, cond_false, Option.bind_some, guardO, g3, if_true]
        | true => simp only [cond_true, Option.bind_some, guardO, g1, g2, if_true]
    rw [hf]
    simp only [hasS, List.any_cons, insS]
    cases ha : decide (n ≤ l[i]) with
    | false =>
      simp only [cond_false, Option.bind_some, Bool.false_or]
      rw [wrap_i64_eq (by omega), show ((i : Int) + 1) = ((i + 1 : Nat) : Int) by omega, ih]
      simp only [hasS]
      cases (List.drop (i + 1) l).any fun x => decide (n ≤ x) <;> simp
    | true =>
      cases hb : decide (n < l[i]) with
      | false =>
        simp only [cond_true, cond_false, Option.bind_some, Bool.true_or]
        rw [wrap_i64_eq (by omega), show ((i : Int) + 1) = ((i + 1 : Nat) : Int) by omega, ihd _ (by simp; omega)]
        simp
      | true =>
        simp only [cond_true, Option.bind_some, Bool.true_or]
        rw [wrap_i64_eq (by omega), show ((i : Int) + 1) = ((i + 1 : Nat) : Int) by omega, ihd _ (by simp; omega)]
        simp
theorem put_eq (l : List Int) (n : Int) (hl : l.length ≤ 1000000) : m_cocketref02_put l n = some (insS n l) := by
  unfold m_cocketref02_put
  have h := putl_loop l n hl l.length 0 [] (by omega) (by simp)
  rw [show ((0 : Nat) : Int) = 0 from rfl, List.drop_zero, List.nil_append] at h
  rw [h]
  cases hh : hasS n l with
  | true => rfl
  | false =>
    have : l.length + [n].length ≤ 4294967296 := by simp; omega
    simp only [Option.bind_some, cond_false, Bool.not_false, cond_true, guardO, this, if_true, insS_not hh]
end Go.Pv

namespace Go.Pv
def bitS (set : Int) (i : Nat) : Bool := decide ((set.fdiv (2 ^ (min i 64))).tmod 2 = 1)
def bandAt (r : Rule) (mark : Nat) : Band := r.Bands.getD mark default
def cutsS (mark : Nat) (set : Int) : Nat → List Rule → List Int → List Int
  | _, [], out => out
  | i, r :: l, out => cutsS mark set (i + 1) l (cond (bitS set i) (insS (bandAt r mark).Hi (cond (decide (0 < (bandAt r mark).Lo)) (insS (bandAt r mark).Lo out) out)) out)
theorem insS_len (n : Int) : ∀ l : List Int, (insS n l).length ≤ l.length + 1
  | [] => by simp [insS]
  | x :: l => by
    simp only [insS]
    cases decide (n ≤ x) with
    | true => cases decide (n < x) <;> simp
    | false => simp only [cond_false, List.length_cons]; have := insS_len n l; omega
theorem refCuts_loop (t : List Rule) (mark : Nat) (set : Int) (ht : t.length ≤ 1000) (hm : ∀ r ∈ t, mark < r.Bands.length) : ∀ (n i : Nat) (out : List Int), n = t.length - i → out.length ≤ 1 + 2 * i → iter (m_cocketref02_cuts_l1 t (mark : Int) set) (out, (i : Int)) = some (cutsS mark set i (t.drop i) out)
  | 0, i, out, hn, ho => by
    have h1 : decide ((i : Int) < (t.length : Int)) = false := by simp; omega
    rw [iter_eq, drop_all (t) (by omega)]
    unfold m_cocketref02_cuts_l1
    simp only [h1, cond_false, Option.bind_some, cutsS]
  | n + 1, i, out, hn, ho => by
    have hi : i < t.length := by omega
    have h1 : decide ((i : Int) < (t.length : Int)) = true := by simp; omega
    have h2 : idx t (i : Int) = some t[i] := by unfold idx; simp [hi]
    have hmi := hm t[i] (List.getElem_mem hi)
    have h3 : idx t[i].Bands (mark : Int) = some (bandAt t[i] mark) := by unfold idx bandAt; simp [hmi]
    have ih := fun out ho => refCuts_loop t mark set ht hm n (i + 1) out (by omega) ho
    rw [iter_eq, List.drop_eq_getElem_cons hi]
    generalize hf0 : m_cocketref02_cuts_l1 t (mark : Int) set = f at ih ⊢
    have p1 := put_eq out (bandAt t[i] mark).Lo (by omega)
    have hl1 := insS_len (bandAt t[i] mark).Lo out
    have hf : f (out, (i : Int)) = some (.inl (cond (bitS set i) (insS (bandAt t[i] mark).Hi (cond (decide (0 < (bandAt t[i] mark).Lo)) (insS (bandAt t[i] mark).Lo out) out)) out, IntKind.i64.wrap ((i : Int) + 1))) := by
      rw [← hf0]; unfold m_cocketref02_cuts_l1
      have hz : (0 : Int) ≤ (i : Int) := by omega
      simp only [h1, cond_true, guardO, hz, if_true, Int.toNat_natCast, bitS]
      cases decide ((set.fdiv (2 ^ (min i 64))).tmod 2 = 1) with
      | false => simp only [cond_false, Option.bind_some]
      | true =>
        simp only [cond_true, h2, h3, Option.bind_some]
        cases decide (0 < (bandAt t[i] mark).Lo) with
        | false => simp only [cond_false, Option.bind_some, put_eq out (bandAt t[i] mark).Hi (by omega)]
        | true => simp only [cond_true, Option.bind_some, p1, put_eq (insS (bandAt t[i] mark).Lo out) (bandAt t[i] mark).Hi (by omega)]
    rw [hf]
    simp only [Option.bind_some, cutsS]
    rw [wrap_i64_eq (by omega), show ((i : Int) + 1) = ((i + 1 : Nat) : Int) by omega]
    refine ih _ ?_
    cases bitS set i with
    | false => simp only [cond_false]; omega
    | true =>
      simp only [cond_true]
      cases decide (0 < (bandAt t[i] mark).Lo) with
      | false => simp only [cond_false]; have := insS_len (bandAt t[i] mark).Hi out; omega
      | true => simp only [cond_true]; have := insS_len (bandAt t[i] mark).Hi (insS (bandAt t[i] mark).Lo out); omega
theorem refCuts_eq (t : List Rule) (mark : Nat) (set : Int) (ht : t.length ≤ 1000) (hm : ∀ r ∈ t, mark < r.Bands.length) : m_cocketref02_cuts t (mark : Int) set = some (cutsS mark set 0 t [1000]) := by
  unfold m_cocketref02_cuts
  have h := refCuts_loop t mark set ht hm t.length 0 [1000] (by omega) (by simp)
  rw [show ((0 : Nat) : Int) = 0 from rfl, List.drop_zero] at h
  rw [h]; rfl
end Go.Pv

namespace Go.Pv
def OLe {α : Type} (a b : Option α) : Prop := ∀ r, a = some r → b = some r
theorem OLe.refl {α : Type} (a : Option α) : OLe a a := fun _ h => h
theorem OLe.bind {α β : Type} {a a' : Option α} {f f' : α → Option β} (h : OLe a a') (hf : ∀ x, OLe (f x) (f' x)) : OLe (a.bind f) (a'.bind f') := fun r hr => by
  obtain ⟨x, h1, h2⟩ := bind_some hr
  rw [h x h1]; exact hf x r h2
theorem OLe.cond {α : Type} {c : Bool} {a a' b b' : Option α} (h : OLe a a') (h2 : OLe b b') : OLe (cond c a b) (cond c a' b') := fun r hr => by
  cases c
  · exact h2 r hr
  · exact h r hr
theorem OLe.guard {α : Type} {p : Prop} [Decidable p] {a a' : Option α} (h : OLe a a') : OLe (guardO p a) (guardO p a') := fun r hr => by
  unfold guardO at hr ⊢
  split at hr
  · rename_i hp; rw [if_pos hp]; exact h r hr
  · cases hr
theorem iterN_le {S X : Type} {f f' : S → Option (S ⊕ X)} (h : ∀ s, OLe (f s) (f' s)) : ∀ (n : Nat) (s : S), OLe (iterN f n s) (iterN f' n s)
  | 0, s => fun r hr => by cases hr
  | n + 1, s => fun r hr => by
    rw [iterN_succ] at hr ⊢
    obtain ⟨o, h1, h2⟩ := bind_some hr
    rw [h s o h1]
    cases o with
    | inl s' => exact iterN_le h n s' r h2
    | inr x => exact h2
theorem OLe.iter {S X : Type} {f f' : S → Option (S ⊕ X)} {n : Nat} {s : S} (h : ∀ s, OLe (f s) (f' s)) : OLe (iterN f n s) (iter f' s) := fun r hr => iter_of (iterN_le h n s r hr)
def qIter {S X : Type} (f : S → Option (S ⊕ X)) (s : S) : Option X := iterN f 300 s
theorem OLe.iterQ {S X : Type} {f f' : S → Option (S ⊕ X)} {s : S} (h : ∀ s, OLe (f s) (f' s)) : OLe (qIter f s) (Pv.iter f' s) := OLe.iter h
def qIns (x : Int) : List Int → List Int
  | [] => [x]
  | y :: l => if x ≤ y then x :: y :: l else y :: qIns x l
def qSort : List Int → List Int
  | [] => []
  | x :: l => qIns x (qSort l)
theorem qIns_perm (x : Int) : ∀ l : List Int, (qIns x l).Perm (x :: l)
  | [] => List.Perm.refl _
  | y :: l => by
    unfold qIns
    split
    · exact List.Perm.refl _
    · exact ((qIns_perm x l).cons y).trans (List.Perm.swap x y l)
theorem qIns_sorted (x : Int) : ∀ l : List Int, l.Pairwise (· ≤ ·) → (qIns x l).Pairwise (· ≤ ·)
  | [], _ => List.pairwise_singleton ..
  | y :: l, h => by
    unfold qIns
    rw [List.pairwise_cons] at h
    split
    · rename_i hx
      refine List.pairwise_cons.2 ⟨fun z hz => ?_, List.pairwise_cons.2 h⟩
      rcases List.mem_cons.1 hz with rfl | hz
      · exact hx
      · have := h.1 z hz; omega
    · rename_i hx
      refine List.pairwise_cons.2 ⟨fun z hz => ?_, qIns_sorted x l h.2⟩
      rcases List.mem_cons.1 ((qIns_perm x l).mem_iff.1 hz) with rfl | hz
      · omega
      · exact h.1 z hz
theorem qSort_perm : ∀ l : List Int, (qSort l).Perm l
  | [] => List.Perm.refl _
  | x :: l => (qIns_perm x _).trans ((qSort_perm l).cons x)
theorem qSort_sorted : ∀ l : List Int, (qSort l).Pairwise (· ≤ ·)
  | [] => List.Pairwise.nil
  | x :: l => qIns_sorted x _ (qSort_sorted l)
theorem sorted_uniq : ∀ {a b : List Int}, a.Pairwise (· ≤ ·) → b.Pairwise (· ≤ ·) → a.Perm b → a = b
  | [], b, _, _, h => h.nil_eq
  | x :: a, [], _, _, h => by have := h.length_eq; simp at this
  | x :: a, y :: b, h1, h2, h => by
    rw [List.pairwise_cons] at h1 h2
    have e : x = y := by
      have hx : x ∈ y :: b := h.mem_iff.1 (List.mem_cons_self ..)
      have hy : y ∈ x :: a := h.mem_iff.2 (List.mem_cons_self ..)
      rcases List.mem_cons.1 hx with rfl | hx
      · rfl
      · rcases List.mem_cons.1 hy with rfl | hy
        · rfl
        · have := h1.1 y hy; have := h2.1 x hx; omega
    subst e
    rw [sorted_uniq h1.2 h2.2 ((List.perm_cons x).1 h)]
theorem sortI_q (l : List Int) : sortI l = qSort l := by
  refine sorted_uniq ?_ (qSort_sorted l) ?_
  · unfold sortI
    have := List.pairwise_mergeSort (le := fun x y : Int => decide (x ≤ y)) (fun a b c h1 h2 => by simp at *; omega) (fun a b => by simp; omega) l
    exact this.imp fun h => by simpa using h
  · have : (sortI l).Perm l := by unfold sortI; exact List.mergeSort_perm l _
    exact this.trans (qSort_perm l).symm
def qDig : Nat → Nat → List UInt8
  | 0, _ => []
  | k + 1, u => if u < 10 then [UInt8.ofNat (48 + u)] else qDig k (u / 10) ++ [UInt8.ofNat (48 + u % 10)]
theorem qDig_eq : ∀ (k u : Nat), u < 10 ^ k → 0 < k → qDig k u = Lib.decDigits u
  | 0, u, _, h => by cases h
  | k + 1, u, h, _ => by
    rw [Lib.decDigits]
    simp only [qDig]
    by_cases hu : u < 10
    · rw [if_pos hu, dif_pos hu]
    · rw [if_neg hu, dif_neg hu]
      have h2 : u / 10 < 10 ^ k := by rw [Nat.pow_succ] at h; omega
      have h3 : 0 < k := by
        cases k with
        | zero => simp at h2; omega
        | succ k => omega
      rw [qDig_eq k _ h2 h3]
def qItoa (n : Int) : Option ByteArray := guardO (-1000000 ≤ n ∧ n ≤ 1000000) (some ⟨(if n < 0 then 45 :: qDig 7 n.natAbs else qDig 7 n.toNat).toArray⟩)
theorem qItoa_le (n : Int) : OLe (qItoa n) (itoaO n) := fun r hr => by
  unfold qItoa at hr
  obtain ⟨h1, h2⟩ := guardO_some hr
  unfold itoaO guardO
  rw [if_pos (by omega), ← h2]
  simp only [Option.some.injEq]
  unfold Lib.itoa
  rw [qDig_eq 7 _ (by omega) (by omega), qDig_eq 7 _ (by omega) (by omega)]
end Go.Pv

namespace Go.Pv
def q_cocketlaw02_three : Option (List Rule) :=
 some [(⟨[(⟨0, 10⟩ : Band)], 1⟩ : Rule), (⟨[(⟨5, 20⟩ : Band)], 2⟩ : Rule), (⟨[(⟨0, 20⟩ : Band)], 3⟩ : Rule)]
def q_tariff_marks (k1 : Int) : Option Bool :=
 some ((decide (1 ≤ k1)) && (decide (k1 ≤ 4)))
def q_tariff_fine_1 (b1 : Band) : Option Bool :=
 some (((decide (b1.Lo < 0)) || (decide (b1.Hi ≤ b1.Lo))) || (decide (1000 < b1.Hi)))
def q_slices_IndexFunc_113_f103_l1 (s1 : (List Band)) : Int → Option (Int ⊕ (Unit ⊕ Int)) := fun v1 =>
 cond (decide (v1 < (s1.length : Int)))
  (
  (idx s1 v1).bind fun e1 =>
  (q_tariff_fine_1 e1).bind fun r1 =>
  cond r1
   (
   some (.inr (.inr v1))
   )
   (
   some (.inl (IntKind.i64.wrap (v1 + 1)))
   )
  )
  (
  some (.inr (.inl ()))
  )
def q_slices_IndexFunc_113_f103 (s1 : (List Band)) : Option Int :=
 (
 (
  (
  (qIter (q_slices_IndexFunc_113_f103_l1 s1) 0).bind fun x_7 => match x_7 with
    | (.inl y1) => some (.inl y1)
    | (.inr y2) => some (.inr y2)
  )
  : Option (Unit ⊕ Int)).bind fun o_1 => match o_1 with
   | (.inl _) =>
     some (-1)
   | (.inr y3) => some y3
 )
def q_slices_ContainsFunc_104_f103 (s1 : (List Band)) : Option Bool :=
 (q_slices_IndexFunc_113_f103 s1).bind fun r1 =>
 some (decide (0 ≤ r1))
def q_tariff_fine (k1 : Int) (r1 : Rule) : Option Bool :=
 ((cond (((decide ((r1.Bands.length : Int) = k1)) && (decide (0 ≤ r1.Code))) && (decide (r1.Code ≤ 99)))
  (
   (q_slices_ContainsFunc_104_f103 r1.Bands).bind fun r2 =>
   some (!r2)
  )
  (some false)
 ) : Option Bool).bind fun b1 =>
 some b1
def q_tariff_checked_1_c (r1 : Rule) (k1 : Int) : Option Bool :=
 (q_tariff_fine k1 r1).bind fun r2 =>
 some (!r2)
def q_slices_IndexFunc_99_f77_l1 (s1 : (List Rule)) (f1 : Int) : Int → Option (Int ⊕ (Unit ⊕ Int)) := fun v1 =>
 cond (decide (v1 < (s1.length : Int)))
  (
  (idx s1 v1).bind fun e1 =>
  (q_tariff_checked_1_c e1 f1).bind fun r1 =>
  cond r1
   (
   some (.inr (.inr v1))
   )
   (
   some (.inl (IntKind.i64.wrap (v1 + 1)))
   )
  )
  (
  some (.inr (.inl ()))
  )
def q_slices_IndexFunc_99_f77 (s1 : (List Rule)) (f1 : Int) : Option Int :=
 (
 (
  (
  (qIter (q_slices_IndexFunc_99_f77_l1 s1 f1) 0).bind fun x_7 => match x_7 with
    | (.inl y1) => some (.inl y1)
    | (.inr y2) => some (.inr y2)
  )
  : Option (Unit ⊕ Int)).bind fun o_1 => match o_1 with
   | (.inl _) =>
     some (-1)
   | (.inr y3) => some y3
 )
def q_slices_ContainsFunc_76_f77 (s1 : (List Rule)) (f1 : Int) : Option Bool :=
 (q_slices_IndexFunc_99_f77 s1 f1).bind fun r1 =>
 some (decide (0 ≤ r1))
def q_tariff_checked_l1 (k1 : Int) (ts1 : (List (List Rule))) : Int → Option (Int ⊕ (Unit ⊕ Int)) := fun v1 =>
 cond (decide (v1 < (ts1.length : Int)))
  (
  (idx ts1 v1).bind fun e1 =>
  cond (decide (24 < (e1.length : Int)))
   (
   some (.inr (.inr 3))
   )
   (
   (q_slices_ContainsFunc_76_f77 e1 k1).bind fun r2 =>
   cond r2
    (
    some (.inr (.inr 2))
    )
    (
    some (.inl (IntKind.i64.wrap (v1 + 1)))
    )
   )
  )
  (
  some (.inr (.inl ()))
  )
def q_tariff_checked (k1 : Int) (ts1 : (List (List Rule))) : Option Int :=
 (q_tariff_marks k1).bind fun r1 =>
 cond (!r1)
  (
  some 2
  )
  (
  (
  (
   (
   (qIter (q_tariff_checked_l1 k1 ts1) 0).bind fun x_10 => match x_10 with
     | (.inl y1) => some (.inl y1)
     | (.inr y2) => some (.inr y2)
   )
   : Option (Unit ⊕ Int)).bind fun o_4 => match o_4 with
    | (.inl _) =>
      some 0
    | (.inr y3) => some y3
  )
  )
def q_tariff_all (t1 : (List Rule)) : Option Int :=
 guardO (0 ≤ (t1.length : Int)) <|
 some (IntKind.u32.wrap ((IntKind.u32.wrap (1 * (2 ^ (min ((t1.length : Int)).toNat 32)))) - 1))
def q_tariff_cuts_l2 (mark1 : Int) (e1 : (List Rule)) : (Int × (List Int)) → Option ((Int × (List Int)) ⊕ (List Int)) := fun (v2, L4) =>
 cond (decide (v2 < (e1.length : Int)))
  (
  (idx e1 v2).bind fun e2 =>
  (idx e2.Bands mark1).bind fun e3 =>
  guardO (L4.length + [e3.Lo, e3.Hi].length ≤ 4294967296) <|
  some (.inl ((IntKind.i64.wrap (v2 + 1)), (L4 ++ [e3.Lo, e3.Hi])))
  )
  (
  some (.inr L4)
  )
def q_tariff_cuts_l1 (mark1 : Int) (ts1 : (List (List Rule))) : (Int × (List Int)) → Option ((Int × (List Int)) ⊕ (List Int)) := fun (v1, L2) =>
 cond (decide (v1 < (ts1.length : Int)))
  (
  (
   (idx ts1 v1).bind fun e1 =>
   (qIter (q_tariff_cuts_l2 mark1 e1) (0, L2)).bind fun x_21 =>
   some x_21
   : Option (List Int)).bind fun L3 =>
  some (.inl ((IntKind.i64.wrap (v1 + 1)), L3))
  )
  (
  some (.inr L2)
  )
def q_tariff_cuts (mark1 : Int) (ts1 : (List (List Rule))) : Option (List Int) :=
 (
  (qIter (q_tariff_cuts_l1 mark1 ts1) (0, [1000])).bind fun x_7 =>
  some x_7
  : Option (List Int)).bind fun L1 =>
 guardO (L1.length ≤ 4294967296) <|
 guardO ((qSort L1).length ≤ 4294967296) <|
 (
  (idx (List.take ((compactI (qSort L1)).length) (compactP (qSort L1))) 0).bind fun e4 =>
  cond (decide (e4 = 0))
   (
   guardO (0 ≤ 1 ∧ 1 ≤ ((List.take ((compactI (qSort L1)).length) (compactP (qSort L1))).length : Int) ∧ ((List.take ((compactI (qSort L1)).length) (compactP (qSort L1))).length : Int) ≤ ((List.take ((compactI (qSort L1)).length) (compactP (qSort L1))).length : Int)) <|
   some (((List.take ((compactI (qSort L1)).length) (compactP (qSort L1))).drop 1).take ((((List.take ((compactI (qSort L1)).length) (compactP (qSort L1))).length : Int) : Int) - 1).toNat)
   )
   (
   some (List.take ((compactI (qSort L1)).length) (compactP (qSort L1)))
   )
  : Option (List Int)).bind fun out1 =>
 some out1
def q_tariff_fits_l1 (t1 : (List Rule)) (mark1 : Int) (value1 : Int) : (Int × Int) → Option ((Int × Int) ⊕ Int) := fun (out2, v1) =>
 cond (decide (v1 < (t1.length : Int)))
  (
  (
   (idx t1 v1).bind fun e1 =>
   (idx e1.Bands mark1).bind fun e2 =>
   cond ((decide (e2.Lo ≤ value1)) && (decide (value1 < e2.Hi)))
    (
    guardO (0 ≤ v1) <|
    some (IntKind.u32.wrap ↑(BitVec.ofInt IntKind.u32.bits out2 ||| BitVec.ofInt IntKind.u32.bits (IntKind.u32.wrap (1 * (2 ^ (min (v1).toNat 32))))).toNat)
    )
    (
    some out2
    )
   : Option Int).bind fun out3 =>
  some (.inl (out3, (IntKind.i64.wrap (v1 + 1))))
  )
  (
  some (.inr out2)
  )
def q_tariff_fits (t1 : (List Rule)) (mark1 : Int) (value1 : Int) : Option Int :=
 (
  (qIter (q_tariff_fits_l1 t1 mark1 value1) (0, 0)).bind fun x_7 =>
  some x_7
  : Option Int).bind fun out1 =>
 some out1
def q_tariff_set_first_l1 (s1 : Int) : Int → Option (Int ⊕ (Unit ⊕ Int)) := fun v1 =>
 cond (decide (v1 < 24))
  (
  guardO (0 ≤ v1) <|
  cond (decide (¬(IntKind.u32.wrap ↑(BitVec.ofInt IntKind.u32.bits s1 &&& BitVec.ofInt IntKind.u32.bits (IntKind.u32.wrap (1 * (2 ^ (min (v1).toNat 32))))).toNat) = 0))
   (
   some (.inr (.inr v1))
   )
   (
   some (.inl (IntKind.i64.wrap (v1 + 1)))
   )
  )
  (
  some (.inr (.inl ()))
  )
def q_tariff_set_first (s1 : Int) : Option Int :=
 (
 (
  (
  (qIter (q_tariff_set_first_l1 s1) 0).bind fun x_7 => match x_7 with
    | (.inl y1) => some (.inl y1)
    | (.inr y2) => some (.inr y2)
  )
  : Option (Unit ⊕ Int)).bind fun o_1 => match o_1 with
   | (.inl _) =>
     some (-1)
   | (.inr y3) => some y3
 )
def q_tariff_counts_1_h_l2 (from1 : Int) (e1 : Int) (r3 : ((List Int) × (List (Arr3_Int × (List Int))))) : (Int × (List Int)) → Option ((Int × (List Int)) ⊕ ((List (Arr3_Int × (List Int))) × (List Int))) := fun (v2, L5) =>
 cond (decide (v2 < (r3.1.length : Int)))
  (
  (idx r3.1 v2).bind fun e2 =>
  (idx L5 v2).bind fun e3 =>
  some (.inl ((IntKind.i64.wrap (v2 + 1)), (L5.set (v2).toNat (IntKind.i64.wrap (e3 + (IntKind.i64.wrap (e2 * (IntKind.i64.wrap (e1 - from1)))))))))
  )
  (
  some (.inr (r3.2, L5))
  )
def q_tariff_counts_1_h_l1 (mark1 : Int) (a1 : Int) (o1 : (List Rule)) (o2 : Int) (self : ((List Rule) → Int → (List (Arr3_Int × (List Int))) → Int → Int → Option ((List Int) × (List (Arr3_Int × (List Int)))))) (r1 : (List Int)) : (Int × Int × (List (Arr3_Int × (List Int))) × (List Int)) → Option ((Int × Int × (List (Arr3_Int × (List Int))) × (List Int)) ⊕ ((List (Arr3_Int × (List Int))) × (List Int))) := fun (from1, v1, M2, L2) =>
 cond (decide (v1 < (r1.length : Int)))
  (
  (
   (idx r1 v1).bind fun e1 =>
   (q_tariff_fits o1 mark1 from1).bind fun r2 =>
   (
    cond (decide ((IntKind.i64.wrap (mark1 + 1)) < o2))
     (
     (self o1 o2 M2 (IntKind.i64.wrap (mark1 + 1)) (IntKind.u32.wrap ↑(BitVec.ofInt IntKind.u32.bits a1 &&& BitVec.ofInt IntKind.u32.bits r2).toNat)).bind fun r3 =>
     (qIter (q_tariff_counts_1_h_l2 from1 e1 r3) (0, L2)).bind fun x_30 =>
     some x_30
     )
     (
     (q_tariff_set_first (IntKind.u32.wrap ↑(BitVec.ofInt IntKind.u32.bits a1 &&& BitVec.ofInt IntKind.u32.bits r2).toNat)).bind fun r4 =>
     cond (decide (r4 < 0))
      (
      (idx L2 (o1.length : Int)).bind fun e4 =>
      some (M2, (L2.set ((o1.length : Int)).toNat (IntKind.i64.wrap (e4 + (IntKind.i64.wrap (e1 - from1))))))
      )
      (
      (idx L2 r4).bind fun e5 =>
      some (M2, (L2.set (r4).toNat (IntKind.i64.wrap (e5 + (IntKind.i64.wrap (e1 - from1))))))
      )
     )
    : Option ((List (Arr3_Int × (List Int))) × (List Int))).bind fun (M4, L4) =>
   some (e1, M4, L4)
   : Option (Int × (List (Arr3_Int × (List Int))) × (List Int))).bind fun (from2, M3, L3) =>
  some (.inl (from2, (IntKind.i64.wrap (v1 + 1)), M3, L3))
  )
  (
  some (.inr (M2, L2))
  )
def q_tariff_counts_1_h_b (self : ((List Rule) → Int → (List (Arr3_Int × (List Int))) → Int → Int → Option ((List Int) × (List (Arr3_Int × (List Int)))))) (o1 : (List Rule)) (o2 : Int) (m1 : (List (Arr3_Int × (List Int)))) (mark1 : Int) (a1 : Int) : Option ((List Int) × (List (Arr3_Int × (List Int)))) :=
 cond ((mget (⟨mark1, (IntKind.i64.wrap a1), 0⟩ : Arr3_Int) m1).isSome)
  (
  some (((mget (⟨mark1, (IntKind.i64.wrap a1), 0⟩ : Arr3_Int) m1).getD []), m1)
  )
  (
  guardO (0 ≤ (IntKind.i64.wrap ((o1.length : Int) + 1)) ∧ (IntKind.i64.wrap ((o1.length : Int) + 1)) ≤ 4294967296) <|
  (
   (q_tariff_cuts mark1 [o1]).bind fun r1 =>
   (qIter (q_tariff_counts_1_h_l1 mark1 a1 o1 o2 self r1) (0, 0, m1, (List.replicate ((IntKind.i64.wrap ((o1.length : Int) + 1))).toNat (0 : Int)))).bind fun x_11 =>
   some x_11
   : Option ((List (Arr3_Int × (List Int))) × (List Int))).bind fun (M1, L1) =>
  some (L1, (mset (⟨mark1, (IntKind.i64.wrap a1), 0⟩ : Arr3_Int) L1 M1))
  )
def q_tariff_counts_1_h : Nat → (List Rule) → Int → (List (Arr3_Int × (List Int))) → Int → Int → Option ((List Int) × (List (Arr3_Int × (List Int))))
  | 0 => fun _ _ _ _ _ => none
  | n + 1 => q_tariff_counts_1_h_b (q_tariff_counts_1_h n)
def q_tariff_counts (k1 : Int) (t1 : (List Rule)) : Option (List Int) :=
 (q_tariff_all t1).bind fun r1 =>
 (q_tariff_counts_1_h 100 t1 k1 [] 0 r1).bind fun r2 =>
 (cloneO r2.1).bind fun r3 =>
 some r3
def q_tariff_Dead_l1 (t1 : (List Rule)) (r2 : (List Int)) : (Int × (List Int)) → Option ((Int × (List Int)) ⊕ (List Int)) := fun (v1, L2) =>
 cond (decide (v1 < ((r2.take (((t1.length : Int) : Int) - 0).toNat).length : Int)))
  (
  (
   (idx (r2.take (((t1.length : Int) : Int) - 0).toNat) v1).bind fun e1 =>
   cond (decide (e1 = 0))
    (
    guardO (L2.length + [v1].length ≤ 4294967296) <|
    some (L2 ++ [v1])
    )
    (
    some L2
    )
   : Option (List Int)).bind fun L3 =>
  some (.inl ((IntKind.i64.wrap (v1 + 1)), L3))
  )
  (
  some (.inr L2)
  )
def q_tariff_Dead (k1 : Int) (t1 : (List Rule)) : Option ((List Int) × Int) :=
 (q_tariff_checked k1 [t1]).bind fun r1 =>
 cond (decide (¬r1 = 0))
  (
  some ([], r1)
  )
  (
  (
   (q_tariff_counts k1 t1).bind fun r2 =>
   guardO (0 ≤ 0 ∧ 0 ≤ (t1.length : Int) ∧ (t1.length : Int) ≤ (r2.length : Int)) <|
   (qIter (q_tariff_Dead_l1 t1 r2) (0, [])).bind fun x_12 =>
   some x_12
   : Option (List Int)).bind fun L1 =>
  some (L1, 0)
  )
def q_tariff_Gap_1 (i1 : Int) (v1 : Int) : Option Bool :=
 some (decide (i1 < 0))
def q_tariff_walker_find_1_h_f50_l1 (mark1 : Int) (a1 : Int) (b1 : Int) (o1 : Walker) (self : (Walker → (List (Arr3_Int × Bool)) → Int → Int → Int → Option ((List Int) × Bool × (List (Arr3_Int × Bool))))) (r4 : (List Int)) : (Int × Int × (List (Arr3_Int × Bool))) → Option ((Int × Int × (List (Arr3_Int × Bool))) ⊕ ((List (Arr3_Int × Bool)) ⊕ ((List Int) × Bool × (List (Arr3_Int × Bool))))) := fun (from1, v1, M2) =>
 cond (decide (v1 < (r4.length : Int)))
  (
  (idx r4 v1).bind fun e1 =>
  (q_tariff_fits o1.s mark1 from1).bind fun r5 =>
  (q_tariff_fits o1.t mark1 from1).bind fun r6 =>
  (self o1 M2 (IntKind.i64.wrap (mark1 + 1)) (IntKind.u32.wrap ↑(BitVec.ofInt IntKind.u32.bits a1 &&& BitVec.ofInt IntKind.u32.bits r5).toNat) (IntKind.u32.wrap ↑(BitVec.ofInt IntKind.u32.bits b1 &&& BitVec.ofInt IntKind.u32.bits r6).toNat)).bind fun r7 =>
  cond r7.2.1
   (
   guardO (1 + r7.1.length ≤ 4294967296) <|
   some (.inr (.inr (([from1] ++ r7.1), true, r7.2.2)))
   )
   (
   some (.inl (e1, (IntKind.i64.wrap (v1 + 1)), r7.2.2))
   )
  )
  (
  some (.inr (.inl M2))
  )
def q_tariff_walker_find_1_h_f50_b (self : (Walker → (List (Arr3_Int × Bool)) → Int → Int → Int → Option ((List Int) × Bool × (List (Arr3_Int × Bool))))) (o1 : Walker) (m1 : (List (Arr3_Int × Bool))) (mark1 : Int) (a1 : Int) (b1 : Int) : Option ((List Int) × Bool × (List (Arr3_Int × Bool))) :=
 cond (decide (mark1 = o1.k))
  (
  (q_tariff_set_first a1).bind fun r1 =>
  (q_tariff_set_first b1).bind fun r2 =>
  (q_tariff_Gap_1 r1 r2).bind fun r3 =>
  some ([], r3, m1)
  )
  (
  cond ((mget (⟨mark1, (IntKind.i64.wrap a1), (IntKind.i64.wrap b1)⟩ : Arr3_Int) m1).getD false)
   (
   some ([], false, m1)
   )
   (
   (
   (
    (q_tariff_cuts mark1 [o1.s, o1.t]).bind fun r4 =>
    (
    (qIter (q_tariff_walker_find_1_h_f50_l1 mark1 a1 b1 o1 self r4) (0, 0, m1)).bind fun x_15 => match x_15 with
      | (.inl y1) => some (.inl y1)
      | (.inr y2) => some (.inr y2)
    )
    : Option ((List (Arr3_Int × Bool)) ⊕ ((List Int) × Bool × (List (Arr3_Int × Bool))))).bind fun o_8 => match o_8 with
     | (.inl M1) =>
       some ([], false, (mset (⟨mark1, (IntKind.i64.wrap a1), (IntKind.i64.wrap b1)⟩ : Arr3_Int) true M1))
     | (.inr y3) => some y3
   )
   )
  )
def q_tariff_walker_find_1_h_f50 : Nat → Walker → (List (Arr3_Int × Bool)) → Int → Int → Int → Option ((List Int) × Bool × (List (Arr3_Int × Bool)))
  | 0 => fun _ _ _ _ _ => none
  | n + 1 => q_tariff_walker_find_1_h_f50_b (q_tariff_walker_find_1_h_f50 n)
def q_tariff_walker_find_f50 (w1 : Walker) : Option ((List Int) × Bool) :=
 (q_tariff_all w1.s).bind fun r1 =>
 (q_tariff_all w1.t).bind fun r2 =>
 (q_tariff_walker_find_1_h_f50 100 w1 [] 0 r1 r2).bind fun r3 =>
 some (r3.1, r3.2.1)
def q_tariff_found (l1 : (List Int)) (ok1 : Bool) : Option ((List Int) × Int) :=
 cond (!ok1)
  (
  some ([], 10)
  )
  (
  some (l1, 0)
  )
def q_tariff_Gap (k1 : Int) (t1 : (List Rule)) : Option ((List Int) × Int) :=
 (q_tariff_checked k1 [t1]).bind fun r1 =>
 cond (decide (¬r1 = 0))
  (
  some ([], r1)
  )
  (
  (q_tariff_walker_find_f50 (⟨k1, t1, []⟩ : Walker)).bind fun r2 =>
  (q_tariff_found r2.1 r2.2).bind fun r3 =>
  some (r3.1, r3.2)
  )
def q_tariff_builder_leaf_h (o1 : Builder) (a1 : Int) : Option (Int × Builder) :=
 (q_tariff_set_first a1).bind fun r1 =>
 cond (decide (r1 < 0))
  (
  some ((-1), o1)
  )
  (
  (idx o1.rules r1).bind fun e1 =>
  some ((IntKind.i64.wrap ((-2) - e1.Code)), o1)
  )
def q_tariff_merged_l1 (ends1 : (List Int)) (to1 : (List Int)) : (Int × (List Int) × (List Int)) → Option ((Int × (List Int) × (List Int)) ⊕ ((List Int) × (List Int))) := fun (v1, L3, L4) =>
 cond (decide (v1 < (to1.length : Int)))
  (
  (
   (idx to1 v1).bind fun e1 =>
   ((cond (decide (0 < (L4.length : Int)))
    (
     (idx L4 (IntKind.i64.wrap ((L4.length : Int) - 1))).bind fun e2 =>
     some (decide (e2 = e1))
    )
    (some false)
   ) : Option Bool).bind fun b1 =>
   cond b1
    (
    (idx ends1 v1).bind fun e3 =>
    (idx L3 (IntKind.i64.wrap ((L4.length : Int) - 1))).bind fun e4 =>
    some ((L3.set ((IntKind.i64.wrap ((L4.length : Int) - 1))).toNat e3), L4)
    )
    (
    (idx ends1 v1).bind fun e5 =>
    guardO (L3.length + [e5].length ≤ 4294967296) <|
    guardO (L4.length + [e1].length ≤ 4294967296) <|
    some ((L3 ++ [e5]), (L4 ++ [e1]))
    )
   : Option ((List Int) × (List Int))).bind fun (L5, L6) =>
  some (.inl ((IntKind.i64.wrap (v1 + 1)), L5, L6))
  )
  (
  some (.inr (L3, L4))
  )
def q_tariff_merged (ends1 : (List Int)) (to1 : (List Int)) : Option ((List Int) × (List Int)) :=
 (
  (qIter (q_tariff_merged_l1 ends1 to1) (0, [], [])).bind fun x_7 =>
  some x_7
  : Option ((List Int) × (List Int))).bind fun (L1, L2) =>
 some (L1, L2)
def q_tariff_builder_node_h_l2 (e1 : (List Int)) : (Int × Bool × (List Int)) → Option ((Int × Bool × (List Int)) ⊕ (Bool × (List Int))) := fun (v2, c5, L5) =>
 cond (decide (v2 < (e1.length : Int)))
  (
  (idx e1 v2).bind fun e2 =>
  (qItoa e2).bind fun r1 =>
  guardO (bsz r1 + bsz (⟨#[32]⟩ : ByteArray) ≤ 4294967296) <|
  (bWrite (⟨c5, L5⟩ : StringsBuilder) (r1 ++ (⟨#[32]⟩ : ByteArray))).bind fun r2 =>
  some (.inl ((IntKind.i64.wrap (v2 + 1)), true, r2.buf))
  )
  (
  some (.inr (c5, L5))
  )
def q_tariff_builder_node_h_l1 (x1 : Node) : (Int × Bool × (List Int)) → Option ((Int × Bool × (List Int)) ⊕ (Bool × (List Int))) := fun (v1, c2, L2) =>
 cond (decide (v1 < ([[x1.Mark], x1.Cuts, x1.To].length : Int)))
  (
  (
   (idx [[x1.Mark], x1.Cuts, x1.To] v1).bind fun e1 =>
   (
    (qIter (q_tariff_builder_node_h_l2 e1) (0, c2, L2)).bind fun x_23 =>
    some x_23
    : Option (Bool × (List Int))).bind fun (c4, L4) =>
   (bWriteByte (⟨c4, L4⟩ : StringsBuilder) 124).bind fun r3 =>
   some (true, r3.buf)
   : Option (Bool × (List Int))).bind fun (c3, L3) =>
  some (.inl ((IntKind.i64.wrap (v1 + 1)), c3, L3))
  )
  (
  some (.inr (c2, L2))
  )
def q_tariff_builder_node_h (o1 : Builder) (x1 : Node) : Option (Int × Builder) :=
 (
  (qIter (q_tariff_builder_node_h_l1 x1) (0, false, [])).bind fun x_7 =>
  some x_7
  : Option (Bool × (List Int))).bind fun (c1, L1) =>
 (bString (⟨c1, L1⟩ : StringsBuilder)).bind fun r4 =>
 (
  cond (!((mget r4 o1.same).isSome))
   (
   (bString (⟨c1, L1⟩ : StringsBuilder)).bind fun r5 =>
   guardO (o1.nodes.length + [x1].length ≤ 4294967296) <|
   some ((o1.nodes.length : Int), (mset r5 (o1.nodes.length : Int) o1.same), (o1.nodes ++ [x1]))
   )
   (
   some (((mget r4 o1.same).getD 0), o1.same, o1.nodes)
   )
  : Option (Int × (List (ByteArray × Int)) × (List Node))).bind fun (n1, M1, L6) =>
 some (n1, (⟨o1.k, o1.rules, o1.known, M1, L6⟩ : Builder))
def q_tariff_builder_at_h_l1 (mark1 : Int) (a1 : Int) (self : (Builder → Int → Int → Option (Int × Builder))) (r2 : (List Int)) : (Int × Int × Int × (List Rule) × (List (Arr3_Int × Int)) × (List (ByteArray × Int)) × (List Node) × (List Int)) → Option ((Int × Int × Int × (List Rule) × (List (Arr3_Int × Int)) × (List (ByteArray × Int)) × (List Node) × (List Int)) ⊕ (Int × (List Rule) × (List (Arr3_Int × Int)) × (List (ByteArray × Int)) × (List Node) × (List Int))) := fun (from1, v1, c3, c4, M3, M4, L3, L4) =>
 cond (decide (v1 < (r2.length : Int)))
  (
  (idx r2 v1).bind fun e1 =>
  (q_tariff_fits c4 mark1 from1).bind fun r3 =>
  (self (⟨c3, c4, M3, M4, L3⟩ : Builder) (IntKind.i64.wrap (mark1 + 1)) (IntKind.u32.wrap ↑(BitVec.ofInt IntKind.u32.bits a1 &&& BitVec.ofInt IntKind.u32.bits r3).toNat)).bind fun r4 =>
  guardO (L4.length + [r4.1].length ≤ 4294967296) <|
  some (.inl (e1, (IntKind.i64.wrap (v1 + 1)), r4.2.k, r4.2.rules, r4.2.known, r4.2.same, r4.2.nodes, (L4 ++ [r4.1])))
  )
  (
  some (.inr (c3, c4, M3, M4, L3, L4))
  )
def q_tariff_builder_at_h_b (self : (Builder → Int → Int → Option (Int × Builder))) (o1 : Builder) (mark1 : Int) (a1 : Int) : Option (Int × Builder) :=
 cond (decide (mark1 = o1.k))
  (
  (q_tariff_builder_leaf_h o1 a1).bind fun r1 =>
  some (r1.1, r1.2)
  )
  (
  cond ((mget (⟨mark1, (IntKind.i64.wrap a1), 0⟩ : Arr3_Int) o1.known).isSome)
   (
   some (((mget (⟨mark1, (IntKind.i64.wrap a1), 0⟩ : Arr3_Int) o1.known).getD 0), o1)
   )
   (
   (q_tariff_cuts mark1 [o1.rules]).bind fun r2 =>
   (
    (qIter (q_tariff_builder_at_h_l1 mark1 a1 self r2) (0, 0, o1.k, o1.rules, o1.known, o1.same, o1.nodes, [])).bind fun x_13 =>
    some x_13
    : Option (Int × (List Rule) × (List (Arr3_Int × Int)) × (List (ByteArray × Int)) × (List Node) × (List Int))).bind fun (c1, c2, M1, M2, L1, L2) =>
   (q_tariff_merged r2 L2).bind fun r5 =>
   (idx r5.2 0).bind fun e2 =>
   (
    cond (decide (1 < (r5.2.length : Int)))
     (
     (q_tariff_builder_node_h (⟨c1, c2, M1, M2, L1⟩ : Builder) (⟨mark1, r5.1, r5.2⟩ : Node)).bind fun r6 =>
     some (r6.1, r6.2.k, r6.2.rules, r6.2.known, r6.2.same, r6.2.nodes)
     )
     (
     some (e2, c1, c2, M1, M2, L1)
     )
    : Option (Int × Int × (List Rule) × (List (Arr3_Int × Int)) × (List (ByteArray × Int)) × (List Node))).bind fun (n1, c5, c6, M5, M6, L5) =>
   some (n1, (⟨c5, c6, (mset (⟨mark1, (IntKind.i64.wrap a1), 0⟩ : Arr3_Int) n1 M5), M6, L5⟩ : Builder))
   )
  )
def q_tariff_builder_at_h : Nat → Builder → Int → Int → Option (Int × Builder)
  | 0 => fun _ _ _ => none
  | n + 1 => q_tariff_builder_at_h_b (q_tariff_builder_at_h n)
def q_tariff_builder_ordered_1_h_l1 (l1 : (List Node)) (o1 : Builder) (self : ((List (Int × Int)) → (List Node) → Builder → Int → Option (Int × (List (Int × Int)) × (List Node)))) (e2 : Node) : (Int × (List (Int × Int)) × (List Node)) → Option ((Int × (List (Int × Int)) × (List Node)) ⊕ ((List (Int × Int)) × (List Node))) := fun (v1, M2, L2) =>
 cond (decide (v1 < (e2.To.length : Int)))
  (
  (idx e2.To v1).bind fun e3 =>
  (self M2 L2 o1 e3).bind fun r2 =>
  (idx r2.2.2 (l1.length : Int)).bind fun e4 =>
  guardO (e4.To.length + [r2.1].length ≤ 4294967296) <|
  some (.inl ((IntKind.i64.wrap (v1 + 1)), r2.2.1, (r2.2.2.set (((l1.length : Int)).toNat) (⟨e4.Mark, e4.Cuts, (e4.To ++ [r2.1])⟩ : Node))))
  )
  (
  some (.inr (M2, L2))
  )
def q_tariff_builder_ordered_1_h_b (self : ((List (Int × Int)) → (List Node) → Builder → Int → Option (Int × (List (Int × Int)) × (List Node)))) (m1 : (List (Int × Int))) (l1 : (List Node)) (o1 : Builder) (n1 : Int) : Option (Int × (List (Int × Int)) × (List Node)) :=
 cond (decide (n1 < 0))
  (
  some (n1, m1, l1)
  )
  (
  cond ((mget n1 m1).isSome)
   (
   some (((mget n1 m1).getD 0), m1, l1)
   )
   (
   (idx o1.nodes n1).bind fun e1 =>
   (cloneO e1.Cuts).bind fun r1 =>
   guardO (l1.length + 1 ≤ 4294967296) <|
   (
    (idx o1.nodes n1).bind fun e2 =>
    (qIter (q_tariff_builder_ordered_1_h_l1 l1 o1 self e2) (0, (mset n1 (l1.length : Int) m1), (l1 ++ [(⟨e1.Mark, r1, []⟩ : Node)]))).bind fun x_21 =>
    some x_21
    : Option ((List (Int × Int)) × (List Node))).bind fun (M1, L1) =>
   some ((l1.length : Int), M1, L1)
   )
  )
def q_tariff_builder_ordered_1_h : Nat → (List (Int × Int)) → (List Node) → Builder → Int → Option (Int × (List (Int × Int)) × (List Node))
  | 0 => fun _ _ _ _ => none
  | n + 1 => q_tariff_builder_ordered_1_h_b (q_tariff_builder_ordered_1_h n)
def q_tariff_builder_ordered_h (o1 : Builder) (top1 : Int) : Option ((List Node) × Builder) :=
 (q_tariff_builder_ordered_1_h 100 [] [] o1 top1).bind fun r1 =>
 some (r1.2.2, o1)
def q_tariff_Diagram (k1 : Int) (t1 : (List Rule)) : Option ((List Node) × Int) :=
 (q_tariff_checked k1 [t1]).bind fun r1 =>
 cond (decide (¬r1 = 0))
  (
  some ([], r1)
  )
  (
  (q_tariff_all t1).bind fun r2 =>
  (q_tariff_builder_at_h 100 (⟨k1, t1, [], [], []⟩ : Builder) 0 r2).bind fun r3 =>
  cond (decide (r3.1 < 0))
   (
   some ([(⟨0, [1000], [r3.1]⟩ : Node)], 0)
   )
   (
   (q_tariff_builder_ordered_h r3.2 r3.1).bind fun r4 =>
   some (r4.1, 0)
   )
  )
def q_cocketlaw02_same_l1 (a1 : (List Int)) (b1 : (List Int)) : Int → Option (Int ⊕ (Unit ⊕ Bool)) := fun i1 =>
 cond (decide (i1 < (a1.length : Int)))
  (
  (idx a1 i1).bind fun e1 =>
  (idx b1 i1).bind fun e2 =>
  cond (decide (¬e1 = e2))
   (
   some (.inr (.inr false))
   )
   (
   some (.inl (IntKind.i64.wrap (i1 + 1)))
   )
  )
  (
  some (.inr (.inl ()))
  )
def q_cocketlaw02_same (a1 : (List Int)) (b1 : (List Int)) : Option Bool :=
 cond (decide (¬(a1.length : Int) = (b1.length : Int)))
  (
  some false
  )
  (
  (
  (
   (
   (qIter (q_cocketlaw02_same_l1 a1 b1) 0).bind fun x_9 => match x_9 with
     | (.inl y1) => some (.inl y1)
     | (.inr y2) => some (.inr y2)
   )
   : Option (Unit ⊕ Bool)).bind fun o_3 => match o_3 with
    | (.inl _) =>
      some true
    | (.inr y3) => some y3
  )
  )
def q_cocketlaw02_alive : Option Bool :=
 (q_cocketlaw02_three).bind fun r1 =>
 (q_tariff_Dead 1 r1).bind fun r2 =>
 (q_cocketlaw02_three).bind fun r3 =>
 (q_tariff_Gap 1 r3).bind fun r4 =>
 (q_cocketlaw02_three).bind fun r5 =>
 (q_tariff_Diagram 1 r5).bind fun r6 =>
 ((cond (decide (r2.2 = 0))
  (
   (q_cocketlaw02_same r2.1 [2]).bind fun r7 =>
   some r7
  )
  (some false)
 ) : Option Bool).bind fun b1 =>
 ((cond (b1 && (decide (r4.2 = 0)))
  (
   (q_cocketlaw02_same r4.1 [20]).bind fun r8 =>
   some r8
  )
  (some false)
 ) : Option Bool).bind fun b2 =>
 ((cond ((b2 && (decide (r6.2 = 0))) && (decide ((r6.1.length : Int) = 1)))
  (
   (idx r6.1 0).bind fun e1 =>
   (q_cocketlaw02_same e1.To [(-3), (-4), (-1)]).bind fun r9 =>
   some r9
  )
  (some false)
 ) : Option Bool).bind fun b3 =>
 some b3
theorem q_cocketlaw02_three_le  : OLe (q_cocketlaw02_three) (m_cocketlaw02_three) := by
  intros; unfold q_cocketlaw02_three m_cocketlaw02_three; try simp only [sortI_q]; try dsimp only
  repeat' (first | exact OLe.refl _ | refine OLe.bind ?_ (fun _ => ?_) | refine OLe.cond ?_ ?_ | refine OLe.guard ?_ | refine OLe.iterQ (fun _ => ?_) | split)
theorem q_tariff_marks_le (k1 : Int) : OLe (q_tariff_marks k1) (m_tariff_marks k1) := by
  intros; unfold q_tariff_marks m_tariff_marks; try simp only [sortI_q]; try dsimp only
  repeat' (first | exact OLe.refl _ | refine OLe.bind ?_ (fun _ => ?_) | refine OLe.cond ?_ ?_ | refine OLe.guard ?_ | refine OLe.iterQ (fun _ => ?_) | split)
theorem q_tariff_fine_1_le (b1 : Band) : OLe (q_tariff_fine_1 b1) (m_tariff_fine_1 b1) := by
  intros; unfold q_tariff_fine_1 m_tariff_fine_1; try simp only [sortI_q]; try dsimp only
  repeat' (first | exact OLe.refl _ | refine OLe.bind ?_ (fun _ => ?_) | refine OLe.cond ?_ ?_ | refine OLe.guard ?_ | refine OLe.iterQ (fun _ => ?_) | split)
theorem q_slices_IndexFunc_113_f103_l1_le (s1 : (List Band)) : ∀ e0_, OLe (q_slices_IndexFunc_113_f103_l1 s1 e0_) (m_slices_IndexFunc_113_f103_l1 s1 e0_) := by
  intros; unfold q_slices_IndexFunc_113_f103_l1 m_slices_IndexFunc_113_f103_l1; try simp only [sortI_q]; try dsimp only
  repeat' (first | exact OLe.refl _ | exact q_tariff_fine_1_le _ | refine OLe.bind ?_ (fun _ => ?_) | refine OLe.cond ?_ ?_ | refine OLe.guard ?_ | refine OLe.iterQ (fun _ => ?_) | split)
theorem q_slices_IndexFunc_113_f103_le (s1 : (List Band)) : OLe (q_slices_IndexFunc_113_f103 s1) (m_slices_IndexFunc_113_f103 s1) := by
  intros; unfold q_slices_IndexFunc_113_f103 m_slices_IndexFunc_113_f103; try simp only [sortI_q]; try dsimp only
  repeat' (first | exact OLe.refl _ | exact q_slices_IndexFunc_113_f103_l1_le _ _ | refine OLe.bind ?_ (fun _ => ?_) | refine OLe.cond ?_ ?_ | refine OLe.guard ?_ | refine OLe.iterQ (fun _ => ?_) | split)
theorem q_slices_ContainsFunc_104_f103_le (s1 : (List Band)) : OLe (q_slices_ContainsFunc_104_f103 s1) (m_slices_ContainsFunc_104_f103 s1) := by
  intros; unfold q_slices_ContainsFunc_104_f103 m_slices_ContainsFunc_104_f103; try simp only [sortI_q]; try dsimp only
  repeat' (first | exact OLe.refl _ | exact q_slices_IndexFunc_113_f103_le _ | refine OLe.bind ?_ (fun _ => ?_) | refine OLe.cond ?_ ?_ | refine OLe.guard ?_ | refine OLe.iterQ (fun _ => ?_) | split)
theorem q_tariff_fine_le (k1 : Int) (r1 : Rule) : OLe (q_tariff_fine k1 r1) (m_tariff_fine k1 r1) := by
  intros; unfold q_tariff_fine m_tariff_fine; try simp only [sortI_q]; try dsimp only
  repeat' (first | exact OLe.refl _ | exact q_slices_ContainsFunc_104_f103_le _ | refine OLe.bind ?_ (fun _ => ?_) | refine OLe.cond ?_ ?_ | refine OLe.guard ?_ | refine OLe.iterQ (fun _ => ?_) | split)
theorem q_tariff_checked_1_c_le (r1 : Rule) (k1 : Int) : OLe (q_tariff_checked_1_c r1 k1) (m_tariff_checked_1_c r1 k1) := by
  intros; unfold q_tariff_checked_1_c m_tariff_checked_1_c; try simp only [sortI_q]; try dsimp only
  repeat' (first | exact OLe.refl _ | exact q_tariff_fine_le _ _ | refine OLe.bind ?_ (fun _ => ?_) | refine OLe.cond ?_ ?_ | refine OLe.guard ?_ | refine OLe.iterQ (fun _ => ?_) | split)
theorem q_slices_IndexFunc_99_f77_l1_le (s1 : (List Rule)) (f1 : Int) : ∀ e0_, OLe (q_slices_IndexFunc_99_f77_l1 s1 f1 e0_) (m_slices_IndexFunc_99_f77_l1 s1 f1 e0_) := by
  intros; unfold q_slices_IndexFunc_99_f77_l1 m_slices_IndexFunc_99_f77_l1; try simp only [sortI_q]; try dsimp only
  repeat' (first | exact OLe.refl _ | exact q_tariff_checked_1_c_le _ _ | refine OLe.bind ?_ (fun _ => ?_) | refine OLe.cond ?_ ?_ | refine OLe.guard ?_ | refine OLe.iterQ (fun _ => ?_) | split)
theorem q_slices_IndexFunc_99_f77_le (s1 : (List Rule)) (f1 : Int) : OLe (q_slices_IndexFunc_99_f77 s1 f1) (m_slices_IndexFunc_99_f77 s1 f1) := by
  intros; unfold q_slices_IndexFunc_99_f77 m_slices_IndexFunc_99_f77; try simp only [sortI_q]; try dsimp only
  repeat' (first | exact OLe.refl _ | exact q_slices_IndexFunc_99_f77_l1_le _ _ _ | refine OLe.bind ?_ (fun _ => ?_) | refine OLe.cond ?_ ?_ | refine OLe.guard ?_ | refine OLe.iterQ (fun _ => ?_) | split)
theorem q_slices_ContainsFunc_76_f77_le (s1 : (List Rule)) (f1 : Int) : OLe (q_slices_ContainsFunc_76_f77 s1 f1) (m_slices_ContainsFunc_76_f77 s1 f1) := by
  intros; unfold q_slices_ContainsFunc_76_f77 m_slices_ContainsFunc_76_f77; try simp only [sortI_q]; try dsimp only
  repeat' (first | exact OLe.refl _ | exact q_slices_IndexFunc_99_f77_le _ _ | refine OLe.bind ?_ (fun _ => ?_) | refine OLe.cond ?_ ?_ | refine OLe.guard ?_ | refine OLe.iterQ (fun _ => ?_) | split)
theorem q_tariff_checked_l1_le (k1 : Int) (ts1 : (List (List Rule))) : ∀ e0_, OLe (q_tariff_checked_l1 k1 ts1 e0_) (m_tariff_checked_l1 k1 ts1 e0_) := by
  intros; unfold q_tariff_checked_l1 m_tariff_checked_l1; try simp only [sortI_q]; try dsimp only
  repeat' (first | exact OLe.refl _ | exact q_slices_ContainsFunc_76_f77_le _ _ | refine OLe.bind ?_ (fun _ => ?_) | refine OLe.cond ?_ ?_ | refine OLe.guard ?_ | refine OLe.iterQ (fun _ => ?_) | split)
theorem q_tariff_checked_le (k1 : Int) (ts1 : (List (List Rule))) : OLe (q_tariff_checked k1 ts1) (m_tariff_checked k1 ts1) := by
  intros; unfold q_tariff_checked m_tariff_checked; try simp only [sortI_q]; try dsimp only
  repeat' (first | exact OLe.refl _ | exact q_tariff_marks_le _ | exact q_tariff_checked_l1_le _ _ _ | refine OLe.bind ?_ (fun _ => ?_) | refine OLe.cond ?_ ?_ | refine OLe.guard ?_ | refine OLe.iterQ (fun _ => ?_) | split)
theorem q_tariff_all_le (t1 : (List Rule)) : OLe (q_tariff_all t1) (m_tariff_all t1) := by
  intros; unfold q_tariff_all m_tariff_all; try simp only [sortI_q]; try dsimp only
  repeat' (first | exact OLe.refl _ | refine OLe.bind ?_ (fun _ => ?_) | refine OLe.cond ?_ ?_ | refine OLe.guard ?_ | refine OLe.iterQ (fun _ => ?_) | split)
theorem q_tariff_cuts_l2_le (mark1 : Int) (e1 : (List Rule)) : ∀ e0_, OLe (q_tariff_cuts_l2 mark1 e1 e0_) (m_tariff_cuts_l2 mark1 e1 e0_) := by
  intros; unfold q_tariff_cuts_l2 m_tariff_cuts_l2; try simp only [sortI_q]; try dsimp only
  repeat' (first | exact OLe.refl _ | refine OLe.bind ?_ (fun _ => ?_) | refine OLe.cond ?_ ?_ | refine OLe.guard ?_ | refine OLe.iterQ (fun _ => ?_) | split)
theorem q_tariff_cuts_l1_le (mark1 : Int) (ts1 : (List (List Rule))) : ∀ e0_, OLe (q_tariff_cuts_l1 mark1 ts1 e0_) (m_tariff_cuts_l1 mark1 ts1 e0_) := by
  intros; unfold q_tariff_cuts_l1 m_tariff_cuts_l1; try simp only [sortI_q]; try dsimp only
  repeat' (first | exact OLe.refl _ | exact q_tariff_cuts_l2_le _ _ _ | refine OLe.bind ?_ (fun _ => ?_) | refine OLe.cond ?_ ?_ | refine OLe.guard ?_ | refine OLe.iterQ (fun _ => ?_) | split)
theorem q_tariff_cuts_le (mark1 : Int) (ts1 : (List (List Rule))) : OLe (q_tariff_cuts mark1 ts1) (m_tariff_cuts mark1 ts1) := by
  intros; unfold q_tariff_cuts m_tariff_cuts; try simp only [sortI_q]; try dsimp only
  repeat' (first | exact OLe.refl _ | exact q_tariff_cuts_l1_le _ _ _ | refine OLe.bind ?_ (fun _ => ?_) | refine OLe.cond ?_ ?_ | refine OLe.guard ?_ | refine OLe.iterQ (fun _ => ?_) | split)
theorem q_tariff_fits_l1_le (t1 : (List Rule)) (mark1 : Int) (value1 : Int) : ∀ e0_, OLe (q_tariff_fits_l1 t1 mark1 value1 e0_) (m_tariff_fits_l1 t1 mark1 value1 e0_) := by
  intros; unfold q_tariff_fits_l1 m_tariff_fits_l1; try simp only [sortI_q]; try dsimp only
  repeat' (first | exact OLe.refl _ | refine OLe.bind ?_ (fun _ => ?_) | refine OLe.cond ?_ ?_ | refine OLe.guard ?_ | refine OLe.iterQ (fun _ => ?_) | split)
theorem q_tariff_fits_le (t1 : (List Rule)) (mark1 : Int) (value1 : Int) : OLe (q_tariff_fits t1 mark1 value1) (m_tariff_fits t1 mark1 value1) := by
  intros; unfold q_tariff_fits m_tariff_fits; try simp only [sortI_q]; try dsimp only
  repeat' (first | exact OLe.refl _ | exact q_tariff_fits_l1_le _ _ _ _ | refine OLe.bind ?_ (fun _ => ?_) | refine OLe.cond ?_ ?_ | refine OLe.guard ?_ | refine OLe.iterQ (fun _ => ?_) | split)
theorem q_tariff_set_first_l1_le (s1 : Int) : ∀ e0_, OLe (q_tariff_set_first_l1 s1 e0_) (m_tariff_set_first_l1 s1 e0_) := by
  intros; unfold q_tariff_set_first_l1 m_tariff_set_first_l1; try simp only [sortI_q]; try dsimp only
  repeat' (first | exact OLe.refl _ | refine OLe.bind ?_ (fun _ => ?_) | refine OLe.cond ?_ ?_ | refine OLe.guard ?_ | refine OLe.iterQ (fun _ => ?_) | split)
theorem q_tariff_set_first_le (s1 : Int) : OLe (q_tariff_set_first s1) (m_tariff_set_first s1) := by
  intros; unfold q_tariff_set_first m_tariff_set_first; try simp only [sortI_q]; try dsimp only
  repeat' (first | exact OLe.refl _ | exact q_tariff_set_first_l1_le _ _ | refine OLe.bind ?_ (fun _ => ?_) | refine OLe.cond ?_ ?_ | refine OLe.guard ?_ | refine OLe.iterQ (fun _ => ?_) | split)
theorem q_tariff_counts_1_h_l2_le (from1 : Int) (e1 : Int) (r3 : ((List Int) × (List (Arr3_Int × (List Int))))) : ∀ e0_, OLe (q_tariff_counts_1_h_l2 from1 e1 r3 e0_) (m_tariff_counts_1_h_l2 from1 e1 r3 e0_) := by
  intros; unfold q_tariff_counts_1_h_l2 m_tariff_counts_1_h_l2; try simp only [sortI_q]; try dsimp only
  repeat' (first | exact OLe.refl _ | refine OLe.bind ?_ (fun _ => ?_) | refine OLe.cond ?_ ?_ | refine OLe.guard ?_ | refine OLe.iterQ (fun _ => ?_) | split)
theorem q_tariff_counts_1_h_l1_le (mark1 : Int) (a1 : Int) (o1 : (List Rule)) (o2 : Int) (self self' : ((List Rule) → Int → (List (Arr3_Int × (List Int))) → Int → Int → Option ((List Int) × (List (Arr3_Int × (List Int)))))) (hself : ∀ x0 x1 x2 x3 x4, OLe (self x0 x1 x2 x3 x4) (self' x0 x1 x2 x3 x4)) (r1 : (List Int)) : ∀ e0_, OLe (q_tariff_counts_1_h_l1 mark1 a1 o1 o2 self r1 e0_) (m_tariff_counts_1_h_l1 mark1 a1 o1 o2 self' r1 e0_) := by
  intros; unfold q_tariff_counts_1_h_l1 m_tariff_counts_1_h_l1; try simp only [sortI_q]; try dsimp only
  repeat' (first | exact OLe.refl _ | exact q_tariff_fits_le _ _ _ | exact q_tariff_counts_1_h_l2_le _ _ _ _ | exact q_tariff_set_first_le _ | exact hself _ _ _ _ _ | refine OLe.bind ?_ (fun _ => ?_) | refine OLe.cond ?_ ?_ | refine OLe.guard ?_ | refine OLe.iterQ (fun _ => ?_) | split)
theorem q_tariff_counts_1_h_b_le (self self' : ((List Rule) → Int → (List (Arr3_Int × (List Int))) → Int → Int → Option ((List Int) × (List (Arr3_Int × (List Int)))))) (hself : ∀ x0 x1 x2 x3 x4, OLe (self x0 x1 x2 x3 x4) (self' x0 x1 x2 x3 x4)) (o1 : (List Rule)) (o2 : Int) (m1 : (List (Arr3_Int × (List Int)))) (mark1 : Int) (a1 : Int) : OLe (q_tariff_counts_1_h_b self o1 o2 m1 mark1 a1) (m_tariff_counts_1_h_b self' o1 o2 m1 mark1 a1) := by
  intros; unfold q_tariff_counts_1_h_b m_tariff_counts_1_h_b; try simp only [sortI_q]; try dsimp only
  repeat' (first | exact OLe.refl _ | exact q_tariff_cuts_le _ _ | exact q_tariff_counts_1_h_l1_le _ _ _ _ _ _ (by assumption) _ _ | exact hself _ _ _ _ _ | refine OLe.bind ?_ (fun _ => ?_) | refine OLe.cond ?_ ?_ | refine OLe.guard ?_ | refine OLe.iterQ (fun _ => ?_) | split)
theorem q_tariff_counts_1_h_le  : ∀ e0_ e1_ e2_ e3_ e4_ e5_, OLe (q_tariff_counts_1_h e0_ e1_ e2_ e3_ e4_ e5_) (m_tariff_counts_1_h e0_ e1_ e2_ e3_ e4_ e5_) := by
  intro e0_; induction e0_ with
  | zero => intros; exact fun _ h => nomatch h
  | succ k ih => intro e1_ e2_ e3_ e4_ e5_; exact q_tariff_counts_1_h_b_le _ _ ih _ _ _ _ _
theorem q_tariff_counts_le (k1 : Int) (t1 : (List Rule)) : OLe (q_tariff_counts k1 t1) (m_tariff_counts k1 t1) := by
  intros; unfold q_tariff_counts m_tariff_counts; try simp only [sortI_q]; try dsimp only
  repeat' (first | exact OLe.refl _ | exact q_tariff_all_le _ | exact q_tariff_counts_1_h_le _ _ _ _ _ _ | refine OLe.bind ?_ (fun _ => ?_) | refine OLe.cond ?_ ?_ | refine OLe.guard ?_ | refine OLe.iterQ (fun _ => ?_) | split)
theorem q_tariff_Dead_l1_le (t1 : (List Rule)) (r2 : (List Int)) : ∀ e0_, OLe (q_tariff_Dead_l1 t1 r2 e0_) (m_tariff_Dead_l1 t1 r2 e0_) := by
  intros; unfold q_tariff_Dead_l1 m_tariff_Dead_l1; try simp only [sortI_q]; try dsimp only
  repeat' (first | exact OLe.refl _ | refine OLe.bind ?_ (fun _ => ?_) | refine OLe.cond ?_ ?_ | refine OLe.guard ?_ | refine OLe.iterQ (fun _ => ?_) | split)
theorem q_tariff_Dead_le (k1 : Int) (t1 : (List Rule)) : OLe (q_tariff_Dead k1 t1) (m_tariff_Dead k1 t1) := by
  intros; unfold q_tariff_Dead m_tariff_Dead; try simp only [sortI_q]; try dsimp only
  repeat' (first | exact OLe.refl _ | exact q_tariff_checked_le _ _ | exact q_tariff_counts_le _ _ | exact q_tariff_Dead_l1_le _ _ _ | refine OLe.bind ?_ (fun _ => ?_) | refine OLe.cond ?_ ?_ | refine OLe.guard ?_ | refine OLe.iterQ (fun _ => ?_) | split)
theorem q_tariff_Gap_1_le (i1 : Int) (v1 : Int) : OLe (q_tariff_Gap_1 i1 v1) (m_tariff_Gap_1 i1 v1) := by
  intros; unfold q_tariff_Gap_1 m_tariff_Gap_1; try simp only [sortI_q]; try dsimp only
  repeat' (first | exact OLe.refl _ | refine OLe.bind ?_ (fun _ => ?_) | refine OLe.cond ?_ ?_ | refine OLe.guard ?_ | refine OLe.iterQ (fun _ => ?_) | split)
theorem q_tariff_walker_find_1_h_f50_l1_le (mark1 : Int) (a1 : Int) (b1 : Int) (o1 : Walker) (self self' : (Walker → (List (Arr3_Int × Bool)) → Int → Int → Int → Option ((List Int) × Bool × (List (Arr3_Int × Bool))))) (hself : ∀ x0 x1 x2 x3 x4, OLe (self x0 x1 x2 x3 x4) (self' x0 x1 x2 x3 x4)) (r4 : (List Int)) : ∀ e0_, OLe (q_tariff_walker_find_1_h_f50_l1 mark1 a1 b1 o1 self r4 e0_) (m_tariff_walker_find_1_h_f50_l1 mark1 a1 b1 o1 self' r4 e0_) := by
  intros; unfold q_tariff_walker_find_1_h_f50_l1 m_tariff_walker_find_1_h_f50_l1; try simp only [sortI_q]; try dsimp only
  repeat' (first | exact OLe.refl _ | exact q_tariff_fits_le _ _ _ | exact hself _ _ _ _ _ | refine OLe.bind ?_ (fun _ => ?_) | refine OLe.cond ?_ ?_ | refine OLe.guard ?_ | refine OLe.iterQ (fun _ => ?_) | split)
theorem q_tariff_walker_find_1_h_f50_b_le (self self' : (Walker → (List (Arr3_Int × Bool)) → Int → Int → Int → Option ((List Int) × Bool × (List (Arr3_Int × Bool))))) (hself : ∀ x0 x1 x2 x3 x4, OLe (self x0 x1 x2 x3 x4) (self' x0 x1 x2 x3 x4)) (o1 : Walker) (m1 : (List (Arr3_Int × Bool))) (mark1 : Int) (a1 : Int) (b1 : Int) : OLe (q_tariff_walker_find_1_h_f50_b self o1 m1 mark1 a1 b1) (m_tariff_walker_find_1_h_f50_b self' o1 m1 mark1 a1 b1) := by
  intros; unfold q_tariff_walker_find_1_h_f50_b m_tariff_walker_find_1_h_f50_b; try simp only [sortI_q]; try dsimp only
  repeat' (first | exact OLe.refl _ | exact q_tariff_set_first_le _ | exact q_tariff_Gap_1_le _ _ | exact q_tariff_cuts_le _ _ | exact q_tariff_walker_find_1_h_f50_l1_le _ _ _ _ _ _ (by assumption) _ _ | exact hself _ _ _ _ _ | refine OLe.bind ?_ (fun _ => ?_) | refine OLe.cond ?_ ?_ | refine OLe.guard ?_ | refine OLe.iterQ (fun _ => ?_) | split)
theorem q_tariff_walker_find_1_h_f50_le  : ∀ e0_ e1_ e2_ e3_ e4_ e5_, OLe (q_tariff_walker_find_1_h_f50 e0_ e1_ e2_ e3_ e4_ e5_) (m_tariff_walker_find_1_h_f50 e0_ e1_ e2_ e3_ e4_ e5_) := by
  intro e0_; induction e0_ with
  | zero => intros; exact fun _ h => nomatch h
  | succ k ih => intro e1_ e2_ e3_ e4_ e5_; exact q_tariff_walker_find_1_h_f50_b_le _ _ ih _ _ _ _ _
theorem q_tariff_walker_find_f50_le (w1 : Walker) : OLe (q_tariff_walker_find_f50 w1) (m_tariff_walker_find_f50 w1) := by
  intros; unfold q_tariff_walker_find_f50 m_tariff_walker_find_f50; try simp only [sortI_q]; try dsimp only
  repeat' (first | exact OLe.refl _ | exact q_tariff_all_le _ | exact q_tariff_walker_find_1_h_f50_le _ _ _ _ _ _ | refine OLe.bind ?_ (fun _ => ?_) | refine OLe.cond ?_ ?_ | refine OLe.guard ?_ | refine OLe.iterQ (fun _ => ?_) | split)
theorem q_tariff_found_le (l1 : (List Int)) (ok1 : Bool) : OLe (q_tariff_found l1 ok1) (m_tariff_found l1 ok1) := by
  intros; unfold q_tariff_found m_tariff_found; try simp only [sortI_q]; try dsimp only
  repeat' (first | exact OLe.refl _ | refine OLe.bind ?_ (fun _ => ?_) | refine OLe.cond ?_ ?_ | refine OLe.guard ?_ | refine OLe.iterQ (fun _ => ?_) | split)
theorem q_tariff_Gap_le (k1 : Int) (t1 : (List Rule)) : OLe (q_tariff_Gap k1 t1) (m_tariff_Gap k1 t1) := by
  intros; unfold q_tariff_Gap m_tariff_Gap; try simp only [sortI_q]; try dsimp only
  repeat' (first | exact OLe.refl _ | exact q_tariff_checked_le _ _ | exact q_tariff_walker_find_f50_le _ | exact q_tariff_found_le _ _ | refine OLe.bind ?_ (fun _ => ?_) | refine OLe.cond ?_ ?_ | refine OLe.guard ?_ | refine OLe.iterQ (fun _ => ?_) | split)
theorem q_tariff_builder_leaf_h_le (o1 : Builder) (a1 : Int) : OLe (q_tariff_builder_leaf_h o1 a1) (m_tariff_builder_leaf_h o1 a1) := by
  intros; unfold q_tariff_builder_leaf_h m_tariff_builder_leaf_h; try simp only [sortI_q]; try dsimp only
  repeat' (first | exact OLe.refl _ | exact q_tariff_set_first_le _ | refine OLe.bind ?_ (fun _ => ?_) | refine OLe.cond ?_ ?_ | refine OLe.guard ?_ | refine OLe.iterQ (fun _ => ?_) | split)
theorem q_tariff_merged_l1_le (ends1 : (List Int)) (to1 : (List Int)) : ∀ e0_, OLe (q_tariff_merged_l1 ends1 to1 e0_) (m_tariff_merged_l1 ends1 to1 e0_) := by
  intros; unfold q_tariff_merged_l1 m_tariff_merged_l1; try simp only [sortI_q]; try dsimp only
  repeat' (first | exact OLe.refl _ | refine OLe.bind ?_ (fun _ => ?_) | refine OLe.cond ?_ ?_ | refine OLe.guard ?_ | refine OLe.iterQ (fun _ => ?_) | split)
theorem q_tariff_merged_le (ends1 : (List Int)) (to1 : (List Int)) : OLe (q_tariff_merged ends1 to1) (m_tariff_merged ends1 to1) := by
  intros; unfold q_tariff_merged m_tariff_merged; try simp only [sortI_q]; try dsimp only
  repeat' (first | exact OLe.refl _ | exact q_tariff_merged_l1_le _ _ _ | refine OLe.bind ?_ (fun _ => ?_) | refine OLe.cond ?_ ?_ | refine OLe.guard ?_ | refine OLe.iterQ (fun _ => ?_) | split)
theorem q_tariff_builder_node_h_l2_le (e1 : (List Int)) : ∀ e0_, OLe (q_tariff_builder_node_h_l2 e1 e0_) (m_tariff_builder_node_h_l2 e1 e0_) := by
  intros; unfold q_tariff_builder_node_h_l2 m_tariff_builder_node_h_l2; try simp only [sortI_q]; try dsimp only
  repeat' (first | exact OLe.refl _ | exact qItoa_le _ | refine OLe.bind ?_ (fun _ => ?_) | refine OLe.cond ?_ ?_ | refine OLe.guard ?_ | refine OLe.iterQ (fun _ => ?_) | split)
theorem q_tariff_builder_node_h_l1_le (x1 : Node) : ∀ e0_, OLe (q_tariff_builder_node_h_l1 x1 e0_) (m_tariff_builder_node_h_l1 x1 e0_) := by
  intros; unfold q_tariff_builder_node_h_l1 m_tariff_builder_node_h_l1; try simp only [sortI_q]; try dsimp only
  repeat' (first | exact OLe.refl _ | exact q_tariff_builder_node_h_l2_le _ _ | refine OLe.bind ?_ (fun _ => ?_) | refine OLe.cond ?_ ?_ | refine OLe.guard ?_ | refine OLe.iterQ (fun _ => ?_) | split)
theorem q_tariff_builder_node_h_le (o1 : Builder) (x1 : Node) : OLe (q_tariff_builder_node_h o1 x1) (m_tariff_builder_node_h o1 x1) := by
  intros; unfold q_tariff_builder_node_h m_tariff_builder_node_h; try simp only [sortI_q]; try dsimp only
  repeat' (first | exact OLe.refl _ | exact q_tariff_builder_node_h_l1_le _ _ | refine OLe.bind ?_ (fun _ => ?_) | refine OLe.cond ?_ ?_ | refine OLe.guard ?_ | refine OLe.iterQ (fun _ => ?_) | split)
theorem q_tariff_builder_at_h_l1_le (mark1 : Int) (a1 : Int) (self self' : (Builder → Int → Int → Option (Int × Builder))) (hself : ∀ x0 x1 x2, OLe (self x0 x1 x2) (self' x0 x1 x2)) (r2 : (List Int)) : ∀ e0_, OLe (q_tariff_builder_at_h_l1 mark1 a1 self r2 e0_) (m_tariff_builder_at_h_l1 mark1 a1 self' r2 e0_) := by
  intros; unfold q_tariff_builder_at_h_l1 m_tariff_builder_at_h_l1; try simp only [sortI_q]; try dsimp only
  repeat' (first | exact OLe.refl _ | exact q_tariff_fits_le _ _ _ | exact hself _ _ _ | refine OLe.bind ?_ (fun _ => ?_) | refine OLe.cond ?_ ?_ | refine OLe.guard ?_ | refine OLe.iterQ (fun _ => ?_) | split)
theorem q_tariff_builder_at_h_b_le (self self' : (Builder → Int → Int → Option (Int × Builder))) (hself : ∀ x0 x1 x2, OLe (self x0 x1 x2) (self' x0 x1 x2)) (o1 : Builder) (mark1 : Int) (a1 : Int) : OLe (q_tariff_builder_at_h_b self o1 mark1 a1) (m_tariff_builder_at_h_b self' o1 mark1 a1) := by
  intros; unfold q_tariff_builder_at_h_b m_tariff_builder_at_h_b; try simp only [sortI_q]; try dsimp only
  repeat' (first | exact OLe.refl _ | exact q_tariff_builder_leaf_h_le _ _ | exact q_tariff_cuts_le _ _ | exact q_tariff_builder_at_h_l1_le _ _ _ _ (by assumption) _ _ | exact q_tariff_merged_le _ _ | exact q_tariff_builder_node_h_le _ _ | exact hself _ _ _ | refine OLe.bind ?_ (fun _ => ?_) | refine OLe.cond ?_ ?_ | refine OLe.guard ?_ | refine OLe.iterQ (fun _ => ?_) | split)
theorem q_tariff_builder_at_h_le  : ∀ e0_ e1_ e2_ e3_, OLe (q_tariff_builder_at_h e0_ e1_ e2_ e3_) (m_tariff_builder_at_h e0_ e1_ e2_ e3_) := by
  intro e0_; induction e0_ with
  | zero => intros; exact fun _ h => nomatch h
  | succ k ih => intro e1_ e2_ e3_; exact q_tariff_builder_at_h_b_le _ _ ih _ _ _
theorem q_tariff_builder_ordered_1_h_l1_le (l1 : (List Node)) (o1 : Builder) (self self' : ((List (Int × Int)) → (List Node) → Builder → Int → Option (Int × (List (Int × Int)) × (List Node)))) (hself : ∀ x0 x1 x2 x3, OLe (self x0 x1 x2 x3) (self' x0 x1 x2 x3)) (e2 : Node) : ∀ e0_, OLe (q_tariff_builder_ordered_1_h_l1 l1 o1 self e2 e0_) (m_tariff_builder_ordered_1_h_l1 l1 o1 self' e2 e0_) := by
  intros; unfold q_tariff_builder_ordered_1_h_l1 m_tariff_builder_ordered_1_h_l1; try simp only [sortI_q]; try dsimp only
  repeat' (first | exact OLe.refl _ | exact hself _ _ _ _ | refine OLe.bind ?_ (fun _ => ?_) | refine OLe.cond ?_ ?_ | refine OLe.guard ?_ | refine OLe.iterQ (fun _ => ?_) | split)
theorem q_tariff_builder_ordered_1_h_b_le (self self' : ((List (Int × Int)) → (List Node) → Builder → Int → Option (Int × (List (Int × Int)) × (List Node)))) (hself : ∀ x0 x1 x2 x3, OLe (self x0 x1 x2 x3) (self' x0 x1 x2 x3)) (m1 : (List (Int × Int))) (l1 : (List Node)) (o1 : Builder) (n1 : Int) : OLe (q_tariff_builder_ordered_1_h_b self m1 l1 o1 n1) (m_tariff_builder_ordered_1_h_b self' m1 l1 o1 n1) := by
  intros; unfold q_tariff_builder_ordered_1_h_b m_tariff_builder_ordered_1_h_b; try simp only [sortI_q]; try dsimp only
  repeat' (first | exact OLe.refl _ | exact q_tariff_builder_ordered_1_h_l1_le _ _ _ _ (by assumption) _ _ | exact hself _ _ _ _ | refine OLe.bind ?_ (fun _ => ?_) | refine OLe.cond ?_ ?_ | refine OLe.guard ?_ | refine OLe.iterQ (fun _ => ?_) | split)
theorem q_tariff_builder_ordered_1_h_le  : ∀ e0_ e1_ e2_ e3_ e4_, OLe (q_tariff_builder_ordered_1_h e0_ e1_ e2_ e3_ e4_) (m_tariff_builder_ordered_1_h e0_ e1_ e2_ e3_ e4_) := by
  intro e0_; induction e0_ with
  | zero => intros; exact fun _ h => nomatch h
  | succ k ih => intro e1_ e2_ e3_ e4_; exact q_tariff_builder_ordered_1_h_b_le _ _ ih _ _ _ _
theorem q_tariff_builder_ordered_h_le (o1 : Builder) (top1 : Int) : OLe (q_tariff_builder_ordered_h o1 top1) (m_tariff_builder_ordered_h o1 top1) := by
  intros; unfold q_tariff_builder_ordered_h m_tariff_builder_ordered_h; try simp only [sortI_q]; try dsimp only
  repeat' (first | exact OLe.refl _ | exact q_tariff_builder_ordered_1_h_le _ _ _ _ _ | refine OLe.bind ?_ (fun _ => ?_) | refine OLe.cond ?_ ?_ | refine OLe.guard ?_ | refine OLe.iterQ (fun _ => ?_) | split)
theorem q_tariff_Diagram_le (k1 : Int) (t1 : (List Rule)) : OLe (q_tariff_Diagram k1 t1) (m_tariff_Diagram k1 t1) := by
  intros; unfold q_tariff_Diagram m_tariff_Diagram; try simp only [sortI_q]; try dsimp only
  repeat' (first | exact OLe.refl _ | exact q_tariff_checked_le _ _ | exact q_tariff_all_le _ | exact q_tariff_builder_at_h_le _ _ _ _ | exact q_tariff_builder_ordered_h_le _ _ | refine OLe.bind ?_ (fun _ => ?_) | refine OLe.cond ?_ ?_ | refine OLe.guard ?_ | refine OLe.iterQ (fun _ => ?_) | split)
theorem q_cocketlaw02_same_l1_le (a1 : (List Int)) (b1 : (List Int)) : ∀ e0_, OLe (q_cocketlaw02_same_l1 a1 b1 e0_) (m_cocketlaw02_same_l1 a1 b1 e0_) := by
  intros; unfold q_cocketlaw02_same_l1 m_cocketlaw02_same_l1; try simp only [sortI_q]; try dsimp only
  repeat' (first | exact OLe.refl _ | refine OLe.bind ?_ (fun _ => ?_) | refine OLe.cond ?_ ?_ | refine OLe.guard ?_ | refine OLe.iterQ (fun _ => ?_) | split)
theorem q_cocketlaw02_same_le (a1 : (List Int)) (b1 : (List Int)) : OLe (q_cocketlaw02_same a1 b1) (m_cocketlaw02_same a1 b1) := by
  intros; unfold q_cocketlaw02_same m_cocketlaw02_same; try simp only [sortI_q]; try dsimp only
  repeat' (first | exact OLe.refl _ | exact q_cocketlaw02_same_l1_le _ _ _ | refine OLe.bind ?_ (fun _ => ?_) | refine OLe.cond ?_ ?_ | refine OLe.guard ?_ | refine OLe.iterQ (fun _ => ?_) | split)
theorem q_cocketlaw02_alive_le  : OLe (q_cocketlaw02_alive) (m_cocketlaw02_alive) := by
  intros; unfold q_cocketlaw02_alive m_cocketlaw02_alive; try simp only [sortI_q]; try dsimp only
  repeat' (first | exact OLe.refl _ | exact q_cocketlaw02_three_le  | exact q_tariff_Dead_le _ _ | exact q_tariff_Gap_le _ _ | exact q_tariff_Diagram_le _ _ | exact q_cocketlaw02_same_le _ _ | refine OLe.bind ?_ (fun _ => ?_) | refine OLe.cond ?_ ?_ | refine OLe.guard ?_ | refine OLe.iterQ (fun _ => ?_) | split)
end Go.Pv

namespace Go.Pv
theorem q_alive_true : q_cocketlaw02_alive = some true := by decide +kernel
theorem alive_true : m_cocketlaw02_alive = some true := q_cocketlaw02_alive_le _ q_alive_true
end Go.Pv

namespace Go.Pv
def allR (t : List Rule) : Int := IntKind.i64.wrap ((IntKind.i64.wrap (1 * (2 ^ (min ((t.length : Int)).toNat 64)))) - 1)
theorem refAll_eq (t : List Rule) : m_cocketref02_all t = some (allR t) := by
  unfold m_cocketref02_all
  have hz : (0 : Int) ≤ (t.length : Int) := by omega
  simp only [guardO, hz, if_true]; rfl
theorem pieces_loop {k : Int} {t : List Rule} (h : chk k [t] = 0) (most : Int) : ∀ (n m : Nat) (out : Int), n = k.toNat - m → ∃ v, iter (m_cocketref02_Pieces_l1 k t most) (out, (m : Int)) = some v
  | 0, m, out, hn => by
    obtain ⟨h1, h2, _⟩ := chk_good h
    have h3 : decide ((m : Int) < k) = false := by simp; omega
    rw [iter_eq]
    unfold m_cocketref02_Pieces_l1
    simp only [h3, Bool.false_and, cond_false, Option.bind_some]
    exact ⟨_, rfl⟩
  | n + 1, m, out, hn => by
    obtain ⟨h1, h2, ht, hf⟩ := chk_good h
    have h3 : decide ((m : Int) < k) = true := by simp; omega
    have ih := fun out => pieces_loop h most n (m + 1) out (by omega)
    rw [iter_eq]
    generalize hf0 : m_cocketref02_Pieces_l1 k t most = f at ih ⊢
    have hff : f (out, (m : Int)) = cond (decide (out < most)) (some (.inl (IntKind.i64.wrap (out * ((cutsS m (allR t) 0 t [1000]).length : Int)), IntKind.i64.wrap ((m : Int) + 1)))) (some (.inr out)) := by
      rw [← hf0]; unfold m_cocketref02_Pieces_l1
      simp only [h3, Bool.true_and]
      cases decide (out < most) with
      | false => rfl
      | true => simp only [cond_true, refAll_eq, Option.bind_some, refCuts_eq t m (allR t) (by omega) (fun r hr => by have := fine_len (hf r hr); omega)]
    rw [hff]
    cases decide (out < most) with
    | false => exact ⟨_, rfl⟩
    | true =>
      simp only [cond_true, Option.bind_some]
      rw [wrap_i64_eq (by omega : -9223372036854775808 ≤ (m : Int) + 1 ∧ (m : Int) + 1 ≤ 9223372036854775807), show ((m : Int) + 1) = ((m + 1 : Nat) : Int) by omega]
      exact ih _
theorem pieces_total (k : Int) (t : List Rule) (most : Int) : ∃ v, m_cocketref02_Pieces k t most = some v := by
  unfold m_cocketref02_Pieces
  rw [good_eq k t, Option.bind_some]
  by_cases h : chk k [t] = 0
  · rw [decide_eq_false (by simp [h]), cond_false]
    obtain ⟨v, hv⟩ := pieces_loop h most k.toNat 0 1 (by omega)
    rw [show ((0 : Nat) : Int) = 0 from rfl] at hv
    rw [hv]; exact ⟨_, rfl⟩
  · rw [decide_eq_true (by simpa using h), cond_true]; exact ⟨_, rfl⟩
theorem few_loop (t : List Rule) : ∀ (n i : Nat), n = 41 - i → i ≤ 40 → ∃ v, iter (m_cocketlaw02_few_l1 t) (i : Int) = some v
  | 0, i, hn, hi => by omega
  | n + 1, i, hn, hi => by
    rw [iter_eq]
    by_cases hlt : i < t.length
    · have h1 : decide ((i : Int) < (t.length : Int)) = true := by simp; omega
      have h2 : idx t (i : Int) = some t[i] := by unfold idx; simp [hlt]
      by_cases h40 : i = 40
      · have h3 : decide (40 ≤ (i : Int)) = true := by simp; omega
        unfold m_cocketlaw02_few_l1
        simp only [h1, h3, cond_true, Option.bind_some]
        exact ⟨_, rfl⟩
      · have h3 : decide (40 ≤ (i : Int)) = false := by simp; omega
        have ih := few_loop t n (i + 1) (by omega) (by omega)
        generalize hf0 : m_cocketlaw02_few_l1 t = f at ih ⊢
        have hf : f (i : Int) = cond (decide (20 < (t[i].Bands.length : Int))) (some (.inr (.inr false))) (some (.inl (IntKind.i64.wrap ((i : Int) + 1)))) := by
          rw [← hf0]; unfold m_cocketlaw02_few_l1
          simp only [h1, h3, cond_true, cond_false, Option.bind_some, h2]
        rw [hf]
        cases decide (20 < (t[i].Bands.length : Int)) with
        | true => exact ⟨_, rfl⟩
        | false =>
          simp only [cond_false, Option.bind_some]
          rw [wrap_i64_eq (by omega), show ((i : Int) + 1) = ((i + 1 : Nat) : Int) by omega]
          exact ih
    · have h1 : decide ((i : Int) < (t.length : Int)) = false := by simp; omega
      unfold m_cocketlaw02_few_l1
      simp only [h1, cond_false, Option.bind_some]
      exact ⟨_, rfl⟩
theorem few_total (k : Int) (t : List Rule) : ∃ b, m_cocketlaw02_few k t = some b := by
  unfold m_cocketlaw02_few
  obtain ⟨v, hv⟩ := few_loop t 41 0 (by omega) (by omega)
  rw [show ((0 : Nat) : Int) = 0 from rfl] at hv
  rw [hv]
  cases v with
  | inl u =>
    obtain ⟨p, hp⟩ := pieces_total k t 30000
    simp only [Option.bind_some, hp]; exact ⟨_, rfl⟩
  | inr b => exact ⟨b, rfl⟩
end Go.Pv

namespace Go.Pv
end Go.Pv

namespace Go.Pv
end Go.Pv

namespace Go.Pv
theorem idx_at {α : Type} [Inhabited α] {l : List α} {i : Int} (h0 : 0 ≤ i) (h1 : i < l.length) : idx l i = some (l.getD i.toNat default) := by
  have : i.toNat < l.length := by omega
  unfold idx; simp [h0, this]
end Go.Pv

namespace Go.Pv
end Go.Pv

namespace Go.Pv
end Go.Pv

namespace Go.Pv
end Go.Pv

namespace Go.Pv
end Go.Pv

namespace Go.Pv
end Go.Pv

namespace Go.Pv
theorem wrap_u32_eq {x : Int} (h : 0 ≤ x ∧ x < 4294967296) : IntKind.u32.wrap x = x := by
  have : IntKind.u32.wrap x = x % 4294967296 := by simp [IntKind.wrap, IntKind.bits, IntKind.signed]
  rw [this]; exact Int.emod_eq_of_lt h.1 h.2
theorem ofInt_toNat32 {a : Nat} (h : a < 4294967296) : (BitVec.ofInt IntKind.u32.bits (a : Int)).toNat = a := by
  rw [BitVec.toNat_ofInt, show ((2 ^ IntKind.u32.bits : Nat) : Int) = 4294967296 by decide, Int.emod_eq_of_lt (by omega) (by omega), Int.toNat_natCast]
theorem and_u32 {a b : Nat} (ha : a < 4294967296) (hb : b < 4294967296) : IntKind.u32.wrap ↑(BitVec.ofInt IntKind.u32.bits (a : Int) &&& BitVec.ofInt IntKind.u32.bits (b : Int)).toNat = ((a &&& b : Nat) : Int) := by
  rw [BitVec.toNat_and, ofInt_toNat32 ha, ofInt_toNat32 hb]
  have := Nat.and_le_left (n := a) (m := b)
  exact wrap_u32_eq (by omega)
theorem or_u32 {a b : Nat} (ha : a < 4294967296) (hb : b < 4294967296) : IntKind.u32.wrap ↑(BitVec.ofInt IntKind.u32.bits (a : Int) ||| BitVec.ofInt IntKind.u32.bits (b : Int)).toNat = ((a ||| b : Nat) : Int) := by
  rw [BitVec.toNat_or, ofInt_toNat32 ha, ofInt_toNat32 hb]
  have : a ||| b < 2 ^ 32 := Nat.or_lt_two_pow (by omega) (by omega)
  exact wrap_u32_eq (by omega)
theorem pow_u32 {i : Nat} (h : i < 32) : IntKind.u32.wrap (1 * (2 ^ (min ((i : Int)).toNat 32))) = ((2 ^ i : Nat) : Int) := by
  rw [Int.toNat_natCast, Nat.min_eq_left (by omega), Int.one_mul]
  have h1 : 2 ^ i < 2 ^ 32 := Nat.pow_lt_pow_right (by omega) h
  have e : (2 : Int) ^ i = ((2 ^ i : Nat) : Int) := by simp
  rw [e]
  generalize (2 : Nat) ^ i = q at h1
  exact wrap_u32_eq (by omega)
theorem and_pow (a i : Nat) : a &&& 2 ^ i = cond (a.testBit i) (2 ^ i) 0 := by
  apply Nat.eq_of_testBit_eq
  intro j
  rw [Nat.testBit_and, Nat.testBit_two_pow]
  by_cases h : i = j
  · subst h
    cases hb : a.testBit i <;> simp [Nat.testBit_two_pow]
  · cases hb : a.testBit i <;> simp [Nat.testBit_two_pow, h]
theorem bit_prog {a i : Nat} (ha : a < 4294967296) (hi : i < 32) : decide (¬(IntKind.u32.wrap ↑(BitVec.ofInt IntKind.u32.bits (a : Int) &&& BitVec.ofInt IntKind.u32.bits (IntKind.u32.wrap (1 * (2 ^ (min ((i : Int)).toNat 32))))).toNat) = 0) = a.testBit i := by
  have h1 : 2 ^ i < 2 ^ 32 := Nat.pow_lt_pow_right (by omega) hi
  rw [pow_u32 hi, and_u32 ha (by omega), and_pow]
  have h2 : 0 < 2 ^ i := Nat.two_pow_pos i
  generalize (2 : Nat) ^ i = q at h2
  cases a.testBit i with
  | true => rw [cond_true]; exact decide_eq_true (by omega)
  | false => rfl
def setOf {α : Type} (p : α → Bool) : Nat → List α → Nat
  | _, [] => 0
  | i, x :: l => (cond (p x) (2 ^ i) 0) ||| setOf p (i + 1) l
theorem setOf_bit {α : Type} (p : α → Bool) : ∀ (l : List α) (i j : Nat), (setOf p i l).testBit j = (decide (i ≤ j) && ((l[j - i]?).map p).getD false)
  | [], i, j => by simp [setOf]
  | x :: l, i, j => by
    rw [setOf, Nat.testBit_or, setOf_bit p l (i + 1) j]
    by_cases h : i ≤ j
    · by_cases h2 : i = j
      · subst h2
        cases hp : p x with
        | true => simp [hp]
        | false => simp [hp]; intro h3; omega
      · have e1 : (cond (p x) (2 ^ i) 0).testBit j = false := by
          cases p x with
          | true => exact Nat.testBit_two_pow_of_ne h2
          | false => simp
        rw [e1, show j - i = (j - (i + 1)) + 1 by omega, List.getElem?_cons_succ]
        simp [h, show i + 1 ≤ j by omega]
    · have e1 : (cond (p x) (2 ^ i) 0).testBit j = false := by
        cases p x with
        | true => exact Nat.testBit_two_pow_of_ne (by omega)
        | false => simp
      rw [e1]
      simp [h, show ¬ i + 1 ≤ j by omega]
theorem setOf_lt {α : Type} (p : α → Bool) : ∀ (l : List α) (i n : Nat), i + l.length ≤ n → setOf p i l < 2 ^ n
  | [], i, n, _ => Nat.two_pow_pos n
  | x :: l, i, n, h => by
    simp only [List.length_cons] at h
    refine Nat.or_lt_two_pow ?_ (setOf_lt p l (i + 1) n (by omega))
    cases p x with
    | true => exact Nat.pow_lt_pow_right (by omega) (by omega)
    | false => exact Nat.two_pow_pos n
def inB (mark : Nat) (x : Int) (r : Rule) : Bool := (decide ((bandAt r mark).Lo ≤ x)) && (decide (x < (bandAt r mark).Hi))
def fitsN (t : List Rule) (mark : Nat) (x : Int) : Nat := setOf (inB mark x) 0 t
theorem idx_band {r : Rule} {mark : Nat} (h : mark < r.Bands.length) : idx r.Bands (mark : Int) = some (bandAt r mark) := by
  rw [idx_at (by omega) (by omega), Int.toNat_natCast]; rfl
theorem fits_loop (t : List Rule) (mark : Nat) (x : Int) (ht : t.length ≤ 24) (hm : ∀ r ∈ t, mark < r.Bands.length) : ∀ (n i : Nat) (out : Nat), n = t.length - i → out < 2 ^ 24 → iter (m_tariff_fits_l1 t (mark : Int) x) ((out : Int), (i : Int)) = some ((out ||| setOf (inB mark x) i (t.drop i) : Nat) : Int)
  | 0, i, out, hn, ho => by
    have h1 : decide ((i : Int) < (t.length : Int)) = false := by simp; omega
    rw [drop_all (t) (by omega)]
    refine iter_done ?_
    unfold m_tariff_fits_l1
    simp only [h1, cond_false, setOf, Nat.or_zero]
  | n + 1, i, out, hn, ho => by
    have hi : i < t.length := by omega
    have h1 : decide ((i : Int) < (t.length : Int)) = true := by simp; omega
    have h2 : idx t (i : Int) = some t[i] := by unfold idx; simp [hi]
    have hmi := hm t[i] (List.getElem_mem hi)
    have hp : (2 : Nat) ^ i < 2 ^ 24 := Nat.pow_lt_pow_right (by omega) (by omega)
    rw [List.drop_eq_getElem_cons hi, setOf]
    have ho2 : out ||| cond (inB mark x t[i]) (2 ^ i) 0 < 2 ^ 24 := Nat.or_lt_two_pow ho (by cases inB mark x t[i] <;> simp <;> omega)
    have ih := fits_loop t mark x ht hm n (i + 1) (out ||| cond (inB mark x t[i]) (2 ^ i) 0) (by omega) ho2
    rw [Nat.or_assoc] at ih
    refine iter_step ?_ ih
    unfold m_tariff_fits_l1
    simp only [h1, cond_true, h2, Option.bind_some, idx_band hmi]
    have e : ((decide ((bandAt t[i] mark).Lo ≤ x)) && (decide (x < (bandAt t[i] mark).Hi))) = inB mark x t[i] := rfl
    rw [e, wrap_i64_eq (by omega)]
    cases inB mark x t[i] with
    | true =>
      simp only [cond_true]
      rw [guardO_pos (by omega), pow_u32 (by omega), or_u32 (by omega) (by omega)]
      rfl
    | false => simp only [cond_false, Nat.or_zero, Option.bind_some]; rfl
theorem fits_eq (t : List Rule) (mark : Nat) (x : Int) (ht : t.length ≤ 24) (hm : ∀ r ∈ t, mark < r.Bands.length) : m_tariff_fits t (mark : Int) x = some (fitsN t mark x : Int) := by
  unfold m_tariff_fits
  have h := fits_loop t mark x ht hm t.length 0 0 (by omega) (by omega)
  rw [Nat.zero_or, List.drop_zero, show (((0 : Nat) : Int), ((0 : Nat) : Int)) = ((0 : Int), (0 : Int)) from rfl] at h
  rw [h]; rfl
end Go.Pv

namespace Go.Pv
def firstFrom (a : Nat) : Nat → Nat → Option Nat
  | _, 0 => none
  | i, n + 1 => cond (a.testBit i) (some i) (firstFrom a (i + 1) n)
def firstN (a : Nat) : Int := match firstFrom a 0 24 with | some i => (i : Int) | none => -1
theorem setFirst_loop (a : Nat) (ha : a < 4294967296) : ∀ (n i : Nat), n = 24 - i → iter (m_tariff_set_first_l1 (a : Int)) (i : Int) = some (match firstFrom a i n with | some j => .inr (j : Int) | none => .inl ())
  | 0, i, hn => by
    refine iter_done ?_
    unfold m_tariff_set_first_l1
    rw [decide_eq_false (by omega)]; rfl
  | n + 1, i, hn => by
    rw [iter_eq]
    have hf : m_tariff_set_first_l1 (a : Int) (i : Int) = cond (a.testBit i) (some (.inr (.inr (i : Int)))) (some (.inl ((i + 1 : Nat) : Int))) := by
      unfold m_tariff_set_first_l1
      rw [decide_eq_true (by omega), cond_true, guardO_pos (by omega), bit_prog ha (by omega), wrap_i64_eq (by omega)]
      rfl
    rw [hf]
    simp only [firstFrom]
    cases a.testBit i with
    | true => rfl
    | false => exact setFirst_loop a ha n (i + 1) (by omega)
theorem setFirst_eq (a : Nat) (ha : a < 4294967296) : m_tariff_set_first (a : Int) = some (firstN a) := by
  unfold m_tariff_set_first firstN
  have h := setFirst_loop a ha 24 0 (by omega)
  rw [show ((0 : Nat) : Int) = 0 from rfl] at h
  rw [h]
  cases firstFrom a 0 24 <;> rfl
def codeN (t : List Rule) (a : Nat) : Int := if firstN a < 0 then -1 else (t.getD (firstN a).toNat default).Code
theorem firstFrom_bit {a : Nat} : ∀ {n i j : Nat}, firstFrom a i n = some j → a.testBit j = true ∧ j < i + n
  | 0, i, j, h => by cases h
  | n + 1, i, j, h => by
    simp only [firstFrom] at h
    cases hb : a.testBit i with
    | true => rw [hb] at h; cases h; exact ⟨hb, by omega⟩
    | false =>
      rw [hb] at h
      obtain ⟨h1, h2⟩ := firstFrom_bit (n := n) h
      exact ⟨h1, by omega⟩
theorem firstN_lt {a n : Nat} (ha : a < 2 ^ n) (h : ¬ firstN a < 0) : (firstN a).toNat < n := by
  unfold firstN at h ⊢
  cases hf : firstFrom a 0 24 with
  | none => rw [hf] at h; exact absurd (by decide) h
  | some j =>
    obtain ⟨h1, _⟩ := firstFrom_bit hf
    simp only [Int.toNat_natCast]
    refine Nat.lt_of_not_le fun hge => ?_
    have : a < 2 ^ j := Nat.lt_of_lt_of_le ha (Nat.pow_le_pow_right (by omega) hge)
    rw [Nat.testBit_lt_two_pow this] at h1
    cases h1
theorem code_prog (t : List Rule) (a : Nat) (ha : a < 2 ^ t.length) : m_tariff_differ_1 t (firstN a) = some (codeN t a) := by
  unfold m_tariff_differ_1 codeN
  by_cases h : firstN a < 0
  · rw [decide_eq_true h, if_pos h]; rfl
  · have := firstN_lt ha h
    rw [decide_eq_false h, if_neg h, cond_false, idx_at (by omega) (by omega)]; rfl
def allN (t : List Rule) : Nat := 2 ^ t.length - 1
theorem allN_lt (t : List Rule) : allN t < 2 ^ t.length := by
  have := Nat.two_pow_pos t.length
  unfold allN; omega
theorem all_prog (t : List Rule) (ht : t.length ≤ 24) : m_tariff_all t = some (allN t : Int) := by
  unfold m_tariff_all allN
  have h1 : 2 ^ t.length ≤ 2 ^ 24 := Nat.pow_le_pow_right (by omega) ht
  have h2 := Nat.two_pow_pos t.length
  rw [guardO_pos (by omega), pow_u32 (by omega)]
  generalize (2 : Nat) ^ t.length = q at h1 h2
  rw [wrap_u32_eq (by omega)]
  congr 1; omega
end Go.Pv

set_option linter.unusedSimpArgs false
set_option linter.unusedVariables false
namespace Go.Pv
open Go.Lib
theorem compact_sorted {s : List Int} (hs : s.Pairwise (· ≤ ·)) : (compactI s).Pairwise (· < ·) ∧ ∀ x, x ∈ compactI s ↔ x ∈ s := by
  have hle : ∀ i j : Nat, i ≤ j → j < s.length → s.toArray[i]! ≤ s.toArray[j]! := fun i j hij hj => by
    have h1 : s.toArray[i]! = s[i]'(by omega) := by simp [show i < s.length by omega]
    have h2 : s.toArray[j]! = s[j] := by simp [hj]
    rw [h1, h2]
    rcases Nat.lt_or_ge i j with h | h
    · exact List.pairwise_iff_getElem.1 hs i j (by omega) hj h
    · have : i = j := by omega
      subst this; exact Int.le_refl _
  have key : ∀ m : Nat, m ≤ s.length → (compactUpTo s.toArray m).Pairwise (· < ·) ∧ (∀ x ∈ compactUpTo s.toArray m, ∃ j, j < m ∧ x = s.toArray[j]!) ∧ ∀ j, j < m → s.toArray[j]! ∈ compactUpTo s.toArray m := by
    intro m
    induction m with
    | zero => intro _; exact ⟨by simp [compactUpTo], fun x hx => by simp [compactUpTo] at hx, fun j hj => absurd hj (by omega)⟩
    | succ m ih =>
      intro hm
      obtain ⟨h1, h2, h3⟩ := ih (by omega)
      rw [compactUpTo_succ]
      cases hk : keeps s.toArray m with
      | true =>
        simp only [if_true]
        refine ⟨?_, fun x hx => ?_, fun j hj => ?_⟩
        · rw [List.pairwise_append]
          refine ⟨h1, by simp, fun x hx y hy => ?_⟩
          have hy := List.mem_singleton.1 hy
          obtain ⟨j, hj, e⟩ := h2 x hx
          simp only [keeps, decide_eq_true_eq] at hk
          have a1 := hle j (m - 1) (by omega) (by omega)
          have a2 := hle (m - 1) m (by omega) (by omega)
          rw [e, hy]
          rcases hk with h | h
          · omega
          · omega
        · rcases List.mem_append.1 hx with h | h
          · obtain ⟨j, hj, e⟩ := h2 x h
            exact ⟨j, by omega, e⟩
          · simp only [List.mem_singleton] at h
            exact ⟨m, by omega, h⟩
        · rcases Nat.lt_or_ge j m with h | h
          · exact List.mem_append_left _ (h3 j h)
          · have : j = m := by omega
            subst this
            exact List.mem_append_right _ (List.mem_singleton.2 rfl)
      | false =>
        simp only [Bool.false_eq_true, if_false, List.append_nil]
        refine ⟨h1, fun x hx => ?_, fun j hj => ?_⟩
        · obtain ⟨j, hj, e⟩ := h2 x hx
          exact ⟨j, by omega, e⟩
        · rcases Nat.lt_or_ge j m with h | h
          · exact h3 j h
          · have : j = m := by omega
            subst this
            simp only [keeps, decide_eq_false_iff_not] at hk
            have e : s.toArray[j]! = s.toArray[j - 1]! := by
              refine Classical.byContradiction fun h => hk (.inr h)
            rw [e]
            refine h3 (j - 1) ?_
            have : j ≠ 0 := fun h => hk (.inl h)
            omega
  obtain ⟨h1, h2, h3⟩ := key s.length (Nat.le_refl _)
  unfold compactI compact
  refine ⟨h1, fun x => ⟨fun hx => ?_, fun hx => ?_⟩⟩
  · obtain ⟨j, hj, e⟩ := h2 x hx
    rw [e, show s.toArray[j]! = s[j] by simp [hj]]
    exact List.getElem_mem hj
  · obtain ⟨j, hj, rfl⟩ := List.getElem_of_mem hx
    rw [show s[j] = s.toArray[j]! by simp [hj]]
    exact h3 j hj
theorem sortI_perm (l : List Int) : (sortI l).Perm l := by unfold sortI; exact List.mergeSort_perm l _
theorem sortI_sorted (l : List Int) : (sortI l).Pairwise (· ≤ ·) := by
  unfold sortI
  have := List.pairwise_mergeSort (le := fun x y : Int => decide (x ≤ y)) (fun a b c h1 h2 => by simp at *; omega) (fun a b => by simp; omega) l
  simpa using this
theorem cut_take (l : List Int) : List.take ((compactI l).length) (compactP l) = compactI l := by
  unfold compactP; simp
def endsOf (mark : Nat) (t : List Rule) : List Int := t.flatMap fun r => [(bandAt r mark).Lo, (bandAt r mark).Hi]
theorem endsOf_len (mark : Nat) : ∀ t : List Rule, (endsOf mark t).length = 2 * t.length
  | [] => rfl
  | r :: t => by
    have := endsOf_len mark t
    unfold endsOf at this ⊢
    simp only [List.flatMap_cons, List.length_append, List.length_cons, List.length_nil, this]; omega
theorem cuts_loop2 (mark : Nat) (t : List Rule) (ht : t.length ≤ 24) (hm : ∀ r ∈ t, mark < r.Bands.length) : ∀ (n i : Nat) (L : List Int), n = t.length - i → L.length + 2 * n ≤ 1000 → iter (m_tariff_cuts_l2 (mark : Int) t) ((i : Int), L) = some (L ++ endsOf mark (t.drop i))
  | 0, i, L, hn, hL => by
    rw [drop_all (t) (by omega)]
    refine iter_done ?_
    unfold m_tariff_cuts_l2
    dsimp only
    rw [decide_eq_false (by omega)]
    simp [endsOf]
  | n + 1, i, L, hn, hL => by
    have hi : i < t.length := by omega
    have h2 : idx t (i : Int) = some t[i] := by unfold idx; simp [hi]
    have hmi := hm t[i] (List.getElem_mem hi)
    have ih := cuts_loop2 mark t ht hm n (i + 1) (L ++ [(bandAt t[i] mark).Lo, (bandAt t[i] mark).Hi]) (by omega) (by simp; omega)
    rw [List.append_assoc] at ih
    rw [List.drop_eq_getElem_cons hi]
    refine iter_step ?_ ih
    unfold m_tariff_cuts_l2
    dsimp only
    rw [decide_eq_true (by omega), cond_true, h2]
    simp only [Option.bind_some, idx_band hmi]
    rw [guardO_pos (by simp; omega), wrap_i64_eq (by omega)]
    rfl
theorem cuts_loop1 (mark : Nat) (ts : List (List Rule)) (hts : ts.length ≤ 2) (ht : ∀ t ∈ ts, t.length ≤ 24 ∧ ∀ r ∈ t, mark < r.Bands.length) : ∀ (n i : Nat) (L : List Int), n = ts.length - i → L.length + 48 * n ≤ 900 → iter (m_tariff_cuts_l1 (mark : Int) ts) ((i : Int), L) = some (L ++ (ts.drop i).flatMap (endsOf mark))
  | 0, i, L, hn, hL => by
    rw [drop_all (ts) (by omega)]
    refine iter_done ?_
    unfold m_tariff_cuts_l1
    dsimp only
    rw [decide_eq_false (by omega)]
    simp
  | n + 1, i, L, hn, hL => by
    have hi : i < ts.length := by omega
    have h2 : idx ts (i : Int) = some ts[i] := by unfold idx; simp [hi]
    obtain ⟨hl, hmi⟩ := ht ts[i] (List.getElem_mem hi)
    have hlen := endsOf_len mark ts[i]
    have ih := cuts_loop1 mark ts hts ht n (i + 1) (L ++ endsOf mark ts[i]) (by omega) (by simp; omega)
    rw [List.append_assoc] at ih
    rw [List.drop_eq_getElem_cons hi]
    refine iter_step ?_ ih
    unfold m_tariff_cuts_l1
    dsimp only
    have h3 := cuts_loop2 mark ts[i] hl hmi ts[i].length 0 L (by omega) (by omega)
    rw [show ((0 : Nat) : Int) = 0 from rfl, List.drop_zero] at h3
    rw [decide_eq_true (by omega), cond_true, h2]
    simp only [Option.bind_some]
    rw [h3, wrap_i64_eq (by omega)]
    rfl
structure Cuts (mark : Nat) (ts : List (List Rule)) (cs : List Int) : Prop where
  up : cs.Pairwise (· < ·)
  pos : ∀ c ∈ cs, 0 < c ∧ c ≤ 1000
  last : (1000 : Int) ∈ cs
  lo : ∀ t ∈ ts, ∀ r ∈ t, 0 < (bandAt r mark).Lo → (bandAt r mark).Lo ∈ cs
  hi : ∀ t ∈ ts, ∀ r ∈ t, (bandAt r mark).Hi ∈ cs
theorem cuts_prog (mark : Nat) (ts : List (List Rule)) (hts : ts.length ≤ 2) (ht : ∀ t ∈ ts, t.length ≤ 24 ∧ ∀ r ∈ t, mark < r.Bands.length) (hb : ∀ t ∈ ts, ∀ r ∈ t, 0 ≤ (bandAt r mark).Lo ∧ (bandAt r mark).Lo < (bandAt r mark).Hi ∧ (bandAt r mark).Hi ≤ 1000) :
    ∃ cs, m_tariff_cuts (mark : Int) ts = some cs ∧ Cuts mark ts cs ∧ cs.length ≤ 97 := by
  unfold m_tariff_cuts
  have h1 := cuts_loop1 mark ts hts ht ts.length 0 [1000] (by omega) (by simp; omega)
  rw [show ((0 : Nat) : Int) = 0 from rfl, List.drop_zero] at h1
  rw [h1]
  simp only [Option.bind_some]
  generalize hL : [1000] ++ ts.flatMap (endsOf mark) = L
  have hlen : L.length ≤ 97 := by
    rw [← hL]
    have : ∀ l : List (List Rule), (∀ t ∈ l, t.length ≤ 24) → (l.flatMap (endsOf mark)).length ≤ 48 * l.length := fun l => by
      induction l with
      | nil => simp
      | cons t l ih =>
        intro h
        have a := ih fun t ht => h t (List.mem_cons_of_mem _ ht)
        have b := endsOf_len mark t
        have c := h t (List.mem_cons_self ..)
        simp only [List.flatMap_cons, List.length_append, List.length_cons]; omega
    have := this ts fun t h => (ht t h).1
    simp only [List.length_append, List.length_cons, List.length_nil]; omega
  have hmem : ∀ x, x ∈ L ↔ x = 1000 ∨ ∃ t ∈ ts, ∃ r ∈ t, x = (bandAt r mark).Lo ∨ x = (bandAt r mark).Hi := fun x => by
    rw [← hL]
    simp [endsOf]
  have hge : ∀ x ∈ L, 0 ≤ x ∧ x ≤ 1000 := fun x hx => by
    rcases (hmem x).1 hx with rfl | ⟨t, ht1, r, hr, h | h⟩
    · omega
    · have := hb t ht1 r hr; omega
    · have := hb t ht1 r hr; omega
  rw [guardO_pos (by omega), guardO_pos (by rw [sortI_length]; omega), cut_take]
  obtain ⟨hup, hcm⟩ := compact_sorted (sortI_sorted L)
  have hcm2 : ∀ x, x ∈ compactI (sortI L) ↔ x ∈ L := fun x => (hcm x).trans (sortI_perm L).mem_iff
  have hcl : (compactI (sortI L)).length ≤ L.length := by
    refine Nat.le_trans ?_ (Nat.le_of_eq (sortI_length L))
    unfold compactI Go.Lib.compact compactUpTo
    rw [List.length_map]
    exact Nat.le_trans (List.length_filter_le _ _) (by simp)
  have h1000 : (1000 : Int) ∈ compactI (sortI L) := (hcm2 _).2 ((hmem _).2 (.inl rfl))
  generalize compactI (sortI L) = C at hup hcm2 hcl h1000
  cases C with
  | nil => simp at h1000
  | cons c C =>
    have e0 : idx (c :: C) 0 = some c := rfl
    rw [e0]
    simp only [Option.bind_some]
    rw [List.pairwise_cons] at hup
    by_cases hc : c = 0
    · subst hc
      rw [decide_eq_true rfl, cond_true, guardO_pos (by simp; omega)]
      have e1 : ((0 :: C).drop 1).take (((((0 : Int) :: C).length : Int)) - 1).toNat = C := by
        simp
      rw [e1]
      refine ⟨C, rfl, ⟨hup.2, fun x hx => ⟨hup.1 x hx, (hge x ((hcm2 x).1 (List.mem_cons_of_mem _ hx))).2⟩, ?_, fun t h1 r h2 h3 => ?_, fun t h1 r h2 => ?_⟩, by simp at hcl; omega⟩
      · rcases List.mem_cons.1 h1000 with h | h
        · omega
        · exact h
      · rcases List.mem_cons.1 ((hcm2 _).2 ((hmem _).2 (.inr ⟨t, h1, r, h2, .inl rfl⟩))) with h | h
        · omega
        · exact h
      · rcases List.mem_cons.1 ((hcm2 _).2 ((hmem _).2 (.inr ⟨t, h1, r, h2, .inr rfl⟩))) with h | h
        · have := hb t h1 r h2; omega
        · exact h
    · rw [decide_eq_false hc, cond_false]
      have hc0 := hge c ((hcm2 c).1 (List.mem_cons_self ..))
      refine ⟨c :: C, rfl, ⟨List.pairwise_cons.2 hup, fun x hx => ⟨?_, (hge x ((hcm2 x).1 hx)).2⟩, h1000, fun t h1 r h2 h3 => (hcm2 _).2 ((hmem _).2 (.inr ⟨t, h1, r, h2, .inl rfl⟩)), fun t h1 r h2 => (hcm2 _).2 ((hmem _).2 (.inr ⟨t, h1, r, h2, .inr rfl⟩))⟩, by omega⟩
      rcases List.mem_cons.1 hx with rfl | hx
      · omega
      · have := hup.1 x hx; omega
end Go.Pv

namespace Go.Pv
def endS (t : List Rule) : Nat → Nat → List Int → Nat
  | _, a, [] => a
  | mark, a, x :: xs => endS t (mark + 1) (a &&& fitsN t mark x) xs
def Pts (n : Nat) (xs : List Int) : Prop := xs.length = n ∧ ∀ x ∈ xs, 0 ≤ x ∧ x < 1000
def lexLe : List Int → List Int → Prop
  | [], _ => True
  | _ :: _, [] => False
  | x :: xs, y :: ys => x < y ∨ (x = y ∧ lexLe xs ys)
theorem lexLe_anti : ∀ {xs ys : List Int}, xs.length = ys.length → lexLe xs ys → lexLe ys xs → xs = ys
  | [], [], _, _, _ => rfl
  | [], _ :: _, h, _, _ => by simp at h
  | _ :: _, [], h, _, _ => by simp at h
  | x :: xs, y :: ys, h, h1, h2 => by
    simp only [lexLe] at h1 h2
    have e : x = y := by omega
    subst e
    have h3 : lexLe xs ys := by rcases h1 with h1 | h1; · omega
                                exact h1.2
    have h4 : lexLe ys xs := by rcases h2 with h2 | h2; · omega
                                exact h2.2
    rw [lexLe_anti (by simpa using h) h3 h4]
structure Ans (s t : List Rule) (P : Nat → Nat → Bool) (mark n a b : Nat) (f : Bool) (xs : List Int) : Prop where
  hit : f = true → Pts n xs ∧ P (endS s mark a xs) (endS t mark b xs) = true ∧ ∀ ys, Pts n ys → P (endS s mark a ys) (endS t mark b ys) = true → lexLe xs ys
  miss : f = false → xs = [] ∧ ∀ ys, Pts n ys → P (endS s mark a ys) (endS t mark b ys) = false
theorem Ans.uniq {s t : List Rule} {P : Nat → Nat → Bool} {mark n a b : Nat} {f g : Bool} {xs ys : List Int} (h : Ans s t P mark n a b f xs) (h' : Ans s t P mark n a b g ys) : f = g ∧ xs = ys := by
  cases f with
  | true =>
    obtain ⟨h1, h2, h3⟩ := h.hit rfl
    cases g with
    | true =>
      obtain ⟨g1, g2, g3⟩ := h'.hit rfl
      exact ⟨rfl, lexLe_anti (h1.1.trans g1.1.symm) (h3 _ g1 g2) (g3 _ h1 h2)⟩
    | false =>
      have := (h'.miss rfl).2 _ h1
      rw [h2] at this; cases this
  | false =>
    obtain ⟨h1, h2⟩ := h.miss rfl
    cases g with
    | true =>
      obtain ⟨g1, g2, g3⟩ := h'.hit rfl
      have := h2 _ g1
      rw [g2] at this; cases this
    | false => exact ⟨rfl, h1.trans (h'.miss rfl).1.symm⟩
def CutsIn (mark : Nat) (t : List Rule) (a : Nat) (cs : List Int) : Prop :=
  ∀ (i : Nat) (r : Rule), t[i]? = some r → a.testBit i = true → (0 < (bandAt r mark).Lo → (bandAt r mark).Lo ∈ cs) ∧ (bandAt r mark).Hi ∈ cs
theorem fits_piece {mark : Nat} {t : List Rule} {a : Nat} {cs : List Int} (h : CutsIn mark t a cs) {u x : Int} (h0 : 0 ≤ u) (hu : u ≤ x) (hc : ∀ c ∈ cs, ¬ (u < c ∧ c ≤ x)) : a &&& fitsN t mark x = a &&& fitsN t mark u := by
  apply Nat.eq_of_testBit_eq
  intro j
  rw [Nat.testBit_and, Nat.testBit_and]
  unfold fitsN
  rw [setOf_bit, setOf_bit]
  cases hb : a.testBit j with
  | false => simp
  | true =>
    cases ht : t[j]? with
    | none => simp [ht]
    | some r =>
      obtain ⟨h1, h2⟩ := h j r ht hb
      have e : inB mark x r = inB mark u r := by
        unfold inB
        have e1 : decide ((bandAt r mark).Lo ≤ x) = decide ((bandAt r mark).Lo ≤ u) := by
          rw [decide_eq_decide]
          constructor
          · intro h3
            refine Int.not_lt.1 fun h4 => ?_
            exact hc _ (h1 (by omega)) ⟨h4, h3⟩
          · intro h3; omega
        have e2 : decide (x < (bandAt r mark).Hi) = decide (u < (bandAt r mark).Hi) := by
          rw [decide_eq_decide]
          constructor
          · intro h3; omega
          · intro h3
            refine Int.not_le.1 fun h4 => ?_
            exact hc _ h2 ⟨h3, h4⟩
        rw [e1, e2]
      simp [ht, e]
def pieceL {σ : Type} (rec : σ → Int → Option (List Int × Bool × σ)) : Int → List Int → σ → Option (σ ⊕ (List Int × Bool × σ))
  | _, [], M => some (.inl M)
  | u, c :: cs, M => (rec M u).bind fun r => cond r.2.1 (guardO (1 + r.1.length ≤ 4294967296) (some (.inr (u :: r.1, true, r.2.2)))) (pieceL rec c cs r.2.2)
theorem piece_ok {σ : Type} {rec : σ → Int → Option (List Int × Bool × σ)} {s t : List Rule} {P : Nat → Nat → Bool} {mark n a b : Nat} (J : σ → Prop) (sz : σ → Nat) (B C : Nat) (hn : n ≤ 1000) {all : List Int} (hs : CutsIn mark s a all) (ht : CutsIn mark t b all)
    (hrec : ∀ M u, J M → sz M + B ≤ C → 0 ≤ u → u < 1000 → ∃ xs f M', rec M u = some (xs, f, M') ∧ J M' ∧ sz M' ≤ sz M + B ∧ Ans s t P (mark + 1) n (a &&& fitsN s mark u) (b &&& fitsN t mark u) f xs) :
    ∀ (cs : List Int) (u : Int) (M : σ), J M → sz M + cs.length * B ≤ C → 0 ≤ u → (u :: cs).Pairwise (· < ·) → (∀ c ∈ all, u < c → c ∈ cs) → (∀ c ∈ cs, c ≤ 1000) → (u < 1000 → (1000 : Int) ∈ cs) → (u = 1000 ∨ u < 1000) → (∀ y ys, 0 ≤ y → y < u → Pts n ys → P (endS s mark a (y :: ys)) (endS t mark b (y :: ys)) = false) →
      ∃ r, pieceL rec u cs M = some r ∧ match r with
        | .inl M' => J M' ∧ sz M' ≤ sz M + cs.length * B ∧ Ans s t P mark (n + 1) a b false []
        | .inr (xs, f, M') => f = true ∧ J M' ∧ sz M' ≤ sz M + cs.length * B ∧ Ans s t P mark (n + 1) a b true xs
  | [], u, M, hJ, hsz, h0, hup, hall, hle, hmem, hu, hno => by
    have hu : u = 1000 := by
      rcases hu with h | h
      · exact h
      · have := hmem h; simp at this
    refine ⟨.inl M, rfl, hJ, by simp, ⟨(fun h => by cases h), fun _ => ⟨rfl, fun ys hys => ?_⟩⟩⟩
    cases ys with
    | nil => have := hys.1; simp at this
    | cons y ys =>
      have hy := hys.2 y (List.mem_cons_self ..)
      exact hno y ys hy.1 (by omega) ⟨by have := hys.1; simpa using this, fun x hx => hys.2 x (List.mem_cons_of_mem _ hx)⟩
  | c :: cs, u, M, hJ, hsz, h0, hup, hall, hle, hmem, hu, hno => by
    rw [List.pairwise_cons] at hup
    have huc : u < c := hup.1 c (List.mem_cons_self ..)
    have hc1000 := hle c (List.mem_cons_self ..)
    have hup2 := hup.2
    rw [List.pairwise_cons] at hup2
    have hlen : (c :: cs).length * B = cs.length * B + B := by rw [List.length_cons, Nat.succ_mul]
    rw [hlen] at hsz
    obtain ⟨xs, f, M', h1, h2, h3, h4⟩ := hrec M u hJ (by omega) h0 (by omega)
    have hpiece : ∀ y, u ≤ y → y < c → (a &&& fitsN s mark y = a &&& fitsN s mark u) ∧ (b &&& fitsN t mark y = b &&& fitsN t mark u) := fun y hy1 hy2 => by
      have hcs : ∀ d ∈ all, ¬ (u < d ∧ d ≤ y) := fun d hd ⟨g1, g2⟩ => by
        rcases List.mem_cons.1 (hall d hd g1) with rfl | hm
        · omega
        · have := hup2.1 d hm; omega
      exact ⟨fits_piece hs h0 hy1 hcs, fits_piece ht h0 hy1 hcs⟩
    simp only [pieceL, h1, Option.bind_some]
    cases f with
    | true =>
      obtain ⟨k1, k2, k3⟩ := h4.hit rfl
      refine ⟨.inr (u :: xs, true, M'), by rw [cond_true, guardO_pos (by rw [k1.1]; omega)], rfl, h2, by rw [hlen]; omega, ⟨fun _ => ⟨⟨by simp [k1.1], fun x hx => ?_⟩, k2, fun ys hys hP => ?_⟩, fun h => by cases h⟩⟩
      · rcases List.mem_cons.1 hx with rfl | hx
        · exact ⟨h0, by omega⟩
        · exact k1.2 x hx
      · cases ys with
        | nil => have := hys.1; simp at this
        | cons y ys =>
          have hy := hys.2 y (List.mem_cons_self ..)
          have hys2 : Pts n ys := ⟨by have := hys.1; simpa using this, fun x hx => hys.2 x (List.mem_cons_of_mem _ hx)⟩
          simp only [lexLe]
          by_cases hyu : y < u
          · rw [hno y ys hy.1 hyu hys2] at hP; cases hP
          · by_cases hyu2 : u = y
            · subst hyu2
              exact .inr ⟨rfl, k3 ys hys2 hP⟩
            · exact .inl (by omega)
    | false =>
      obtain ⟨k1, k2⟩ := h4.miss rfl
      have hno2 : ∀ y ys, 0 ≤ y → y < c → Pts n ys → P (endS s mark a (y :: ys)) (endS t mark b (y :: ys)) = false := fun y ys hy0 hyc hys => by
        by_cases hyu : y < u
        · exact hno y ys hy0 hyu hys
        · obtain ⟨g1, g2⟩ := hpiece y (by omega) hyc
          have := k2 ys hys
          simp only [endS, g1, g2]
          exact this
      obtain ⟨r, hr1, hr2⟩ := piece_ok J sz B C hn hs ht hrec cs c M' h2 (by omega) (by omega) hup.2 (fun d hd hcd => by
        rcases List.mem_cons.1 (hall d hd (by omega)) with rfl | hm
        · omega
        · exact hm) (fun d hd => hle d (List.mem_cons_of_mem _ hd)) (fun hc => by
        rcases List.mem_cons.1 (hmem (by omega)) with h | h
        · omega
        · exact h) (by omega) hno2
      refine ⟨r, hr1, ?_⟩
      cases r with
      | inl M2 => exact ⟨hr2.1, by rw [hlen]; have := hr2.2.1; omega, hr2.2.2⟩
      | inr q =>
        obtain ⟨xs2, f2, M2⟩ := q
        exact ⟨hr2.1, hr2.2.1, by rw [hlen]; have := hr2.2.2.1; omega, hr2.2.2.2⟩
end Go.Pv

namespace Go.Pv
theorem loop_piece {σ : Type} {rec : σ → Int → Option (List Int × Bool × σ)} {cs : List Int} {f : (Int × Int × σ) → Option ((Int × Int × σ) ⊕ (σ ⊕ (List Int × Bool × σ)))}
    (hf : ∀ u (v : Nat) M e, v < cs.length → idx cs (v : Int) = some e → f (u, (v : Int), M) = (rec M u).bind fun r => cond r.2.1 (guardO (1 + r.1.length ≤ 4294967296) (some (.inr (.inr (u :: r.1, true, r.2.2))))) (some (.inl (e, ((v + 1 : Nat) : Int), r.2.2))))
    (hend : ∀ u M, f (u, (cs.length : Int), M) = some (.inr (.inl M))) : ∀ (n v : Nat) (u : Int) (M : σ), n = cs.length - v → v ≤ cs.length → iter f (u, (v : Int), M) = pieceL rec u (cs.drop v) M
  | 0, v, u, M, hn, hv => by
    have : v = cs.length := by omega
    subst this
    rw [iter_done (hend u M), drop_all cs (Nat.le_refl _)]; rfl
  | n + 1, v, u, M, hn, hv => by
    have hv : v < cs.length := by omega
    have e1 : idx cs (v : Int) = some cs[v] := by unfold idx; simp [hv]
    rw [iter_eq, hf u v M cs[v] hv e1, List.drop_eq_getElem_cons hv]
    simp only [pieceL]
    cases rec M u with
    | none => rfl
    | some r =>
      simp only [Option.bind_some]
      cases r.2.1 with
      | true =>
        simp only [cond_true]
        unfold guardO
        split <;> rfl
      | false => exact loop_piece hf hend n (v + 1) cs[v] r.2.2 (by omega) (by omega)
def MemoOk (s t : List Rule) (P : Nat → Nat → Bool) (k : Nat) (M : List (Arr3_Int × Bool)) : Prop :=
  ∀ mark a b : Nat, mark ≤ k → mget (⟨(mark : Int), (a : Int), (b : Int)⟩ : Arr3_Int) M = some true → Ans s t P mark (k - mark) a b false []
def afterP (key : Arr3_Int) : (List (Arr3_Int × Bool)) ⊕ (List Int × Bool × List (Arr3_Int × Bool)) → Option (List Int × Bool × List (Arr3_Int × Bool))
  | .inl M => some ([], false, mset key true M)
  | .inr r => some r
theorem cutsIn_of {mark : Nat} {ts : List (List Rule)} {t : List Rule} {a : Nat} {cs : List Int} (h : Cuts mark ts cs) (ht : t ∈ ts) : CutsIn mark t a cs := fun i r hr _ => by
  have hm : r ∈ t := List.mem_of_getElem? hr
  exact ⟨h.lo t ht r hm, h.hi t ht r hm⟩
theorem walk_ok {s t : List Rule} {P : Nat → Nat → Bool} {k : Nat} (hk : k ≤ 4) {F : Nat → List (Arr3_Int × Bool) → Int → Int → Int → Option (List Int × Bool × List (Arr3_Int × Bool))} {cs : Nat → List Int} (hcs : ∀ mark, mark < k → Cuts mark [s, t] (cs mark))
    (hF : ∀ n M (mark a b : Nat), mark ≤ k → a < 2 ^ s.length → b < 2 ^ t.length → F (n + 1) M (mark : Int) (a : Int) (b : Int) = if mark = k then some ([], P a b, M) else
      cond ((mget (⟨(mark : Int), (a : Int), (b : Int)⟩ : Arr3_Int) M).getD false) (some ([], false, M))
        ((pieceL (fun M u => F n M ((mark + 1 : Nat) : Int) ((a &&& fitsN s mark u : Nat) : Int) ((b &&& fitsN t mark u : Nat) : Int)) 0 (cs mark) M).bind (afterP ⟨(mark : Int), (a : Int), (b : Int)⟩))) :
    ∀ (d n : Nat) M (mark a b : Nat), k - mark = d → d < n → mark ≤ k → a < 2 ^ s.length → b < 2 ^ t.length → MemoOk s t P k M → ∃ xs f M', F n M (mark : Int) (a : Int) (b : Int) = some (xs, f, M') ∧ MemoOk s t P k M' ∧ Ans s t P mark (k - mark) a b f xs
  | d, 0, M, mark, a, b, hd, hn, hm, ha, hb, hM => by omega
  | 0, n + 1, M, mark, a, b, hd, hn, hm, ha, hb, hM => by
    have : mark = k := by omega
    rw [hF n M mark a b hm ha hb, if_pos this]
    refine ⟨_, _, _, rfl, hM, ?_⟩
    rw [hd]
    refine ⟨fun h => ⟨⟨rfl, fun x hx => by cases hx⟩, h, fun ys _ _ => trivial⟩, fun h => ⟨rfl, fun ys hys => ?_⟩⟩
    have : ys = [] := List.length_eq_zero_iff.1 hys.1
    subst this; exact h
  | d + 1, n + 1, M, mark, a, b, hd, hn, hm, ha, hb, hM => by
    have hne : mark ≠ k := by omega
    rw [hF n M mark a b hm ha hb, if_neg hne]
    cases hmem : (mget (⟨(mark : Int), (a : Int), (b : Int)⟩ : Arr3_Int) M).getD false with
    | true =>
      have h1 : mget (⟨(mark : Int), (a : Int), (b : Int)⟩ : Arr3_Int) M = some true := by
        cases hg : mget (⟨(mark : Int), (a : Int), (b : Int)⟩ : Arr3_Int) M with
        | none => rw [hg] at hmem; cases hmem
        | some v => rw [hg] at hmem; have : v = true := hmem; rw [this]
      exact ⟨_, _, _, rfl, hM, hM mark a b hm h1⟩
    | false =>
      simp only [cond_false]
      have hc := hcs mark (by omega)
      obtain ⟨r, hr1, hr2⟩ := piece_ok (s := s) (t := t) (P := P) (mark := mark) (n := k - (mark + 1)) (a := a) (b := b) (MemoOk s t P k) (fun _ => 0) 0 0 (by omega) (all := cs mark) (cutsIn_of hc (by simp)) (cutsIn_of hc (by simp))
        (rec := fun M u => F n M ((mark + 1 : Nat) : Int) ((a &&& fitsN s mark u : Nat) : Int) ((b &&& fitsN t mark u : Nat) : Int))
        (fun M u hJ _ h0 h1 => by
          obtain ⟨xs, f, M', g1, g2, g3⟩ := walk_ok hk hcs hF d n M (mark + 1) (a &&& fitsN s mark u) (b &&& fitsN t mark u) (by omega) (by omega) (by omega) (Nat.lt_of_le_of_lt Nat.and_le_left ha) (Nat.lt_of_le_of_lt Nat.and_le_left hb) hJ
          exact ⟨xs, f, M', g1, g2, Nat.zero_le _, g3⟩)
        (cs mark) 0 M hM (by simp) (by omega) (List.pairwise_cons.2 ⟨fun c h => (hc.pos c h).1, hc.up⟩) (fun c h _ => h) (fun c h => (hc.pos c h).2) (fun _ => hc.last) (by omega) (fun y ys h0 h1 => by omega)
      rw [hr1]
      simp only [Option.bind_some]
      have he : k - mark = (k - (mark + 1)) + 1 := by omega
      rw [he]
      cases r with
      | inr q =>
        obtain ⟨xs, f, M'⟩ := q
        obtain ⟨g1, g2, _, g4⟩ := hr2
        subst g1
        exact ⟨xs, true, M', rfl, g2, g4⟩
      | inl M' =>
        obtain ⟨g2, _, g4⟩ := hr2
        refine ⟨_, _, _, rfl, fun mark' a' b' hm' hg => ?_, g4⟩
        rw [mget_mset] at hg
        split at hg
        · rename_i heq
          simp only [Arr3_Int.mk.injEq] at heq
          obtain ⟨e1, e2, e3⟩ := heq
          have e1 : mark' = mark := by omega
          have e2 : a' = a := by omega
          have e3 : b' = b := by omega
          subst e1 e2 e3
          rw [he]; exact g4
        · exact g2 mark' a' b' hm' hg
end Go.Pv

