/- RateBests answers true for every input, as its tied card says: under the conditions of the card (Rows, Cards, Tie), no more. Part 4 of 6: by one AI agent and its programs; no person has read it. -/
import Derived.Test.YtmnemlihimnofaaDoorRateBestsA
import Derived.Test.YtmnemlihimnofaaDoorRateBestsB
import Derived.Test.YtmnemlihimnofaaDoorRateBestsC
import Derived.Test.YtmnemlihimnofaaDoorProg
import Derived.KernelRfl
import Derived.Test.YtmnemlihimnofaaDoorRows
set_option linter.unusedSimpArgs false
set_option linter.unusedVariables false
set_option linter.all false

namespace Go.Pv.Tryd
open Go.Proofs
noncomputable def T1 : Ty := (tyOf Tryd.prog 1).getD ⟨.invalid, 0, 0, none⟩
@[go_sem] theorem ty1 : tyOf Tryd.prog 1 = some T1 := by kernel_rfl
@[go_sem] theorem T1_desc : T1.desc = .func #[] #[] false := by kernel_rfl
@[go_sem] theorem T1_size : T1.size = 1 := by kernel_rfl
@[go_sem] theorem T1_bytes : T1.bytes = 8 := by kernel_rfl
@[go_sem] theorem T1_zero : zeroPV T1 = some (.d .nilfunc) := by kernel_rfl
@[go_sem] theorem T1_ok : zeroOk T1 = true := by kernel_rfl
noncomputable def T2 : Ty := (tyOf Tryd.prog 2).getD ⟨.invalid, 0, 0, none⟩
@[go_sem] theorem ty2 : tyOf Tryd.prog 2 = some T2 := by kernel_rfl
@[go_sem] theorem T2_desc : T2.desc = .int .i64 := by kernel_rfl
@[go_sem] theorem T2_size : T2.size = 1 := by kernel_rfl
@[go_sem] theorem T2_bytes : T2.bytes = 8 := by kernel_rfl
@[go_sem] theorem T2_zero : zeroPV T2 = some (.d (.int .i64 0)) := by kernel_rfl
@[go_sem] theorem T2_ok : zeroOk T2 = true := by kernel_rfl
noncomputable def T3 : Ty := (tyOf Tryd.prog 3).getD ⟨.invalid, 0, 0, none⟩
@[go_sem] theorem ty3 : tyOf Tryd.prog 3 = some T3 := by kernel_rfl
@[go_sem] theorem T3_desc : T3.desc = .int .i64 := by kernel_rfl
@[go_sem] theorem T3_size : T3.size = 1 := by kernel_rfl
@[go_sem] theorem T3_bytes : T3.bytes = 8 := by kernel_rfl
@[go_sem] theorem T3_zero : zeroPV T3 = some (.d (.int .i64 0)) := by kernel_rfl
@[go_sem] theorem T3_ok : zeroOk T3 = true := by kernel_rfl
noncomputable def T4 : Ty := (tyOf Tryd.prog 4).getD ⟨.invalid, 0, 0, none⟩
@[go_sem] theorem ty4 : tyOf Tryd.prog 4 = some T4 := by kernel_rfl
@[go_sem] theorem T4_desc : T4.desc = .bool := by kernel_rfl
@[go_sem] theorem T4_size : T4.size = 1 := by kernel_rfl
@[go_sem] theorem T4_bytes : T4.bytes = 1 := by kernel_rfl
@[go_sem] theorem T4_zero : zeroPV T4 = some (.d (.bool false)) := by kernel_rfl
@[go_sem] theorem T4_ok : zeroOk T4 = true := by kernel_rfl
noncomputable def T5 : Ty := (tyOf Tryd.prog 5).getD ⟨.invalid, 0, 0, none⟩
@[go_sem] theorem ty5 : tyOf Tryd.prog 5 = some T5 := by kernel_rfl
@[go_sem] theorem T5_desc : T5.desc = .int .u8 := by kernel_rfl
@[go_sem] theorem T5_size : T5.size = 1 := by kernel_rfl
@[go_sem] theorem T5_bytes : T5.bytes = 1 := by kernel_rfl
@[go_sem] theorem T5_zero : zeroPV T5 = some (.d (.int .u8 0)) := by kernel_rfl
@[go_sem] theorem T5_ok : zeroOk T5 = true := by kernel_rfl
noncomputable def T9 : Ty := (tyOf Tryd.prog 9).getD ⟨.invalid, 0, 0, none⟩
@[go_sem] theorem ty9 : tyOf Tryd.prog 9 = some T9 := by kernel_rfl
@[go_sem] theorem T9_desc : T9.desc = .string := by kernel_rfl
@[go_sem] theorem T9_size : T9.size = 1 := by kernel_rfl
@[go_sem] theorem T9_bytes : T9.bytes = 16 := by kernel_rfl
@[go_sem] theorem T9_zero : zeroPV T9 = some (.d (.str ⟨#[]⟩)) := by kernel_rfl
@[go_sem] theorem T9_ok : zeroOk T9 = true := by kernel_rfl
noncomputable def T12 : Ty := (tyOf Tryd.prog 12).getD ⟨.invalid, 0, 0, none⟩
@[go_sem] theorem ty12 : tyOf Tryd.prog 12 = some T12 := by kernel_rfl
@[go_sem] theorem T12_desc : T12.desc = .int .u64 := by kernel_rfl
@[go_sem] theorem T12_size : T12.size = 1 := by kernel_rfl
@[go_sem] theorem T12_bytes : T12.bytes = 8 := by kernel_rfl
@[go_sem] theorem T12_zero : zeroPV T12 = some (.d (.int .u64 0)) := by kernel_rfl
@[go_sem] theorem T12_ok : zeroOk T12 = true := by kernel_rfl
noncomputable def T13 : Ty := (tyOf Tryd.prog 13).getD ⟨.invalid, 0, 0, none⟩
@[go_sem] theorem ty13 : tyOf Tryd.prog 13 = some T13 := by kernel_rfl
noncomputable def fs13 : Array Field := match T13.desc with | .struct fs => fs | _ => #[]
@[go_sem] theorem T13_desc : T13.desc = .struct fs13 := by kernel_rfl
noncomputable def fs13_0 : Field := fs13.getD 0 default
@[go_sem] theorem fs13_at0 : fs13[0]? = some fs13_0 := by kernel_rfl
@[go_sem] theorem fs13_0_type : fs13_0.type = 9 := by kernel_rfl
@[go_sem] theorem fs13_0_off : fs13_0.offset = 0 := by kernel_rfl
@[go_sem] theorem fo13_0 : fieldOf Tryd.prog 13 0 = some (0, 1) := by kernel_rfl
noncomputable def fs13_1 : Field := fs13.getD 1 default
@[go_sem] theorem fs13_at1 : fs13[1]? = some fs13_1 := by kernel_rfl
@[go_sem] theorem fs13_1_type : fs13_1.type = 12 := by kernel_rfl
@[go_sem] theorem fs13_1_off : fs13_1.offset = 1 := by kernel_rfl
@[go_sem] theorem fo13_1 : fieldOf Tryd.prog 13 1 = some (1, 1) := by kernel_rfl
@[go_sem] theorem pl13 : placesOf Tryd.prog fs13.toList = some [(0, 1), (1, 1)] := by kernel_rfl
@[go_sem] theorem T13_size : T13.size = 2 := by kernel_rfl
@[go_sem] theorem T13_bytes : T13.bytes = 24 := by kernel_rfl
-- zero of 13: strings or floats
@[go_sem] theorem T13_ok : zeroOk T13 = true := by kernel_rfl
noncomputable def T21 : Ty := (tyOf Tryd.prog 21).getD ⟨.invalid, 0, 0, none⟩
@[go_sem] theorem ty21 : tyOf Tryd.prog 21 = some T21 := by kernel_rfl
@[go_sem] theorem T21_desc : T21.desc = .int .i32 := by kernel_rfl
@[go_sem] theorem T21_size : T21.size = 1 := by kernel_rfl
@[go_sem] theorem T21_bytes : T21.bytes = 4 := by kernel_rfl
@[go_sem] theorem T21_zero : zeroPV T21 = some (.d (.int .i32 0)) := by kernel_rfl
@[go_sem] theorem T21_ok : zeroOk T21 = true := by kernel_rfl
noncomputable def T22 : Ty := (tyOf Tryd.prog 22).getD ⟨.invalid, 0, 0, none⟩
@[go_sem] theorem ty22 : tyOf Tryd.prog 22 = some T22 := by kernel_rfl
@[go_sem] theorem T22_desc : T22.desc = .slice 43 := by kernel_rfl
@[go_sem] theorem es22 : elemSize Tryd.prog 22 = some 4 := by kernel_rfl
@[go_sem] theorem T22_size : T22.size = 1 := by kernel_rfl
@[go_sem] theorem T22_bytes : T22.bytes = 24 := by kernel_rfl
@[go_sem] theorem T22_zero : zeroPV T22 = some (.d .nilslice) := by kernel_rfl
@[go_sem] theorem T22_ok : zeroOk T22 = true := by kernel_rfl
noncomputable def T23 : Ty := (tyOf Tryd.prog 23).getD ⟨.invalid, 0, 0, none⟩
@[go_sem] theorem ty23 : tyOf Tryd.prog 23 = some T23 := by kernel_rfl
@[go_sem] theorem T23_desc : T23.desc = .func #[22] #[4] false := by kernel_rfl
@[go_sem] theorem T23_size : T23.size = 1 := by kernel_rfl
@[go_sem] theorem T23_bytes : T23.bytes = 8 := by kernel_rfl
@[go_sem] theorem T23_zero : zeroPV T23 = some (.d .nilfunc) := by kernel_rfl
@[go_sem] theorem T23_ok : zeroOk T23 = true := by kernel_rfl
noncomputable def T24 : Ty := (tyOf Tryd.prog 24).getD ⟨.invalid, 0, 0, none⟩
@[go_sem] theorem ty24 : tyOf Tryd.prog 24 = some T24 := by kernel_rfl
@[go_sem] theorem T24_desc : T24.desc = .func #[] #[4] false := by kernel_rfl
@[go_sem] theorem T24_size : T24.size = 1 := by kernel_rfl
@[go_sem] theorem T24_bytes : T24.bytes = 8 := by kernel_rfl
@[go_sem] theorem T24_zero : zeroPV T24 = some (.d .nilfunc) := by kernel_rfl
@[go_sem] theorem T24_ok : zeroOk T24 = true := by kernel_rfl
noncomputable def T25 : Ty := (tyOf Tryd.prog 25).getD ⟨.invalid, 0, 0, none⟩
@[go_sem] theorem ty25 : tyOf Tryd.prog 25 = some T25 := by kernel_rfl
noncomputable def fs25 : Array Field := match T25.desc with | .struct fs => fs | _ => #[]
@[go_sem] theorem T25_desc : T25.desc = .struct fs25 := by kernel_rfl
noncomputable def fs25_0 : Field := fs25.getD 0 default
@[go_sem] theorem fs25_at0 : fs25[0]? = some fs25_0 := by kernel_rfl
@[go_sem] theorem fs25_0_type : fs25_0.type = 3 := by kernel_rfl
@[go_sem] theorem fs25_0_off : fs25_0.offset = 0 := by kernel_rfl
@[go_sem] theorem fo25_0 : fieldOf Tryd.prog 25 0 = some (0, 1) := by kernel_rfl
@[go_sem] theorem fs25_0_nm : (fs25_0.name == "_") = false := by kernel_rfl
noncomputable def fs25_1 : Field := fs25.getD 1 default
@[go_sem] theorem fs25_at1 : fs25[1]? = some fs25_1 := by kernel_rfl
@[go_sem] theorem fs25_1_type : fs25_1.type = 3 := by kernel_rfl
@[go_sem] theorem fs25_1_off : fs25_1.offset = 1 := by kernel_rfl
@[go_sem] theorem fo25_1 : fieldOf Tryd.prog 25 1 = some (1, 1) := by kernel_rfl
@[go_sem] theorem fs25_1_nm : (fs25_1.name == "_") = false := by kernel_rfl
@[go_sem] theorem sih25 : Tryd.prog.stoodInHeld 25 = false := by kernel_rfl
@[go_sem] theorem egt25 : Tryd.prog.eqGuardType Tryd.prog.depth 25 = false := by kernel_rfl
@[go_sem] theorem pl25 : placesOf Tryd.prog fs25.toList = some [(0, 1), (1, 1)] := by kernel_rfl
@[go_sem] theorem T25_size : T25.size = 2 := by kernel_rfl
@[go_sem] theorem T25_bytes : T25.bytes = 16 := by kernel_rfl
@[go_sem] theorem T25_cells : zeroCells T25.zero = some [.d (.int .i64 0), .d (.int .i64 0)] := by kernel_rfl
@[go_sem] theorem T25_zero : zeroPV T25 = some (.d (.agg [(.int .i64 0), (.int .i64 0)])) := by kernel_rfl
@[go_sem] theorem T25_ok : zeroOk T25 = true := by kernel_rfl
noncomputable def T26 : Ty := (tyOf Tryd.prog 26).getD ⟨.invalid, 0, 0, none⟩
@[go_sem] theorem ty26 : tyOf Tryd.prog 26 = some T26 := by kernel_rfl
noncomputable def fs26 : Array Field := match T26.desc with | .struct fs => fs | _ => #[]
@[go_sem] theorem T26_desc : T26.desc = .struct fs26 := by kernel_rfl
noncomputable def fs26_0 : Field := fs26.getD 0 default
@[go_sem] theorem fs26_at0 : fs26[0]? = some fs26_0 := by kernel_rfl
@[go_sem] theorem fs26_0_type : fs26_0.type = 3 := by kernel_rfl
@[go_sem] theorem fs26_0_off : fs26_0.offset = 0 := by kernel_rfl
@[go_sem] theorem fo26_0 : fieldOf Tryd.prog 26 0 = some (0, 1) := by kernel_rfl
@[go_sem] theorem fs26_0_nm : (fs26_0.name == "_") = false := by kernel_rfl
noncomputable def fs26_1 : Field := fs26.getD 1 default
@[go_sem] theorem fs26_at1 : fs26[1]? = some fs26_1 := by kernel_rfl
@[go_sem] theorem fs26_1_type : fs26_1.type = 3 := by kernel_rfl
@[go_sem] theorem fs26_1_off : fs26_1.offset = 1 := by kernel_rfl
@[go_sem] theorem fo26_1 : fieldOf Tryd.prog 26 1 = some (1, 1) := by kernel_rfl
@[go_sem] theorem fs26_1_nm : (fs26_1.name == "_") = false := by kernel_rfl
theorem fsl26 : fs26.toList = [fs26_0, fs26_1] := by kernel_rfl
@[go_sem] theorem sih26 : Tryd.prog.stoodInHeld 26 = false := by kernel_rfl
@[go_sem] theorem egt26 : Tryd.prog.eqGuardType Tryd.prog.depth 26 = false := by kernel_rfl
@[go_sem] theorem pl26 : placesOf Tryd.prog fs26.toList = some [(0, 1), (1, 1)] := by kernel_rfl
@[go_sem] theorem T26_size : T26.size = 2 := by kernel_rfl
@[go_sem] theorem T26_bytes : T26.bytes = 16 := by kernel_rfl
@[go_sem] theorem T26_cells : zeroCells T26.zero = some [.d (.int .i64 0), .d (.int .i64 0)] := by kernel_rfl
@[go_sem] theorem T26_zero : zeroPV T26 = some (.d (.agg [(.int .i64 0), (.int .i64 0)])) := by kernel_rfl
@[go_sem] theorem T26_ok : zeroOk T26 = true := by kernel_rfl
noncomputable def T27 : Ty := (tyOf Tryd.prog 27).getD ⟨.invalid, 0, 0, none⟩
@[go_sem] theorem ty27 : tyOf Tryd.prog 27 = some T27 := by kernel_rfl
@[go_sem] theorem T27_desc : T27.desc = .slice 3 := by kernel_rfl
@[go_sem] theorem es27 : elemSize Tryd.prog 27 = some 1 := by kernel_rfl
@[go_sem] theorem T27_size : T27.size = 1 := by kernel_rfl
@[go_sem] theorem T27_bytes : T27.bytes = 24 := by kernel_rfl
@[go_sem] theorem T27_zero : zeroPV T27 = some (.d .nilslice) := by kernel_rfl
@[go_sem] theorem T27_ok : zeroOk T27 = true := by kernel_rfl
noncomputable def T28 : Ty := (tyOf Tryd.prog 28).getD ⟨.invalid, 0, 0, none⟩
@[go_sem] theorem ty28 : tyOf Tryd.prog 28 = some T28 := by kernel_rfl
@[go_sem] theorem T28_desc : T28.desc = .int .i64 := by kernel_rfl
@[go_sem] theorem T28_size : T28.size = 1 := by kernel_rfl
@[go_sem] theorem T28_bytes : T28.bytes = 8 := by kernel_rfl
@[go_sem] theorem T28_zero : zeroPV T28 = some (.d (.int .i64 0)) := by kernel_rfl
@[go_sem] theorem T28_ok : zeroOk T28 = true := by kernel_rfl
noncomputable def T30 : Ty := (tyOf Tryd.prog 30).getD ⟨.invalid, 0, 0, none⟩
@[go_sem] theorem ty30 : tyOf Tryd.prog 30 = some T30 := by kernel_rfl
@[go_sem] theorem T30_desc : T30.desc = .func #[3, 22, 3, 3] #[26, 27, 28] false := by kernel_rfl
@[go_sem] theorem T30_size : T30.size = 1 := by kernel_rfl
@[go_sem] theorem T30_bytes : T30.bytes = 8 := by kernel_rfl
@[go_sem] theorem T30_zero : zeroPV T30 = some (.d .nilfunc) := by kernel_rfl
@[go_sem] theorem T30_ok : zeroOk T30 = true := by kernel_rfl
noncomputable def T31 : Ty := (tyOf Tryd.prog 31).getD ⟨.invalid, 0, 0, none⟩
@[go_sem] theorem ty31 : tyOf Tryd.prog 31 = some T31 := by kernel_rfl
@[go_sem] theorem T31_desc : T31.desc = .func #[27, 27] #[4] false := by kernel_rfl
@[go_sem] theorem T31_size : T31.size = 1 := by kernel_rfl
@[go_sem] theorem T31_bytes : T31.bytes = 8 := by kernel_rfl
@[go_sem] theorem T31_zero : zeroPV T31 = some (.d .nilfunc) := by kernel_rfl
@[go_sem] theorem T31_ok : zeroOk T31 = true := by kernel_rfl
noncomputable def T32 : Ty := (tyOf Tryd.prog 32).getD ⟨.invalid, 0, 0, none⟩
@[go_sem] theorem ty32 : tyOf Tryd.prog 32 = some T32 := by kernel_rfl
@[go_sem] theorem T32_desc : T32.desc = .func #[22, 22] #[4] false := by kernel_rfl
@[go_sem] theorem T32_size : T32.size = 1 := by kernel_rfl
@[go_sem] theorem T32_bytes : T32.bytes = 8 := by kernel_rfl
@[go_sem] theorem T32_zero : zeroPV T32 = some (.d .nilfunc) := by kernel_rfl
@[go_sem] theorem T32_ok : zeroOk T32 = true := by kernel_rfl
noncomputable def T33 : Ty := (tyOf Tryd.prog 33).getD ⟨.invalid, 0, 0, none⟩
@[go_sem] theorem ty33 : tyOf Tryd.prog 33 = some T33 := by kernel_rfl
@[go_sem] theorem T33_desc : T33.desc = .func #[3, 22, 3, 3] #[4] false := by kernel_rfl
@[go_sem] theorem T33_size : T33.size = 1 := by kernel_rfl
@[go_sem] theorem T33_bytes : T33.bytes = 8 := by kernel_rfl
@[go_sem] theorem T33_zero : zeroPV T33 = some (.d .nilfunc) := by kernel_rfl
@[go_sem] theorem T33_ok : zeroOk T33 = true := by kernel_rfl
noncomputable def T34 : Ty := (tyOf Tryd.prog 34).getD ⟨.invalid, 0, 0, none⟩
@[go_sem] theorem ty34 : tyOf Tryd.prog 34 = some T34 := by kernel_rfl
@[go_sem] theorem T34_desc : T34.desc = .slice 26 := by kernel_rfl
@[go_sem] theorem es34 : elemSize Tryd.prog 34 = some 2 := by kernel_rfl
@[go_sem] theorem T34_size : T34.size = 1 := by kernel_rfl
@[go_sem] theorem T34_bytes : T34.bytes = 24 := by kernel_rfl
@[go_sem] theorem T34_zero : zeroPV T34 = some (.d .nilslice) := by kernel_rfl
@[go_sem] theorem T34_ok : zeroOk T34 = true := by kernel_rfl
noncomputable def T36 : Ty := (tyOf Tryd.prog 36).getD ⟨.invalid, 0, 0, none⟩
@[go_sem] theorem ty36 : tyOf Tryd.prog 36 = some T36 := by kernel_rfl
@[go_sem] theorem T36_desc : T36.desc = .func #[3, 22] #[34, 28] false := by kernel_rfl
@[go_sem] theorem T36_size : T36.size = 1 := by kernel_rfl
@[go_sem] theorem T36_bytes : T36.bytes = 8 := by kernel_rfl
@[go_sem] theorem T36_zero : zeroPV T36 = some (.d .nilfunc) := by kernel_rfl
@[go_sem] theorem T36_ok : zeroOk T36 = true := by kernel_rfl
noncomputable def T37 : Ty := (tyOf Tryd.prog 37).getD ⟨.invalid, 0, 0, none⟩
@[go_sem] theorem ty37 : tyOf Tryd.prog 37 = some T37 := by kernel_rfl
@[go_sem] theorem T37_desc : T37.desc = .func #[34, 34] #[4] false := by kernel_rfl
@[go_sem] theorem T37_size : T37.size = 1 := by kernel_rfl
@[go_sem] theorem T37_bytes : T37.bytes = 8 := by kernel_rfl
@[go_sem] theorem T37_zero : zeroPV T37 = some (.d .nilfunc) := by kernel_rfl
@[go_sem] theorem T37_ok : zeroOk T37 = true := by kernel_rfl
noncomputable def T38 : Ty := (tyOf Tryd.prog 38).getD ⟨.invalid, 0, 0, none⟩
@[go_sem] theorem ty38 : tyOf Tryd.prog 38 = some T38 := by kernel_rfl
@[go_sem] theorem T38_desc : T38.desc = .func #[3, 22] #[4] false := by kernel_rfl
@[go_sem] theorem T38_size : T38.size = 1 := by kernel_rfl
@[go_sem] theorem T38_bytes : T38.bytes = 8 := by kernel_rfl
@[go_sem] theorem T38_zero : zeroPV T38 = some (.d .nilfunc) := by kernel_rfl
@[go_sem] theorem T38_ok : zeroOk T38 = true := by kernel_rfl
noncomputable def T40 : Ty := (tyOf Tryd.prog 40).getD ⟨.invalid, 0, 0, none⟩
@[go_sem] theorem ty40 : tyOf Tryd.prog 40 = some T40 := by kernel_rfl
@[go_sem] theorem T40_desc : T40.desc = .func #[3, 22] #[27, 28] false := by kernel_rfl
@[go_sem] theorem T40_size : T40.size = 1 := by kernel_rfl
@[go_sem] theorem T40_bytes : T40.bytes = 8 := by kernel_rfl
@[go_sem] theorem T40_zero : zeroPV T40 = some (.d .nilfunc) := by kernel_rfl
@[go_sem] theorem T40_ok : zeroOk T40 = true := by kernel_rfl
noncomputable def T41 : Ty := (tyOf Tryd.prog 41).getD ⟨.invalid, 0, 0, none⟩
@[go_sem] theorem ty41 : tyOf Tryd.prog 41 = some T41 := by kernel_rfl
@[go_sem] theorem T41_desc : T41.desc = .func #[3, 22] #[28] false := by kernel_rfl
@[go_sem] theorem T41_size : T41.size = 1 := by kernel_rfl
@[go_sem] theorem T41_bytes : T41.bytes = 8 := by kernel_rfl
@[go_sem] theorem T41_zero : zeroPV T41 = some (.d .nilfunc) := by kernel_rfl
@[go_sem] theorem T41_ok : zeroOk T41 = true := by kernel_rfl
noncomputable def T42 : Ty := (tyOf Tryd.prog 42).getD ⟨.invalid, 0, 0, none⟩
@[go_sem] theorem ty42 : tyOf Tryd.prog 42 = some T42 := by kernel_rfl
noncomputable def fs42 : Array Field := match T42.desc with | .struct fs => fs | _ => #[]
@[go_sem] theorem T42_desc : T42.desc = .struct fs42 := by kernel_rfl
noncomputable def fs42_0 : Field := fs42.getD 0 default
@[go_sem] theorem fs42_at0 : fs42[0]? = some fs42_0 := by kernel_rfl
@[go_sem] theorem fs42_0_type : fs42_0.type = 3 := by kernel_rfl
@[go_sem] theorem fs42_0_off : fs42_0.offset = 0 := by kernel_rfl
@[go_sem] theorem fo42_0 : fieldOf Tryd.prog 42 0 = some (0, 1) := by kernel_rfl
@[go_sem] theorem fs42_0_nm : (fs42_0.name == "_") = false := by kernel_rfl
noncomputable def fs42_1 : Field := fs42.getD 1 default
@[go_sem] theorem fs42_at1 : fs42[1]? = some fs42_1 := by kernel_rfl
@[go_sem] theorem fs42_1_type : fs42_1.type = 3 := by kernel_rfl
@[go_sem] theorem fs42_1_off : fs42_1.offset = 1 := by kernel_rfl
@[go_sem] theorem fo42_1 : fieldOf Tryd.prog 42 1 = some (1, 1) := by kernel_rfl
@[go_sem] theorem fs42_1_nm : (fs42_1.name == "_") = false := by kernel_rfl
noncomputable def fs42_2 : Field := fs42.getD 2 default
@[go_sem] theorem fs42_at2 : fs42[2]? = some fs42_2 := by kernel_rfl
@[go_sem] theorem fs42_2_type : fs42_2.type = 3 := by kernel_rfl
@[go_sem] theorem fs42_2_off : fs42_2.offset = 2 := by kernel_rfl
@[go_sem] theorem fo42_2 : fieldOf Tryd.prog 42 2 = some (2, 1) := by kernel_rfl
@[go_sem] theorem fs42_2_nm : (fs42_2.name == "_") = false := by kernel_rfl
noncomputable def fs42_3 : Field := fs42.getD 3 default
@[go_sem] theorem fs42_at3 : fs42[3]? = some fs42_3 := by kernel_rfl
@[go_sem] theorem fs42_3_type : fs42_3.type = 3 := by kernel_rfl
@[go_sem] theorem fs42_3_off : fs42_3.offset = 3 := by kernel_rfl
@[go_sem] theorem fo42_3 : fieldOf Tryd.prog 42 3 = some (3, 1) := by kernel_rfl
@[go_sem] theorem fs42_3_nm : (fs42_3.name == "_") = false := by kernel_rfl
@[go_sem] theorem sih42 : Tryd.prog.stoodInHeld 42 = false := by kernel_rfl
@[go_sem] theorem egt42 : Tryd.prog.eqGuardType Tryd.prog.depth 42 = false := by kernel_rfl
@[go_sem] theorem pl42 : placesOf Tryd.prog fs42.toList = some [(0, 1), (1, 1), (2, 1), (3, 1)] := by kernel_rfl
@[go_sem] theorem T42_size : T42.size = 4 := by kernel_rfl
@[go_sem] theorem T42_bytes : T42.bytes = 32 := by kernel_rfl
@[go_sem] theorem T42_cells : zeroCells T42.zero = some [.d (.int .i64 0), .d (.int .i64 0), .d (.int .i64 0), .d (.int .i64 0)] := by kernel_rfl
@[go_sem] theorem T42_zero : zeroPV T42 = some (.d (.agg [(.int .i64 0), (.int .i64 0), (.int .i64 0), (.int .i64 0)])) := by kernel_rfl
@[go_sem] theorem T42_ok : zeroOk T42 = true := by kernel_rfl
noncomputable def T43 : Ty := (tyOf Tryd.prog 43).getD ⟨.invalid, 0, 0, none⟩
@[go_sem] theorem ty43 : tyOf Tryd.prog 43 = some T43 := by kernel_rfl
noncomputable def fs43 : Array Field := match T43.desc with | .struct fs => fs | _ => #[]
@[go_sem] theorem T43_desc : T43.desc = .struct fs43 := by kernel_rfl
noncomputable def fs43_0 : Field := fs43.getD 0 default
@[go_sem] theorem fs43_at0 : fs43[0]? = some fs43_0 := by kernel_rfl
@[go_sem] theorem fs43_0_type : fs43_0.type = 3 := by kernel_rfl
@[go_sem] theorem fs43_0_off : fs43_0.offset = 0 := by kernel_rfl
@[go_sem] theorem fo43_0 : fieldOf Tryd.prog 43 0 = some (0, 1) := by kernel_rfl
@[go_sem] theorem fs43_0_nm : (fs43_0.name == "_") = false := by kernel_rfl
noncomputable def fs43_1 : Field := fs43.getD 1 default
@[go_sem] theorem fs43_at1 : fs43[1]? = some fs43_1 := by kernel_rfl
@[go_sem] theorem fs43_1_type : fs43_1.type = 3 := by kernel_rfl
@[go_sem] theorem fs43_1_off : fs43_1.offset = 1 := by kernel_rfl
@[go_sem] theorem fo43_1 : fieldOf Tryd.prog 43 1 = some (1, 1) := by kernel_rfl
@[go_sem] theorem fs43_1_nm : (fs43_1.name == "_") = false := by kernel_rfl
noncomputable def fs43_2 : Field := fs43.getD 2 default
@[go_sem] theorem fs43_at2 : fs43[2]? = some fs43_2 := by kernel_rfl
@[go_sem] theorem fs43_2_type : fs43_2.type = 3 := by kernel_rfl
@[go_sem] theorem fs43_2_off : fs43_2.offset = 2 := by kernel_rfl
@[go_sem] theorem fo43_2 : fieldOf Tryd.prog 43 2 = some (2, 1) := by kernel_rfl
@[go_sem] theorem fs43_2_nm : (fs43_2.name == "_") = false := by kernel_rfl
noncomputable def fs43_3 : Field := fs43.getD 3 default
@[go_sem] theorem fs43_at3 : fs43[3]? = some fs43_3 := by kernel_rfl
@[go_sem] theorem fs43_3_type : fs43_3.type = 3 := by kernel_rfl
@[go_sem] theorem fs43_3_off : fs43_3.offset = 3 := by kernel_rfl
@[go_sem] theorem fo43_3 : fieldOf Tryd.prog 43 3 = some (3, 1) := by kernel_rfl
@[go_sem] theorem fs43_3_nm : (fs43_3.name == "_") = false := by kernel_rfl
theorem fsl43 : fs43.toList = [fs43_0, fs43_1, fs43_2, fs43_3] := by kernel_rfl
@[go_sem] theorem sih43 : Tryd.prog.stoodInHeld 43 = false := by kernel_rfl
@[go_sem] theorem egt43 : Tryd.prog.eqGuardType Tryd.prog.depth 43 = false := by kernel_rfl
@[go_sem] theorem pl43 : placesOf Tryd.prog fs43.toList = some [(0, 1), (1, 1), (2, 1), (3, 1)] := by kernel_rfl
@[go_sem] theorem T43_size : T43.size = 4 := by kernel_rfl
@[go_sem] theorem T43_bytes : T43.bytes = 32 := by kernel_rfl
@[go_sem] theorem T43_cells : zeroCells T43.zero = some [.d (.int .i64 0), .d (.int .i64 0), .d (.int .i64 0), .d (.int .i64 0)] := by kernel_rfl
@[go_sem] theorem T43_zero : zeroPV T43 = some (.d (.agg [(.int .i64 0), (.int .i64 0), (.int .i64 0), (.int .i64 0)])) := by kernel_rfl
@[go_sem] theorem T43_ok : zeroOk T43 = true := by kernel_rfl
noncomputable def T44 : Ty := (tyOf Tryd.prog 44).getD ⟨.invalid, 0, 0, none⟩
@[go_sem] theorem ty44 : tyOf Tryd.prog 44 = some T44 := by kernel_rfl
@[go_sem] theorem T44_desc : T44.desc = .func #[3, 22, 3, 3, 5] #[4] false := by kernel_rfl
@[go_sem] theorem T44_size : T44.size = 1 := by kernel_rfl
@[go_sem] theorem T44_bytes : T44.bytes = 8 := by kernel_rfl
@[go_sem] theorem T44_zero : zeroPV T44 = some (.d .nilfunc) := by kernel_rfl
@[go_sem] theorem T44_ok : zeroOk T44 = true := by kernel_rfl
noncomputable def T46 : Ty := (tyOf Tryd.prog 46).getD ⟨.invalid, 0, 0, none⟩
@[go_sem] theorem ty46 : tyOf Tryd.prog 46 = some T46 := by kernel_rfl
@[go_sem] theorem T46_desc : T46.desc = .func #[3, 22, 3, 3] #[26, 28] false := by kernel_rfl
@[go_sem] theorem T46_size : T46.size = 1 := by kernel_rfl
@[go_sem] theorem T46_bytes : T46.bytes = 8 := by kernel_rfl
@[go_sem] theorem T46_zero : zeroPV T46 = some (.d .nilfunc) := by kernel_rfl
@[go_sem] theorem T46_ok : zeroOk T46 = true := by kernel_rfl
noncomputable def T47 : Ty := (tyOf Tryd.prog 47).getD ⟨.invalid, 0, 0, none⟩
@[go_sem] theorem ty47 : tyOf Tryd.prog 47 = some T47 := by kernel_rfl
@[go_sem] theorem T47_desc : T47.desc = .func #[26] #[4] false := by kernel_rfl
@[go_sem] theorem T47_size : T47.size = 1 := by kernel_rfl
@[go_sem] theorem T47_bytes : T47.bytes = 8 := by kernel_rfl
@[go_sem] theorem T47_zero : zeroPV T47 = some (.d .nilfunc) := by kernel_rfl
@[go_sem] theorem T47_ok : zeroOk T47 = true := by kernel_rfl
noncomputable def T48 : Ty := (tyOf Tryd.prog 48).getD ⟨.invalid, 0, 0, none⟩
@[go_sem] theorem ty48 : tyOf Tryd.prog 48 = some T48 := by kernel_rfl
@[go_sem] theorem T48_desc : T48.desc = .func #[26, 26] #[4] false := by kernel_rfl
@[go_sem] theorem T48_size : T48.size = 1 := by kernel_rfl
@[go_sem] theorem T48_bytes : T48.bytes = 8 := by kernel_rfl
@[go_sem] theorem T48_zero : zeroPV T48 = some (.d .nilfunc) := by kernel_rfl
@[go_sem] theorem T48_ok : zeroOk T48 = true := by kernel_rfl
noncomputable def T50 : Ty := (tyOf Tryd.prog 50).getD ⟨.invalid, 0, 0, none⟩
@[go_sem] theorem ty50 : tyOf Tryd.prog 50 = some T50 := by kernel_rfl
@[go_sem] theorem T50_desc : T50.desc = .func #[3, 22, 27, 3] #[3, 28] false := by kernel_rfl
@[go_sem] theorem T50_size : T50.size = 1 := by kernel_rfl
@[go_sem] theorem T50_bytes : T50.bytes = 8 := by kernel_rfl
@[go_sem] theorem T50_zero : zeroPV T50 = some (.d .nilfunc) := by kernel_rfl
@[go_sem] theorem T50_ok : zeroOk T50 = true := by kernel_rfl
noncomputable def T51 : Ty := (tyOf Tryd.prog 51).getD ⟨.invalid, 0, 0, none⟩
@[go_sem] theorem ty51 : tyOf Tryd.prog 51 = some T51 := by kernel_rfl
@[go_sem] theorem T51_desc : T51.desc = .func #[3, 22, 27, 3] #[4] false := by kernel_rfl
@[go_sem] theorem T51_size : T51.size = 1 := by kernel_rfl
@[go_sem] theorem T51_bytes : T51.bytes = 8 := by kernel_rfl
@[go_sem] theorem T51_zero : zeroPV T51 = some (.d .nilfunc) := by kernel_rfl
@[go_sem] theorem T51_ok : zeroOk T51 = true := by kernel_rfl
noncomputable def T53 : Ty := (tyOf Tryd.prog 53).getD ⟨.invalid, 0, 0, none⟩
@[go_sem] theorem ty53 : tyOf Tryd.prog 53 = some T53 := by kernel_rfl
@[go_sem] theorem T53_desc : T53.desc = .func #[3, 22, 34] #[4, 28] false := by kernel_rfl
@[go_sem] theorem T53_size : T53.size = 1 := by kernel_rfl
@[go_sem] theorem T53_bytes : T53.bytes = 8 := by kernel_rfl
@[go_sem] theorem T53_zero : zeroPV T53 = some (.d .nilfunc) := by kernel_rfl
@[go_sem] theorem T53_ok : zeroOk T53 = true := by kernel_rfl
noncomputable def T54 : Ty := (tyOf Tryd.prog 54).getD ⟨.invalid, 0, 0, none⟩
@[go_sem] theorem ty54 : tyOf Tryd.prog 54 = some T54 := by kernel_rfl
@[go_sem] theorem T54_desc : T54.desc = .func #[3, 22, 34] #[4] false := by kernel_rfl
@[go_sem] theorem T54_size : T54.size = 1 := by kernel_rfl
@[go_sem] theorem T54_bytes : T54.bytes = 8 := by kernel_rfl
@[go_sem] theorem T54_zero : zeroPV T54 = some (.d .nilfunc) := by kernel_rfl
@[go_sem] theorem T54_ok : zeroOk T54 = true := by kernel_rfl
noncomputable def T55 : Ty := (tyOf Tryd.prog 55).getD ⟨.invalid, 0, 0, none⟩
@[go_sem] theorem ty55 : tyOf Tryd.prog 55 = some T55 := by kernel_rfl
@[go_sem] theorem T55_desc : T55.desc = .func #[59, 59] #[3] false := by kernel_rfl
@[go_sem] theorem T55_size : T55.size = 1 := by kernel_rfl
@[go_sem] theorem T55_bytes : T55.bytes = 8 := by kernel_rfl
@[go_sem] theorem T55_zero : zeroPV T55 = some (.d .nilfunc) := by kernel_rfl
@[go_sem] theorem T55_ok : zeroOk T55 = true := by kernel_rfl
noncomputable def T56 : Ty := (tyOf Tryd.prog 56).getD ⟨.invalid, 0, 0, none⟩
@[go_sem] theorem ty56 : tyOf Tryd.prog 56 = some T56 := by kernel_rfl
noncomputable def fs56 : Array Field := match T56.desc with | .struct fs => fs | _ => #[]
@[go_sem] theorem T56_desc : T56.desc = .struct fs56 := by kernel_rfl
noncomputable def fs56_0 : Field := fs56.getD 0 default
@[go_sem] theorem fs56_at0 : fs56[0]? = some fs56_0 := by kernel_rfl
@[go_sem] theorem fs56_0_type : fs56_0.type = 4 := by kernel_rfl
@[go_sem] theorem fs56_0_off : fs56_0.offset = 0 := by kernel_rfl
@[go_sem] theorem fo56_0 : fieldOf Tryd.prog 56 0 = some (0, 1) := by kernel_rfl
noncomputable def fs56_1 : Field := fs56.getD 1 default
@[go_sem] theorem fs56_at1 : fs56[1]? = some fs56_1 := by kernel_rfl
@[go_sem] theorem fs56_1_type : fs56_1.type = 27 := by kernel_rfl
@[go_sem] theorem fs56_1_off : fs56_1.offset = 1 := by kernel_rfl
@[go_sem] theorem fo56_1 : fieldOf Tryd.prog 56 1 = some (1, 1) := by kernel_rfl
@[go_sem] theorem pl56 : placesOf Tryd.prog fs56.toList = some [(0, 1), (1, 1)] := by kernel_rfl
@[go_sem] theorem T56_size : T56.size = 2 := by kernel_rfl
@[go_sem] theorem T56_bytes : T56.bytes = 32 := by kernel_rfl
@[go_sem] theorem T56_cells : zeroCells T56.zero = some [.d (.bool false), .d .nilslice] := by kernel_rfl
@[go_sem] theorem T56_zero : zeroPV T56 = some (.d (.agg [(.bool false), .nilslice])) := by kernel_rfl
@[go_sem] theorem T56_ok : zeroOk T56 = true := by kernel_rfl
noncomputable def T57 : Ty := (tyOf Tryd.prog 57).getD ⟨.invalid, 0, 0, none⟩
@[go_sem] theorem ty57 : tyOf Tryd.prog 57 = some T57 := by kernel_rfl
noncomputable def fs57 : Array Field := match T57.desc with | .struct fs => fs | _ => #[]
@[go_sem] theorem T57_desc : T57.desc = .struct fs57 := by kernel_rfl
noncomputable def fs57_0 : Field := fs57.getD 0 default
@[go_sem] theorem fs57_at0 : fs57[0]? = some fs57_0 := by kernel_rfl
@[go_sem] theorem fs57_0_type : fs57_0.type = 4 := by kernel_rfl
@[go_sem] theorem fs57_0_off : fs57_0.offset = 0 := by kernel_rfl
@[go_sem] theorem fo57_0 : fieldOf Tryd.prog 57 0 = some (0, 1) := by kernel_rfl
noncomputable def fs57_1 : Field := fs57.getD 1 default
@[go_sem] theorem fs57_at1 : fs57[1]? = some fs57_1 := by kernel_rfl
@[go_sem] theorem fs57_1_type : fs57_1.type = 27 := by kernel_rfl
@[go_sem] theorem fs57_1_off : fs57_1.offset = 1 := by kernel_rfl
@[go_sem] theorem fo57_1 : fieldOf Tryd.prog 57 1 = some (1, 1) := by kernel_rfl
@[go_sem] theorem pl57 : placesOf Tryd.prog fs57.toList = some [(0, 1), (1, 1)] := by kernel_rfl
@[go_sem] theorem T57_size : T57.size = 2 := by kernel_rfl
@[go_sem] theorem T57_bytes : T57.bytes = 32 := by kernel_rfl
@[go_sem] theorem T57_cells : zeroCells T57.zero = some [.d (.bool false), .d .nilslice] := by kernel_rfl
@[go_sem] theorem T57_zero : zeroPV T57 = some (.d (.agg [(.bool false), .nilslice])) := by kernel_rfl
@[go_sem] theorem T57_ok : zeroOk T57 = true := by kernel_rfl
noncomputable def T58 : Ty := (tyOf Tryd.prog 58).getD ⟨.invalid, 0, 0, none⟩
@[go_sem] theorem ty58 : tyOf Tryd.prog 58 = some T58 := by kernel_rfl
noncomputable def fs58 : Array Field := match T58.desc with | .struct fs => fs | _ => #[]
@[go_sem] theorem T58_desc : T58.desc = .struct fs58 := by kernel_rfl
noncomputable def fs58_0 : Field := fs58.getD 0 default
@[go_sem] theorem fs58_at0 : fs58[0]? = some fs58_0 := by kernel_rfl
@[go_sem] theorem fs58_0_type : fs58_0.type = 57 := by kernel_rfl
@[go_sem] theorem fs58_0_off : fs58_0.offset = 0 := by kernel_rfl
@[go_sem] theorem fo58_0 : fieldOf Tryd.prog 58 0 = some (0, 2) := by kernel_rfl
noncomputable def fs58_1 : Field := fs58.getD 1 default
@[go_sem] theorem fs58_at1 : fs58[1]? = some fs58_1 := by kernel_rfl
@[go_sem] theorem fs58_1_type : fs58_1.type = 57 := by kernel_rfl
@[go_sem] theorem fs58_1_off : fs58_1.offset = 2 := by kernel_rfl
@[go_sem] theorem fo58_1 : fieldOf Tryd.prog 58 1 = some (2, 2) := by kernel_rfl
@[go_sem] theorem pl58 : placesOf Tryd.prog fs58.toList = some [(0, 2), (2, 2)] := by kernel_rfl
@[go_sem] theorem T58_size : T58.size = 4 := by kernel_rfl
@[go_sem] theorem T58_bytes : T58.bytes = 64 := by kernel_rfl
@[go_sem] theorem T58_cells : zeroCells T58.zero = some [.d (.bool false), .d .nilslice, .d (.bool false), .d .nilslice] := by kernel_rfl
@[go_sem] theorem T58_zero : zeroPV T58 = some (.d (.agg [(.bool false), .nilslice, (.bool false), .nilslice])) := by kernel_rfl
@[go_sem] theorem T58_ok : zeroOk T58 = true := by kernel_rfl
noncomputable def T59 : Ty := (tyOf Tryd.prog 59).getD ⟨.invalid, 0, 0, none⟩
@[go_sem] theorem ty59 : tyOf Tryd.prog 59 = some T59 := by kernel_rfl
noncomputable def fs59 : Array Field := match T59.desc with | .struct fs => fs | _ => #[]
@[go_sem] theorem T59_desc : T59.desc = .struct fs59 := by kernel_rfl
noncomputable def fs59_0 : Field := fs59.getD 0 default
@[go_sem] theorem fs59_at0 : fs59[0]? = some fs59_0 := by kernel_rfl
@[go_sem] theorem fs59_0_type : fs59_0.type = 57 := by kernel_rfl
@[go_sem] theorem fs59_0_off : fs59_0.offset = 0 := by kernel_rfl
@[go_sem] theorem fo59_0 : fieldOf Tryd.prog 59 0 = some (0, 2) := by kernel_rfl
noncomputable def fs59_1 : Field := fs59.getD 1 default
@[go_sem] theorem fs59_at1 : fs59[1]? = some fs59_1 := by kernel_rfl
@[go_sem] theorem fs59_1_type : fs59_1.type = 57 := by kernel_rfl
@[go_sem] theorem fs59_1_off : fs59_1.offset = 2 := by kernel_rfl
@[go_sem] theorem fo59_1 : fieldOf Tryd.prog 59 1 = some (2, 2) := by kernel_rfl
@[go_sem] theorem pl59 : placesOf Tryd.prog fs59.toList = some [(0, 2), (2, 2)] := by kernel_rfl
@[go_sem] theorem T59_size : T59.size = 4 := by kernel_rfl
@[go_sem] theorem T59_bytes : T59.bytes = 64 := by kernel_rfl
@[go_sem] theorem T59_cells : zeroCells T59.zero = some [.d (.bool false), .d .nilslice, .d (.bool false), .d .nilslice] := by kernel_rfl
@[go_sem] theorem T59_zero : zeroPV T59 = some (.d (.agg [(.bool false), .nilslice, (.bool false), .nilslice])) := by kernel_rfl
@[go_sem] theorem T59_ok : zeroOk T59 = true := by kernel_rfl
noncomputable def T60 : Ty := (tyOf Tryd.prog 60).getD ⟨.invalid, 0, 0, none⟩
@[go_sem] theorem ty60 : tyOf Tryd.prog 60 = some T60 := by kernel_rfl
@[go_sem] theorem T60_desc : T60.desc = .func #[26] #[59] false := by kernel_rfl
@[go_sem] theorem T60_size : T60.size = 1 := by kernel_rfl
@[go_sem] theorem T60_bytes : T60.bytes = 8 := by kernel_rfl
@[go_sem] theorem T60_zero : zeroPV T60 = some (.d .nilfunc) := by kernel_rfl
@[go_sem] theorem T60_ok : zeroOk T60 = true := by kernel_rfl
noncomputable def T61 : Ty := (tyOf Tryd.prog 61).getD ⟨.invalid, 0, 0, none⟩
@[go_sem] theorem ty61 : tyOf Tryd.prog 61 = some T61 := by kernel_rfl
@[go_sem] theorem T61_desc : T61.desc = .func #[26, 26] #[59] false := by kernel_rfl
@[go_sem] theorem T61_size : T61.size = 1 := by kernel_rfl
@[go_sem] theorem T61_bytes : T61.bytes = 8 := by kernel_rfl
@[go_sem] theorem T61_zero : zeroPV T61 = some (.d .nilfunc) := by kernel_rfl
@[go_sem] theorem T61_ok : zeroOk T61 = true := by kernel_rfl
noncomputable def T62 : Ty := (tyOf Tryd.prog 62).getD ⟨.invalid, 0, 0, none⟩
@[go_sem] theorem ty62 : tyOf Tryd.prog 62 = some T62 := by kernel_rfl
@[go_sem] theorem T62_desc : T62.desc = .func #[3, 3] #[59] false := by kernel_rfl
@[go_sem] theorem T62_size : T62.size = 1 := by kernel_rfl
@[go_sem] theorem T62_bytes : T62.bytes = 8 := by kernel_rfl
@[go_sem] theorem T62_zero : zeroPV T62 = some (.d .nilfunc) := by kernel_rfl
@[go_sem] theorem T62_ok : zeroOk T62 = true := by kernel_rfl
noncomputable def T63 : Ty := (tyOf Tryd.prog 63).getD ⟨.invalid, 0, 0, none⟩
@[go_sem] theorem ty63 : tyOf Tryd.prog 63 = some T63 := by kernel_rfl
@[go_sem] theorem T63_desc : T63.desc = .func #[3, 22, 3, 3, 3, 34] #[4] false := by kernel_rfl
@[go_sem] theorem T63_size : T63.size = 1 := by kernel_rfl
@[go_sem] theorem T63_bytes : T63.bytes = 8 := by kernel_rfl
@[go_sem] theorem T63_zero : zeroPV T63 = some (.d .nilfunc) := by kernel_rfl
@[go_sem] theorem T63_ok : zeroOk T63 = true := by kernel_rfl
noncomputable def T64 : Ty := (tyOf Tryd.prog 64).getD ⟨.invalid, 0, 0, none⟩
@[go_sem] theorem ty64 : tyOf Tryd.prog 64 = some T64 := by kernel_rfl
@[go_sem] theorem T64_desc : T64.desc = .func #[22, 27] #[4] false := by kernel_rfl
@[go_sem] theorem T64_size : T64.size = 1 := by kernel_rfl
@[go_sem] theorem T64_bytes : T64.bytes = 8 := by kernel_rfl
@[go_sem] theorem T64_zero : zeroPV T64 = some (.d .nilfunc) := by kernel_rfl
@[go_sem] theorem T64_ok : zeroOk T64 = true := by kernel_rfl
noncomputable def T65 : Ty := (tyOf Tryd.prog 65).getD ⟨.invalid, 0, 0, none⟩
@[go_sem] theorem ty65 : tyOf Tryd.prog 65 = some T65 := by kernel_rfl
@[go_sem] theorem T65_desc : T65.desc = .func #[59, 59] #[59] false := by kernel_rfl
@[go_sem] theorem T65_size : T65.size = 1 := by kernel_rfl
@[go_sem] theorem T65_bytes : T65.bytes = 8 := by kernel_rfl
@[go_sem] theorem T65_zero : zeroPV T65 = some (.d .nilfunc) := by kernel_rfl
@[go_sem] theorem T65_ok : zeroOk T65 = true := by kernel_rfl
noncomputable def T66 : Ty := (tyOf Tryd.prog 66).getD ⟨.invalid, 0, 0, none⟩
@[go_sem] theorem ty66 : tyOf Tryd.prog 66 = some T66 := by kernel_rfl
@[go_sem] theorem T66_desc : T66.desc = .func #[3, 22, 27] #[4, 28] false := by kernel_rfl
@[go_sem] theorem T66_size : T66.size = 1 := by kernel_rfl
@[go_sem] theorem T66_bytes : T66.bytes = 8 := by kernel_rfl
@[go_sem] theorem T66_zero : zeroPV T66 = some (.d .nilfunc) := by kernel_rfl
@[go_sem] theorem T66_ok : zeroOk T66 = true := by kernel_rfl
noncomputable def T67 : Ty := (tyOf Tryd.prog 67).getD ⟨.invalid, 0, 0, none⟩
@[go_sem] theorem ty67 : tyOf Tryd.prog 67 = some T67 := by kernel_rfl
@[go_sem] theorem T67_desc : T67.desc = .func #[22] #[22] false := by kernel_rfl
@[go_sem] theorem T67_size : T67.size = 1 := by kernel_rfl
@[go_sem] theorem T67_bytes : T67.bytes = 8 := by kernel_rfl
@[go_sem] theorem T67_zero : zeroPV T67 = some (.d .nilfunc) := by kernel_rfl
@[go_sem] theorem T67_ok : zeroOk T67 = true := by kernel_rfl
noncomputable def T68 : Ty := (tyOf Tryd.prog 68).getD ⟨.invalid, 0, 0, none⟩
@[go_sem] theorem ty68 : tyOf Tryd.prog 68 = some T68 := by kernel_rfl
@[go_sem] theorem T68_desc : T68.desc = .func #[3, 22, 27, 34] #[4] false := by kernel_rfl
@[go_sem] theorem T68_size : T68.size = 1 := by kernel_rfl
@[go_sem] theorem T68_bytes : T68.bytes = 8 := by kernel_rfl
@[go_sem] theorem T68_zero : zeroPV T68 = some (.d .nilfunc) := by kernel_rfl
@[go_sem] theorem T68_ok : zeroOk T68 = true := by kernel_rfl
noncomputable def T69 : Ty := (tyOf Tryd.prog 69).getD ⟨.invalid, 0, 0, none⟩
@[go_sem] theorem ty69 : tyOf Tryd.prog 69 = some T69 := by kernel_rfl
@[go_sem] theorem T69_desc : T69.desc = .func #[] #[22] false := by kernel_rfl
@[go_sem] theorem T69_size : T69.size = 1 := by kernel_rfl
@[go_sem] theorem T69_bytes : T69.bytes = 8 := by kernel_rfl
@[go_sem] theorem T69_zero : zeroPV T69 = some (.d .nilfunc) := by kernel_rfl
@[go_sem] theorem T69_ok : zeroOk T69 = true := by kernel_rfl
noncomputable def T71 : Ty := (tyOf Tryd.prog 71).getD ⟨.invalid, 0, 0, none⟩
@[go_sem] theorem ty71 : tyOf Tryd.prog 71 = some T71 := by kernel_rfl
@[go_sem] theorem T71_desc : T71.desc = .func #[3, 22] #[27, 4] false := by kernel_rfl
@[go_sem] theorem T71_size : T71.size = 1 := by kernel_rfl
@[go_sem] theorem T71_bytes : T71.bytes = 8 := by kernel_rfl
@[go_sem] theorem T71_zero : zeroPV T71 = some (.d .nilfunc) := by kernel_rfl
@[go_sem] theorem T71_ok : zeroOk T71 = true := by kernel_rfl
noncomputable def T73 : Ty := (tyOf Tryd.prog 73).getD ⟨.invalid, 0, 0, none⟩
@[go_sem] theorem ty73 : tyOf Tryd.prog 73 = some T73 := by kernel_rfl
@[go_sem] theorem T73_desc : T73.desc = .func #[3, 22, 3, 3] #[59, 27, 4] false := by kernel_rfl
@[go_sem] theorem T73_size : T73.size = 1 := by kernel_rfl
@[go_sem] theorem T73_bytes : T73.bytes = 8 := by kernel_rfl
@[go_sem] theorem T73_zero : zeroPV T73 = some (.d .nilfunc) := by kernel_rfl
@[go_sem] theorem T73_ok : zeroOk T73 = true := by kernel_rfl
noncomputable def T75 : Ty := (tyOf Tryd.prog 75).getD ⟨.invalid, 0, 0, none⟩
@[go_sem] theorem ty75 : tyOf Tryd.prog 75 = some T75 := by kernel_rfl
@[go_sem] theorem T75_desc : T75.desc = .func #[59, 3] #[26, 4] false := by kernel_rfl
@[go_sem] theorem T75_size : T75.size = 1 := by kernel_rfl
@[go_sem] theorem T75_bytes : T75.bytes = 8 := by kernel_rfl
@[go_sem] theorem T75_zero : zeroPV T75 = some (.d .nilfunc) := by kernel_rfl
@[go_sem] theorem T75_ok : zeroOk T75 = true := by kernel_rfl
noncomputable def T76 : Ty := (tyOf Tryd.prog 76).getD ⟨.invalid, 0, 0, none⟩
@[go_sem] theorem ty76 : tyOf Tryd.prog 76 = some T76 := by kernel_rfl
noncomputable def fs76 : Array Field := match T76.desc with | .struct fs => fs | _ => #[]
@[go_sem] theorem T76_desc : T76.desc = .struct fs76 := by kernel_rfl
noncomputable def fs76_0 : Field := fs76.getD 0 default
@[go_sem] theorem fs76_at0 : fs76[0]? = some fs76_0 := by kernel_rfl
@[go_sem] theorem fs76_0_type : fs76_0.type = 3 := by kernel_rfl
@[go_sem] theorem fs76_0_off : fs76_0.offset = 0 := by kernel_rfl
@[go_sem] theorem fo76_0 : fieldOf Tryd.prog 76 0 = some (0, 1) := by kernel_rfl
noncomputable def fs76_1 : Field := fs76.getD 1 default
@[go_sem] theorem fs76_at1 : fs76[1]? = some fs76_1 := by kernel_rfl
@[go_sem] theorem fs76_1_type : fs76_1.type = 22 := by kernel_rfl
@[go_sem] theorem fs76_1_off : fs76_1.offset = 1 := by kernel_rfl
@[go_sem] theorem fo76_1 : fieldOf Tryd.prog 76 1 = some (1, 1) := by kernel_rfl
@[go_sem] theorem pl76 : placesOf Tryd.prog fs76.toList = some [(0, 1), (1, 1)] := by kernel_rfl
@[go_sem] theorem T76_size : T76.size = 2 := by kernel_rfl
@[go_sem] theorem T76_bytes : T76.bytes = 32 := by kernel_rfl
@[go_sem] theorem T76_cells : zeroCells T76.zero = some [.d (.int .i64 0), .d .nilslice] := by kernel_rfl
@[go_sem] theorem T76_zero : zeroPV T76 = some (.d (.agg [(.int .i64 0), .nilslice])) := by kernel_rfl
@[go_sem] theorem T76_ok : zeroOk T76 = true := by kernel_rfl
noncomputable def T77 : Ty := (tyOf Tryd.prog 77).getD ⟨.invalid, 0, 0, none⟩
@[go_sem] theorem ty77 : tyOf Tryd.prog 77 = some T77 := by kernel_rfl
noncomputable def fs77 : Array Field := match T77.desc with | .struct fs => fs | _ => #[]
@[go_sem] theorem T77_desc : T77.desc = .struct fs77 := by kernel_rfl
noncomputable def fs77_0 : Field := fs77.getD 0 default
@[go_sem] theorem fs77_at0 : fs77[0]? = some fs77_0 := by kernel_rfl
@[go_sem] theorem fs77_0_type : fs77_0.type = 3 := by kernel_rfl
@[go_sem] theorem fs77_0_off : fs77_0.offset = 0 := by kernel_rfl
@[go_sem] theorem fo77_0 : fieldOf Tryd.prog 77 0 = some (0, 1) := by kernel_rfl
noncomputable def fs77_1 : Field := fs77.getD 1 default
@[go_sem] theorem fs77_at1 : fs77[1]? = some fs77_1 := by kernel_rfl
@[go_sem] theorem fs77_1_type : fs77_1.type = 22 := by kernel_rfl
@[go_sem] theorem fs77_1_off : fs77_1.offset = 1 := by kernel_rfl
@[go_sem] theorem fo77_1 : fieldOf Tryd.prog 77 1 = some (1, 1) := by kernel_rfl
@[go_sem] theorem pl77 : placesOf Tryd.prog fs77.toList = some [(0, 1), (1, 1)] := by kernel_rfl
@[go_sem] theorem T77_size : T77.size = 2 := by kernel_rfl
@[go_sem] theorem T77_bytes : T77.bytes = 32 := by kernel_rfl
@[go_sem] theorem T77_cells : zeroCells T77.zero = some [.d (.int .i64 0), .d .nilslice] := by kernel_rfl
@[go_sem] theorem T77_zero : zeroPV T77 = some (.d (.agg [(.int .i64 0), .nilslice])) := by kernel_rfl
@[go_sem] theorem T77_ok : zeroOk T77 = true := by kernel_rfl
noncomputable def T79 : Ty := (tyOf Tryd.prog 79).getD ⟨.invalid, 0, 0, none⟩
@[go_sem] theorem ty79 : tyOf Tryd.prog 79 = some T79 := by kernel_rfl
@[go_sem] theorem T79_desc : T79.desc = .func #[3, 22] #[77, 28] false := by kernel_rfl
@[go_sem] theorem T79_size : T79.size = 1 := by kernel_rfl
@[go_sem] theorem T79_bytes : T79.bytes = 8 := by kernel_rfl
@[go_sem] theorem T79_zero : zeroPV T79 = some (.d .nilfunc) := by kernel_rfl
@[go_sem] theorem T79_ok : zeroOk T79 = true := by kernel_rfl
noncomputable def T80 : Ty := (tyOf Tryd.prog 80).getD ⟨.invalid, 0, 0, none⟩
@[go_sem] theorem ty80 : tyOf Tryd.prog 80 = some T80 := by kernel_rfl
@[go_sem] theorem T80_desc : T80.desc = .func #[3] #[4] false := by kernel_rfl
@[go_sem] theorem T80_size : T80.size = 1 := by kernel_rfl
@[go_sem] theorem T80_bytes : T80.bytes = 8 := by kernel_rfl
@[go_sem] theorem T80_zero : zeroPV T80 = some (.d .nilfunc) := by kernel_rfl
@[go_sem] theorem T80_ok : zeroOk T80 = true := by kernel_rfl
noncomputable def T81 : Ty := (tyOf Tryd.prog 81).getD ⟨.invalid, 0, 0, none⟩
@[go_sem] theorem ty81 : tyOf Tryd.prog 81 = some T81 := by kernel_rfl
@[go_sem] theorem T81_desc : T81.desc = .func #[] #[27] false := by kernel_rfl
@[go_sem] theorem T81_size : T81.size = 1 := by kernel_rfl
@[go_sem] theorem T81_bytes : T81.bytes = 8 := by kernel_rfl
@[go_sem] theorem T81_zero : zeroPV T81 = some (.d .nilfunc) := by kernel_rfl
@[go_sem] theorem T81_ok : zeroOk T81 = true := by kernel_rfl
noncomputable def T82 : Ty := (tyOf Tryd.prog 82).getD ⟨.invalid, 0, 0, none⟩
@[go_sem] theorem ty82 : tyOf Tryd.prog 82 = some T82 := by kernel_rfl
noncomputable def fs82 : Array Field := match T82.desc with | .struct fs => fs | _ => #[]
@[go_sem] theorem T82_desc : T82.desc = .struct fs82 := by kernel_rfl
noncomputable def fs82_0 : Field := fs82.getD 0 default
@[go_sem] theorem fs82_at0 : fs82[0]? = some fs82_0 := by kernel_rfl
@[go_sem] theorem fs82_0_type : fs82_0.type = 27 := by kernel_rfl
@[go_sem] theorem fs82_0_off : fs82_0.offset = 0 := by kernel_rfl
@[go_sem] theorem fo82_0 : fieldOf Tryd.prog 82 0 = some (0, 1) := by kernel_rfl
noncomputable def fs82_1 : Field := fs82.getD 1 default
@[go_sem] theorem fs82_at1 : fs82[1]? = some fs82_1 := by kernel_rfl
@[go_sem] theorem fs82_1_type : fs82_1.type = 26 := by kernel_rfl
@[go_sem] theorem fs82_1_off : fs82_1.offset = 1 := by kernel_rfl
@[go_sem] theorem fo82_1 : fieldOf Tryd.prog 82 1 = some (1, 2) := by kernel_rfl
noncomputable def fs82_2 : Field := fs82.getD 2 default
@[go_sem] theorem fs82_at2 : fs82[2]? = some fs82_2 := by kernel_rfl
@[go_sem] theorem fs82_2_type : fs82_2.type = 3 := by kernel_rfl
@[go_sem] theorem fs82_2_off : fs82_2.offset = 3 := by kernel_rfl
@[go_sem] theorem fo82_2 : fieldOf Tryd.prog 82 2 = some (3, 1) := by kernel_rfl
@[go_sem] theorem pl82 : placesOf Tryd.prog fs82.toList = some [(0, 1), (1, 2), (3, 1)] := by kernel_rfl
@[go_sem] theorem T82_size : T82.size = 4 := by kernel_rfl
@[go_sem] theorem T82_bytes : T82.bytes = 48 := by kernel_rfl
@[go_sem] theorem T82_cells : zeroCells T82.zero = some [.d .nilslice, .d (.int .i64 0), .d (.int .i64 0), .d (.int .i64 0)] := by kernel_rfl
@[go_sem] theorem T82_zero : zeroPV T82 = some (.d (.agg [.nilslice, (.int .i64 0), (.int .i64 0), (.int .i64 0)])) := by kernel_rfl
@[go_sem] theorem T82_ok : zeroOk T82 = true := by kernel_rfl
noncomputable def T83 : Ty := (tyOf Tryd.prog 83).getD ⟨.invalid, 0, 0, none⟩
@[go_sem] theorem ty83 : tyOf Tryd.prog 83 = some T83 := by kernel_rfl
noncomputable def fs83 : Array Field := match T83.desc with | .struct fs => fs | _ => #[]
@[go_sem] theorem T83_desc : T83.desc = .struct fs83 := by kernel_rfl
noncomputable def fs83_0 : Field := fs83.getD 0 default
@[go_sem] theorem fs83_at0 : fs83[0]? = some fs83_0 := by kernel_rfl
@[go_sem] theorem fs83_0_type : fs83_0.type = 27 := by kernel_rfl
@[go_sem] theorem fs83_0_off : fs83_0.offset = 0 := by kernel_rfl
@[go_sem] theorem fo83_0 : fieldOf Tryd.prog 83 0 = some (0, 1) := by kernel_rfl
noncomputable def fs83_1 : Field := fs83.getD 1 default
@[go_sem] theorem fs83_at1 : fs83[1]? = some fs83_1 := by kernel_rfl
@[go_sem] theorem fs83_1_type : fs83_1.type = 26 := by kernel_rfl
@[go_sem] theorem fs83_1_off : fs83_1.offset = 1 := by kernel_rfl
@[go_sem] theorem fo83_1 : fieldOf Tryd.prog 83 1 = some (1, 2) := by kernel_rfl
noncomputable def fs83_2 : Field := fs83.getD 2 default
@[go_sem] theorem fs83_at2 : fs83[2]? = some fs83_2 := by kernel_rfl
@[go_sem] theorem fs83_2_type : fs83_2.type = 3 := by kernel_rfl
@[go_sem] theorem fs83_2_off : fs83_2.offset = 3 := by kernel_rfl
@[go_sem] theorem fo83_2 : fieldOf Tryd.prog 83 2 = some (3, 1) := by kernel_rfl
@[go_sem] theorem pl83 : placesOf Tryd.prog fs83.toList = some [(0, 1), (1, 2), (3, 1)] := by kernel_rfl
@[go_sem] theorem T83_size : T83.size = 4 := by kernel_rfl
@[go_sem] theorem T83_bytes : T83.bytes = 48 := by kernel_rfl
@[go_sem] theorem T83_cells : zeroCells T83.zero = some [.d .nilslice, .d (.int .i64 0), .d (.int .i64 0), .d (.int .i64 0)] := by kernel_rfl
@[go_sem] theorem T83_zero : zeroPV T83 = some (.d (.agg [.nilslice, (.int .i64 0), (.int .i64 0), (.int .i64 0)])) := by kernel_rfl
@[go_sem] theorem T83_ok : zeroOk T83 = true := by kernel_rfl
noncomputable def T85 : Ty := (tyOf Tryd.prog 85).getD ⟨.invalid, 0, 0, none⟩
@[go_sem] theorem ty85 : tyOf Tryd.prog 85 = some T85 := by kernel_rfl
@[go_sem] theorem T85_desc : T85.desc = .func #[3, 3] #[83, 4] false := by kernel_rfl
@[go_sem] theorem T85_size : T85.size = 1 := by kernel_rfl
@[go_sem] theorem T85_bytes : T85.bytes = 8 := by kernel_rfl
@[go_sem] theorem T85_zero : zeroPV T85 = some (.d .nilfunc) := by kernel_rfl
@[go_sem] theorem T85_ok : zeroOk T85 = true := by kernel_rfl
noncomputable def T86 : Ty := (tyOf Tryd.prog 86).getD ⟨.invalid, 0, 0, none⟩
@[go_sem] theorem ty86 : tyOf Tryd.prog 86 = some T86 := by kernel_rfl
@[go_sem] theorem T86_desc : T86.desc = .slice 90 := by kernel_rfl
@[go_sem] theorem es86 : elemSize Tryd.prog 86 = some 5 := by kernel_rfl
@[go_sem] theorem T86_size : T86.size = 1 := by kernel_rfl
@[go_sem] theorem T86_bytes : T86.bytes = 24 := by kernel_rfl
@[go_sem] theorem T86_zero : zeroPV T86 = some (.d .nilslice) := by kernel_rfl
@[go_sem] theorem T86_ok : zeroOk T86 = true := by kernel_rfl
noncomputable def T87 : Ty := (tyOf Tryd.prog 87).getD ⟨.invalid, 0, 0, none⟩
@[go_sem] theorem ty87 : tyOf Tryd.prog 87 = some T87 := by kernel_rfl
@[go_sem] theorem T87_desc : T87.desc = .slice 86 := by kernel_rfl
@[go_sem] theorem es87 : elemSize Tryd.prog 87 = some 1 := by kernel_rfl
@[go_sem] theorem T87_size : T87.size = 1 := by kernel_rfl
@[go_sem] theorem T87_bytes : T87.bytes = 24 := by kernel_rfl
@[go_sem] theorem T87_zero : zeroPV T87 = some (.d .nilslice) := by kernel_rfl
@[go_sem] theorem T87_ok : zeroOk T87 = true := by kernel_rfl
noncomputable def T88 : Ty := (tyOf Tryd.prog 88).getD ⟨.invalid, 0, 0, none⟩
@[go_sem] theorem ty88 : tyOf Tryd.prog 88 = some T88 := by kernel_rfl
@[go_sem] theorem T88_desc : T88.desc = .func #[3, 22, 3, 3] #[87] false := by kernel_rfl
@[go_sem] theorem T88_size : T88.size = 1 := by kernel_rfl
@[go_sem] theorem T88_bytes : T88.bytes = 8 := by kernel_rfl
@[go_sem] theorem T88_zero : zeroPV T88 = some (.d .nilfunc) := by kernel_rfl
@[go_sem] theorem T88_ok : zeroOk T88 = true := by kernel_rfl
noncomputable def T89 : Ty := (tyOf Tryd.prog 89).getD ⟨.invalid, 0, 0, none⟩
@[go_sem] theorem ty89 : tyOf Tryd.prog 89 = some T89 := by kernel_rfl
noncomputable def fs89 : Array Field := match T89.desc with | .struct fs => fs | _ => #[]
@[go_sem] theorem T89_desc : T89.desc = .struct fs89 := by kernel_rfl
noncomputable def fs89_0 : Field := fs89.getD 0 default
@[go_sem] theorem fs89_at0 : fs89[0]? = some fs89_0 := by kernel_rfl
@[go_sem] theorem fs89_0_type : fs89_0.type = 4 := by kernel_rfl
@[go_sem] theorem fs89_0_off : fs89_0.offset = 0 := by kernel_rfl
@[go_sem] theorem fo89_0 : fieldOf Tryd.prog 89 0 = some (0, 1) := by kernel_rfl
noncomputable def fs89_1 : Field := fs89.getD 1 default
@[go_sem] theorem fs89_at1 : fs89[1]? = some fs89_1 := by kernel_rfl
@[go_sem] theorem fs89_1_type : fs89_1.type = 59 := by kernel_rfl
@[go_sem] theorem fs89_1_off : fs89_1.offset = 1 := by kernel_rfl
@[go_sem] theorem fo89_1 : fieldOf Tryd.prog 89 1 = some (1, 4) := by kernel_rfl
@[go_sem] theorem pl89 : placesOf Tryd.prog fs89.toList = some [(0, 1), (1, 4)] := by kernel_rfl
@[go_sem] theorem T89_size : T89.size = 5 := by kernel_rfl
@[go_sem] theorem T89_bytes : T89.bytes = 72 := by kernel_rfl
@[go_sem] theorem T89_cells : zeroCells T89.zero = some [.d (.bool false), .d (.bool false), .d .nilslice, .d (.bool false), .d .nilslice] := by kernel_rfl
@[go_sem] theorem T89_zero : zeroPV T89 = some (.d (.agg [(.bool false), (.bool false), .nilslice, (.bool false), .nilslice])) := by kernel_rfl
@[go_sem] theorem T89_ok : zeroOk T89 = true := by kernel_rfl
noncomputable def T90 : Ty := (tyOf Tryd.prog 90).getD ⟨.invalid, 0, 0, none⟩
@[go_sem] theorem ty90 : tyOf Tryd.prog 90 = some T90 := by kernel_rfl
noncomputable def fs90 : Array Field := match T90.desc with | .struct fs => fs | _ => #[]
@[go_sem] theorem T90_desc : T90.desc = .struct fs90 := by kernel_rfl
noncomputable def fs90_0 : Field := fs90.getD 0 default
@[go_sem] theorem fs90_at0 : fs90[0]? = some fs90_0 := by kernel_rfl
@[go_sem] theorem fs90_0_type : fs90_0.type = 4 := by kernel_rfl
@[go_sem] theorem fs90_0_off : fs90_0.offset = 0 := by kernel_rfl
@[go_sem] theorem fo90_0 : fieldOf Tryd.prog 90 0 = some (0, 1) := by kernel_rfl
noncomputable def fs90_1 : Field := fs90.getD 1 default
@[go_sem] theorem fs90_at1 : fs90[1]? = some fs90_1 := by kernel_rfl
@[go_sem] theorem fs90_1_type : fs90_1.type = 59 := by kernel_rfl
@[go_sem] theorem fs90_1_off : fs90_1.offset = 1 := by kernel_rfl
@[go_sem] theorem fo90_1 : fieldOf Tryd.prog 90 1 = some (1, 4) := by kernel_rfl
@[go_sem] theorem pl90 : placesOf Tryd.prog fs90.toList = some [(0, 1), (1, 4)] := by kernel_rfl
@[go_sem] theorem T90_size : T90.size = 5 := by kernel_rfl
@[go_sem] theorem T90_bytes : T90.bytes = 72 := by kernel_rfl
@[go_sem] theorem T90_cells : zeroCells T90.zero = some [.d (.bool false), .d (.bool false), .d .nilslice, .d (.bool false), .d .nilslice] := by kernel_rfl
@[go_sem] theorem T90_zero : zeroPV T90 = some (.d (.agg [(.bool false), (.bool false), .nilslice, (.bool false), .nilslice])) := by kernel_rfl
@[go_sem] theorem T90_ok : zeroOk T90 = true := by kernel_rfl
noncomputable def T91 : Ty := (tyOf Tryd.prog 91).getD ⟨.invalid, 0, 0, none⟩
@[go_sem] theorem ty91 : tyOf Tryd.prog 91 = some T91 := by kernel_rfl
@[go_sem] theorem T91_desc : T91.desc = .func #[90, 59] #[4] false := by kernel_rfl
@[go_sem] theorem T91_size : T91.size = 1 := by kernel_rfl
@[go_sem] theorem T91_bytes : T91.bytes = 8 := by kernel_rfl
@[go_sem] theorem T91_zero : zeroPV T91 = some (.d .nilfunc) := by kernel_rfl
@[go_sem] theorem T91_ok : zeroOk T91 = true := by kernel_rfl
noncomputable def T92 : Ty := (tyOf Tryd.prog 92).getD ⟨.invalid, 0, 0, none⟩
@[go_sem] theorem ty92 : tyOf Tryd.prog 92 = some T92 := by kernel_rfl
@[go_sem] theorem T92_desc : T92.desc = .func #[26, 26] #[26] false := by kernel_rfl
@[go_sem] theorem T92_size : T92.size = 1 := by kernel_rfl
@[go_sem] theorem T92_bytes : T92.bytes = 8 := by kernel_rfl
@[go_sem] theorem T92_zero : zeroPV T92 = some (.d .nilfunc) := by kernel_rfl
@[go_sem] theorem T92_ok : zeroOk T92 = true := by kernel_rfl
noncomputable def T93 : Ty := (tyOf Tryd.prog 93).getD ⟨.invalid, 0, 0, none⟩
@[go_sem] theorem ty93 : tyOf Tryd.prog 93 = some T93 := by kernel_rfl
@[go_sem] theorem T93_desc : T93.desc = .func #[22, 3, 3] #[22] false := by kernel_rfl
@[go_sem] theorem T93_size : T93.size = 1 := by kernel_rfl
@[go_sem] theorem T93_bytes : T93.bytes = 8 := by kernel_rfl
@[go_sem] theorem T93_zero : zeroPV T93 = some (.d .nilfunc) := by kernel_rfl
@[go_sem] theorem T93_ok : zeroOk T93 = true := by kernel_rfl
noncomputable def T94 : Ty := (tyOf Tryd.prog 94).getD ⟨.invalid, 0, 0, none⟩
@[go_sem] theorem ty94 : tyOf Tryd.prog 94 = some T94 := by kernel_rfl
@[go_sem] theorem T94_desc : T94.desc = .func #[3, 3] #[26] false := by kernel_rfl
@[go_sem] theorem T94_size : T94.size = 1 := by kernel_rfl
@[go_sem] theorem T94_bytes : T94.bytes = 8 := by kernel_rfl
@[go_sem] theorem T94_zero : zeroPV T94 = some (.d .nilfunc) := by kernel_rfl
@[go_sem] theorem T94_ok : zeroOk T94 = true := by kernel_rfl
noncomputable def T95 : Ty := (tyOf Tryd.prog 95).getD ⟨.invalid, 0, 0, none⟩
@[go_sem] theorem ty95 : tyOf Tryd.prog 95 = some T95 := by kernel_rfl
@[go_sem] theorem T95_desc : T95.desc = .func #[43] #[59] false := by kernel_rfl
@[go_sem] theorem T95_size : T95.size = 1 := by kernel_rfl
@[go_sem] theorem T95_bytes : T95.bytes = 8 := by kernel_rfl
@[go_sem] theorem T95_zero : zeroPV T95 = some (.d .nilfunc) := by kernel_rfl
@[go_sem] theorem T95_ok : zeroOk T95 = true := by kernel_rfl
noncomputable def T97 : Ty := (tyOf Tryd.prog 97).getD ⟨.invalid, 0, 0, none⟩
@[go_sem] theorem ty97 : tyOf Tryd.prog 97 = some T97 := by kernel_rfl
@[go_sem] theorem T97_desc : T97.desc = .func #[27] #[26, 27, 4] false := by kernel_rfl
@[go_sem] theorem T97_size : T97.size = 1 := by kernel_rfl
@[go_sem] theorem T97_bytes : T97.bytes = 8 := by kernel_rfl
@[go_sem] theorem T97_zero : zeroPV T97 = some (.d .nilfunc) := by kernel_rfl
@[go_sem] theorem T97_ok : zeroOk T97 = true := by kernel_rfl
noncomputable def T98 : Ty := (tyOf Tryd.prog 98).getD ⟨.invalid, 0, 0, none⟩
@[go_sem] theorem ty98 : tyOf Tryd.prog 98 = some T98 := by kernel_rfl
@[go_sem] theorem T98_desc : T98.desc = .func #[3, 3] #[3] false := by kernel_rfl
@[go_sem] theorem T98_size : T98.size = 1 := by kernel_rfl
@[go_sem] theorem T98_bytes : T98.bytes = 8 := by kernel_rfl
@[go_sem] theorem T98_zero : zeroPV T98 = some (.d .nilfunc) := by kernel_rfl
@[go_sem] theorem T98_ok : zeroOk T98 = true := by kernel_rfl
noncomputable def T99 : Ty := (tyOf Tryd.prog 99).getD ⟨.invalid, 0, 0, none⟩
@[go_sem] theorem ty99 : tyOf Tryd.prog 99 = some T99 := by kernel_rfl
@[go_sem] theorem T99_desc : T99.desc = .func #[34, 47] #[4] false := by kernel_rfl
@[go_sem] theorem T99_size : T99.size = 1 := by kernel_rfl
@[go_sem] theorem T99_bytes : T99.bytes = 8 := by kernel_rfl
@[go_sem] theorem T99_zero : zeroPV T99 = some (.d .nilfunc) := by kernel_rfl
@[go_sem] theorem T99_ok : zeroOk T99 = true := by kernel_rfl
noncomputable def T100 : Ty := (tyOf Tryd.prog 100).getD ⟨.invalid, 0, 0, none⟩
@[go_sem] theorem ty100 : tyOf Tryd.prog 100 = some T100 := by kernel_rfl
@[go_sem] theorem T100_desc : T100.desc = .int .u64 := by kernel_rfl
@[go_sem] theorem T100_size : T100.size = 1 := by kernel_rfl
@[go_sem] theorem T100_bytes : T100.bytes = 8 := by kernel_rfl
@[go_sem] theorem T100_zero : zeroPV T100 = some (.d (.int .u64 0)) := by kernel_rfl
@[go_sem] theorem T100_ok : zeroOk T100 = true := by kernel_rfl
noncomputable def T102 : Ty := (tyOf Tryd.prog 102).getD ⟨.invalid, 0, 0, none⟩
@[go_sem] theorem ty102 : tyOf Tryd.prog 102 = some T102 := by kernel_rfl
@[go_sem] theorem T102_desc : T102.desc = .func #[100, 100] #[100, 100] false := by kernel_rfl
@[go_sem] theorem T102_size : T102.size = 1 := by kernel_rfl
@[go_sem] theorem T102_bytes : T102.bytes = 8 := by kernel_rfl
@[go_sem] theorem T102_zero : zeroPV T102 = some (.d .nilfunc) := by kernel_rfl
@[go_sem] theorem T102_ok : zeroOk T102 = true := by kernel_rfl
noncomputable def T103 : Ty := (tyOf Tryd.prog 103).getD ⟨.invalid, 0, 0, none⟩
@[go_sem] theorem ty103 : tyOf Tryd.prog 103 = some T103 := by kernel_rfl
@[go_sem] theorem T103_desc : T103.desc = .func #[57, 57] #[3] false := by kernel_rfl
@[go_sem] theorem T103_size : T103.size = 1 := by kernel_rfl
@[go_sem] theorem T103_bytes : T103.bytes = 8 := by kernel_rfl
@[go_sem] theorem T103_zero : zeroPV T103 = some (.d .nilfunc) := by kernel_rfl
@[go_sem] theorem T103_ok : zeroOk T103 = true := by kernel_rfl
noncomputable def T104 : Ty := (tyOf Tryd.prog 104).getD ⟨.invalid, 0, 0, none⟩
@[go_sem] theorem ty104 : tyOf Tryd.prog 104 = some T104 := by kernel_rfl
@[go_sem] theorem T104_desc : T104.desc = .func #[57, 57] #[57] false := by kernel_rfl
@[go_sem] theorem T104_size : T104.size = 1 := by kernel_rfl
@[go_sem] theorem T104_bytes : T104.bytes = 8 := by kernel_rfl
@[go_sem] theorem T104_zero : zeroPV T104 = some (.d .nilfunc) := by kernel_rfl
@[go_sem] theorem T104_ok : zeroOk T104 = true := by kernel_rfl
noncomputable def T105 : Ty := (tyOf Tryd.prog 105).getD ⟨.invalid, 0, 0, none⟩
@[go_sem] theorem ty105 : tyOf Tryd.prog 105 = some T105 := by kernel_rfl
@[go_sem] theorem T105_desc : T105.desc = .func #[57, 57] #[59] false := by kernel_rfl
@[go_sem] theorem T105_size : T105.size = 1 := by kernel_rfl
@[go_sem] theorem T105_bytes : T105.bytes = 8 := by kernel_rfl
@[go_sem] theorem T105_zero : zeroPV T105 = some (.d .nilfunc) := by kernel_rfl
@[go_sem] theorem T105_ok : zeroOk T105 = true := by kernel_rfl
noncomputable def T106 : Ty := (tyOf Tryd.prog 106).getD ⟨.invalid, 0, 0, none⟩
@[go_sem] theorem ty106 : tyOf Tryd.prog 106 = some T106 := by kernel_rfl
@[go_sem] theorem T106_desc : T106.desc = .func #[3] #[57] false := by kernel_rfl
@[go_sem] theorem T106_size : T106.size = 1 := by kernel_rfl
@[go_sem] theorem T106_bytes : T106.bytes = 8 := by kernel_rfl
@[go_sem] theorem T106_zero : zeroPV T106 = some (.d .nilfunc) := by kernel_rfl
@[go_sem] theorem T106_ok : zeroOk T106 = true := by kernel_rfl
noncomputable def T107 : Ty := (tyOf Tryd.prog 107).getD ⟨.invalid, 0, 0, none⟩
@[go_sem] theorem ty107 : tyOf Tryd.prog 107 = some T107 := by kernel_rfl
@[go_sem] theorem T107_desc : T107.desc = .func #[27] #[] false := by kernel_rfl
@[go_sem] theorem T107_size : T107.size = 1 := by kernel_rfl
@[go_sem] theorem T107_bytes : T107.bytes = 8 := by kernel_rfl
@[go_sem] theorem T107_zero : zeroPV T107 = some (.d .nilfunc) := by kernel_rfl
@[go_sem] theorem T107_ok : zeroOk T107 = true := by kernel_rfl
noncomputable def T108 : Ty := (tyOf Tryd.prog 108).getD ⟨.invalid, 0, 0, none⟩
@[go_sem] theorem ty108 : tyOf Tryd.prog 108 = some T108 := by kernel_rfl
@[go_sem] theorem T108_desc : T108.desc = .func #[27] #[27] false := by kernel_rfl
@[go_sem] theorem T108_size : T108.size = 1 := by kernel_rfl
@[go_sem] theorem T108_bytes : T108.bytes = 8 := by kernel_rfl
@[go_sem] theorem T108_zero : zeroPV T108 = some (.d .nilfunc) := by kernel_rfl
@[go_sem] theorem T108_ok : zeroOk T108 = true := by kernel_rfl
noncomputable def T109 : Ty := (tyOf Tryd.prog 109).getD ⟨.invalid, 0, 0, none⟩
@[go_sem] theorem ty109 : tyOf Tryd.prog 109 = some T109 := by kernel_rfl
@[go_sem] theorem T109_desc : T109.desc = .slice 87 := by kernel_rfl
@[go_sem] theorem es109 : elemSize Tryd.prog 109 = some 1 := by kernel_rfl
@[go_sem] theorem T109_size : T109.size = 1 := by kernel_rfl
@[go_sem] theorem T109_bytes : T109.bytes = 24 := by kernel_rfl
@[go_sem] theorem T109_zero : zeroPV T109 = some (.d .nilslice) := by kernel_rfl
@[go_sem] theorem T109_ok : zeroOk T109 = true := by kernel_rfl
noncomputable def T110 : Ty := (tyOf Tryd.prog 110).getD ⟨.invalid, 0, 0, none⟩
@[go_sem] theorem ty110 : tyOf Tryd.prog 110 = some T110 := by kernel_rfl
@[go_sem] theorem T110_desc : T110.desc = .func #[22, 87, 3, 3] #[27, 4] false := by kernel_rfl
@[go_sem] theorem T110_size : T110.size = 1 := by kernel_rfl
@[go_sem] theorem T110_bytes : T110.bytes = 8 := by kernel_rfl
@[go_sem] theorem T110_zero : zeroPV T110 = some (.d .nilfunc) := by kernel_rfl
@[go_sem] theorem T110_ok : zeroOk T110 = true := by kernel_rfl
noncomputable def T112 : Ty := (tyOf Tryd.prog 112).getD ⟨.invalid, 0, 0, none⟩
@[go_sem] theorem ty112 : tyOf Tryd.prog 112 = some T112 := by kernel_rfl
@[go_sem] theorem T112_desc : T112.desc = .func #[57, 3] #[3, 4] false := by kernel_rfl
@[go_sem] theorem T112_size : T112.size = 1 := by kernel_rfl
@[go_sem] theorem T112_bytes : T112.bytes = 8 := by kernel_rfl
@[go_sem] theorem T112_zero : zeroPV T112 = some (.d .nilfunc) := by kernel_rfl
@[go_sem] theorem T112_ok : zeroOk T112 = true := by kernel_rfl
noncomputable def T113 : Ty := (tyOf Tryd.prog 113).getD ⟨.invalid, 0, 0, none⟩
@[go_sem] theorem ty113 : tyOf Tryd.prog 113 = some T113 := by kernel_rfl
@[go_sem] theorem T113_desc : T113.desc = .func #[127] #[] false := by kernel_rfl
@[go_sem] theorem T113_size : T113.size = 1 := by kernel_rfl
@[go_sem] theorem T113_bytes : T113.bytes = 8 := by kernel_rfl
@[go_sem] theorem T113_zero : zeroPV T113 = some (.d .nilfunc) := by kernel_rfl
@[go_sem] theorem T113_ok : zeroOk T113 = true := by kernel_rfl
noncomputable def T114 : Ty := (tyOf Tryd.prog 114).getD ⟨.invalid, 0, 0, none⟩
@[go_sem] theorem ty114 : tyOf Tryd.prog 114 = some T114 := by kernel_rfl
@[go_sem] theorem T114_desc : T114.desc = .func #[127] #[] false := by kernel_rfl
@[go_sem] theorem T114_size : T114.size = 1 := by kernel_rfl
@[go_sem] theorem T114_bytes : T114.bytes = 8 := by kernel_rfl
@[go_sem] theorem T114_zero : zeroPV T114 = some (.d .nilfunc) := by kernel_rfl
@[go_sem] theorem T114_ok : zeroOk T114 = true := by kernel_rfl
noncomputable def T115 : Ty := (tyOf Tryd.prog 115).getD ⟨.invalid, 0, 0, none⟩
@[go_sem] theorem ty115 : tyOf Tryd.prog 115 = some T115 := by kernel_rfl
@[go_sem] theorem T115_desc : T115.desc = .func #[3, 3, 4] #[114] false := by kernel_rfl
@[go_sem] theorem T115_size : T115.size = 1 := by kernel_rfl
@[go_sem] theorem T115_bytes : T115.bytes = 8 := by kernel_rfl
@[go_sem] theorem T115_zero : zeroPV T115 = some (.d .nilfunc) := by kernel_rfl
@[go_sem] theorem T115_ok : zeroOk T115 = true := by kernel_rfl
noncomputable def T116 : Ty := (tyOf Tryd.prog 116).getD ⟨.invalid, 0, 0, none⟩
@[go_sem] theorem ty116 : tyOf Tryd.prog 116 = some T116 := by kernel_rfl
@[go_sem] theorem T116_desc : T116.desc = .func #[27, 27] #[3] false := by kernel_rfl
@[go_sem] theorem T116_size : T116.size = 1 := by kernel_rfl
@[go_sem] theorem T116_bytes : T116.bytes = 8 := by kernel_rfl
@[go_sem] theorem T116_zero : zeroPV T116 = some (.d .nilfunc) := by kernel_rfl
@[go_sem] theorem T116_ok : zeroOk T116 = true := by kernel_rfl
noncomputable def T117 : Ty := (tyOf Tryd.prog 117).getD ⟨.invalid, 0, 0, none⟩
@[go_sem] theorem ty117 : tyOf Tryd.prog 117 = some T117 := by kernel_rfl
@[go_sem] theorem T117_desc : T117.desc = .func #[34, 47] #[3] false := by kernel_rfl
@[go_sem] theorem T117_size : T117.size = 1 := by kernel_rfl
@[go_sem] theorem T117_bytes : T117.bytes = 8 := by kernel_rfl
@[go_sem] theorem T117_zero : zeroPV T117 = some (.d .nilfunc) := by kernel_rfl
@[go_sem] theorem T117_ok : zeroOk T117 = true := by kernel_rfl
noncomputable def T118 : Ty := (tyOf Tryd.prog 118).getD ⟨.invalid, 0, 0, none⟩
@[go_sem] theorem ty118 : tyOf Tryd.prog 118 = some T118 := by kernel_rfl
@[go_sem] theorem T118_desc : T118.desc = .int .u64 := by kernel_rfl
@[go_sem] theorem T118_size : T118.size = 1 := by kernel_rfl
@[go_sem] theorem T118_bytes : T118.bytes = 8 := by kernel_rfl
@[go_sem] theorem T118_zero : zeroPV T118 = some (.d (.int .u64 0)) := by kernel_rfl
@[go_sem] theorem T118_ok : zeroOk T118 = true := by kernel_rfl
noncomputable def T119 : Ty := (tyOf Tryd.prog 119).getD ⟨.invalid, 0, 0, none⟩
@[go_sem] theorem ty119 : tyOf Tryd.prog 119 = some T119 := by kernel_rfl
@[go_sem] theorem T119_desc : T119.desc = .func #[4, 27] #[57] false := by kernel_rfl
@[go_sem] theorem T119_size : T119.size = 1 := by kernel_rfl
@[go_sem] theorem T119_bytes : T119.bytes = 8 := by kernel_rfl
@[go_sem] theorem T119_zero : zeroPV T119 = some (.d .nilfunc) := by kernel_rfl
@[go_sem] theorem T119_ok : zeroOk T119 = true := by kernel_rfl
noncomputable def T120 : Ty := (tyOf Tryd.prog 120).getD ⟨.invalid, 0, 0, none⟩
@[go_sem] theorem ty120 : tyOf Tryd.prog 120 = some T120 := by kernel_rfl
@[go_sem] theorem T120_desc : T120.desc = .func #[27, 27] #[27] false := by kernel_rfl
@[go_sem] theorem T120_size : T120.size = 1 := by kernel_rfl
@[go_sem] theorem T120_bytes : T120.bytes = 8 := by kernel_rfl
@[go_sem] theorem T120_zero : zeroPV T120 = some (.d .nilfunc) := by kernel_rfl
@[go_sem] theorem T120_ok : zeroOk T120 = true := by kernel_rfl
noncomputable def T121 : Ty := (tyOf Tryd.prog 121).getD ⟨.invalid, 0, 0, none⟩
@[go_sem] theorem ty121 : tyOf Tryd.prog 121 = some T121 := by kernel_rfl
@[go_sem] theorem T121_desc : T121.desc = .func #[57] #[57] false := by kernel_rfl
@[go_sem] theorem T121_size : T121.size = 1 := by kernel_rfl
@[go_sem] theorem T121_bytes : T121.bytes = 8 := by kernel_rfl
@[go_sem] theorem T121_zero : zeroPV T121 = some (.d .nilfunc) := by kernel_rfl
@[go_sem] theorem T121_ok : zeroOk T121 = true := by kernel_rfl
noncomputable def T123 : Ty := (tyOf Tryd.prog 123).getD ⟨.invalid, 0, 0, none⟩
@[go_sem] theorem ty123 : tyOf Tryd.prog 123 = some T123 := by kernel_rfl
@[go_sem] theorem T123_desc : T123.desc = .func #[57, 57] #[57, 57] false := by kernel_rfl
@[go_sem] theorem T123_size : T123.size = 1 := by kernel_rfl
@[go_sem] theorem T123_bytes : T123.bytes = 8 := by kernel_rfl
@[go_sem] theorem T123_zero : zeroPV T123 = some (.d .nilfunc) := by kernel_rfl
@[go_sem] theorem T123_ok : zeroOk T123 = true := by kernel_rfl
noncomputable def T124 : Ty := (tyOf Tryd.prog 124).getD ⟨.invalid, 0, 0, none⟩
@[go_sem] theorem ty124 : tyOf Tryd.prog 124 = some T124 := by kernel_rfl
@[go_sem] theorem T124_desc : T124.desc = .func #[27, 3, 3, 3] #[] false := by kernel_rfl
@[go_sem] theorem T124_size : T124.size = 1 := by kernel_rfl
@[go_sem] theorem T124_bytes : T124.bytes = 8 := by kernel_rfl
@[go_sem] theorem T124_zero : zeroPV T124 = some (.d .nilfunc) := by kernel_rfl
@[go_sem] theorem T124_ok : zeroOk T124 = true := by kernel_rfl
noncomputable def T125 : Ty := (tyOf Tryd.prog 125).getD ⟨.invalid, 0, 0, none⟩
@[go_sem] theorem ty125 : tyOf Tryd.prog 125 = some T125 := by kernel_rfl
@[go_sem] theorem T125_desc : T125.desc = .func #[118] #[3] false := by kernel_rfl
@[go_sem] theorem T125_size : T125.size = 1 := by kernel_rfl
@[go_sem] theorem T125_bytes : T125.bytes = 8 := by kernel_rfl
@[go_sem] theorem T125_zero : zeroPV T125 = some (.d .nilfunc) := by kernel_rfl
@[go_sem] theorem T125_ok : zeroOk T125 = true := by kernel_rfl
noncomputable def T126 : Ty := (tyOf Tryd.prog 126).getD ⟨.invalid, 0, 0, none⟩
@[go_sem] theorem ty126 : tyOf Tryd.prog 126 = some T126 := by kernel_rfl
@[go_sem] theorem T126_desc : T126.desc = .func #[59, 90] #[4] false := by kernel_rfl
@[go_sem] theorem T126_size : T126.size = 1 := by kernel_rfl
@[go_sem] theorem T126_bytes : T126.bytes = 8 := by kernel_rfl
@[go_sem] theorem T126_zero : zeroPV T126 = some (.d .nilfunc) := by kernel_rfl
@[go_sem] theorem T126_ok : zeroOk T126 = true := by kernel_rfl
noncomputable def T127 : Ty := (tyOf Tryd.prog 127).getD ⟨.invalid, 0, 0, none⟩
@[go_sem] theorem ty127 : tyOf Tryd.prog 127 = some T127 := by kernel_rfl
@[go_sem] theorem T127_desc : T127.desc = .func #[83] #[4] false := by kernel_rfl
@[go_sem] theorem T127_size : T127.size = 1 := by kernel_rfl
@[go_sem] theorem T127_bytes : T127.bytes = 8 := by kernel_rfl
@[go_sem] theorem T127_zero : zeroPV T127 = some (.d .nilfunc) := by kernel_rfl
@[go_sem] theorem T127_ok : zeroOk T127 = true := by kernel_rfl
noncomputable def T128 : Ty := (tyOf Tryd.prog 128).getD ⟨.invalid, 0, 0, none⟩
@[go_sem] theorem ty128 : tyOf Tryd.prog 128 = some T128 := by kernel_rfl
@[go_sem] theorem T128_desc : T128.desc = .slice 4 := by kernel_rfl
@[go_sem] theorem es128 : elemSize Tryd.prog 128 = some 1 := by kernel_rfl
@[go_sem] theorem T128_size : T128.size = 1 := by kernel_rfl
@[go_sem] theorem T128_bytes : T128.bytes = 24 := by kernel_rfl
@[go_sem] theorem T128_zero : zeroPV T128 = some (.d .nilslice) := by kernel_rfl
@[go_sem] theorem T128_ok : zeroOk T128 = true := by kernel_rfl
noncomputable def T130 : Ty := (tyOf Tryd.prog 130).getD ⟨.invalid, 0, 0, none⟩
@[go_sem] theorem ty130 : tyOf Tryd.prog 130 = some T130 := by kernel_rfl
@[go_sem] theorem T130_desc : T130.desc = .func #[27, 27] #[27, 27] false := by kernel_rfl
@[go_sem] theorem T130_size : T130.size = 1 := by kernel_rfl
@[go_sem] theorem T130_bytes : T130.bytes = 8 := by kernel_rfl
@[go_sem] theorem T130_zero : zeroPV T130 = some (.d .nilfunc) := by kernel_rfl
@[go_sem] theorem T130_ok : zeroOk T130 = true := by kernel_rfl
noncomputable def T131 : Ty := (tyOf Tryd.prog 131).getD ⟨.invalid, 0, 0, none⟩
@[go_sem] theorem ty131 : tyOf Tryd.prog 131 = some T131 := by kernel_rfl
@[go_sem] theorem T131_desc : T131.desc = .func #[27, 3, 3] #[] false := by kernel_rfl
@[go_sem] theorem T131_size : T131.size = 1 := by kernel_rfl
@[go_sem] theorem T131_bytes : T131.bytes = 8 := by kernel_rfl
@[go_sem] theorem T131_zero : zeroPV T131 = some (.d .nilfunc) := by kernel_rfl
@[go_sem] theorem T131_ok : zeroOk T131 = true := by kernel_rfl
noncomputable def T132 : Ty := (tyOf Tryd.prog 132).getD ⟨.invalid, 0, 0, none⟩
@[go_sem] theorem ty132 : tyOf Tryd.prog 132 = some T132 := by kernel_rfl
@[go_sem] theorem T132_desc : T132.desc = .int .i64 := by kernel_rfl
@[go_sem] theorem T132_size : T132.size = 1 := by kernel_rfl
@[go_sem] theorem T132_bytes : T132.bytes = 8 := by kernel_rfl
@[go_sem] theorem T132_zero : zeroPV T132 = some (.d (.int .i64 0)) := by kernel_rfl
@[go_sem] theorem T132_ok : zeroOk T132 = true := by kernel_rfl
noncomputable def T134 : Ty := (tyOf Tryd.prog 134).getD ⟨.invalid, 0, 0, none⟩
@[go_sem] theorem ty134 : tyOf Tryd.prog 134 = some T134 := by kernel_rfl
@[go_sem] theorem T134_desc : T134.desc = .func #[27, 3, 3] #[3, 132] false := by kernel_rfl
@[go_sem] theorem T134_size : T134.size = 1 := by kernel_rfl
@[go_sem] theorem T134_bytes : T134.bytes = 8 := by kernel_rfl
@[go_sem] theorem T134_zero : zeroPV T134 = some (.d .nilfunc) := by kernel_rfl
@[go_sem] theorem T134_ok : zeroOk T134 = true := by kernel_rfl
noncomputable def T135 : Ty := (tyOf Tryd.prog 135).getD ⟨.invalid, 0, 0, none⟩
@[go_sem] theorem ty135 : tyOf Tryd.prog 135 = some T135 := by kernel_rfl
@[go_sem] theorem T135_desc : T135.desc = .func #[27, 3, 3] #[4] false := by kernel_rfl
@[go_sem] theorem T135_size : T135.size = 1 := by kernel_rfl
@[go_sem] theorem T135_bytes : T135.bytes = 8 := by kernel_rfl
@[go_sem] theorem T135_zero : zeroPV T135 = some (.d .nilfunc) := by kernel_rfl
@[go_sem] theorem T135_ok : zeroOk T135 = true := by kernel_rfl
noncomputable def T136 : Ty := (tyOf Tryd.prog 136).getD ⟨.invalid, 0, 0, none⟩
@[go_sem] theorem ty136 : tyOf Tryd.prog 136 = some T136 := by kernel_rfl
@[go_sem] theorem T136_desc : T136.desc = .func #[3, 3] #[4] false := by kernel_rfl
@[go_sem] theorem T136_size : T136.size = 1 := by kernel_rfl
@[go_sem] theorem T136_bytes : T136.bytes = 8 := by kernel_rfl
@[go_sem] theorem T136_zero : zeroPV T136 = some (.d .nilfunc) := by kernel_rfl
@[go_sem] theorem T136_ok : zeroOk T136 = true := by kernel_rfl
noncomputable def T137 : Ty := (tyOf Tryd.prog 137).getD ⟨.invalid, 0, 0, none⟩
@[go_sem] theorem ty137 : tyOf Tryd.prog 137 = some T137 := by kernel_rfl
@[go_sem] theorem T137_desc : T137.desc = .func #[27, 3, 3, 3] #[3] false := by kernel_rfl
@[go_sem] theorem T137_size : T137.size = 1 := by kernel_rfl
@[go_sem] theorem T137_bytes : T137.bytes = 8 := by kernel_rfl
@[go_sem] theorem T137_zero : zeroPV T137 = some (.d .nilfunc) := by kernel_rfl
@[go_sem] theorem T137_ok : zeroOk T137 = true := by kernel_rfl
noncomputable def T138 : Ty := (tyOf Tryd.prog 138).getD ⟨.invalid, 0, 0, none⟩
@[go_sem] theorem ty138 : tyOf Tryd.prog 138 = some T138 := by kernel_rfl
@[go_sem] theorem T138_desc : T138.desc = .func #[27, 3, 3, 3] #[3, 4] false := by kernel_rfl
@[go_sem] theorem T138_size : T138.size = 1 := by kernel_rfl
@[go_sem] theorem T138_bytes : T138.bytes = 8 := by kernel_rfl
@[go_sem] theorem T138_zero : zeroPV T138 = some (.d .nilfunc) := by kernel_rfl
@[go_sem] theorem T138_ok : zeroOk T138 = true := by kernel_rfl
noncomputable def T139 : Ty := (tyOf Tryd.prog 139).getD ⟨.invalid, 0, 0, none⟩
@[go_sem] theorem ty139 : tyOf Tryd.prog 139 = some T139 := by kernel_rfl
@[go_sem] theorem T139_desc : T139.desc = .func #[140] #[3] false := by kernel_rfl
@[go_sem] theorem T139_size : T139.size = 1 := by kernel_rfl
@[go_sem] theorem T139_bytes : T139.bytes = 8 := by kernel_rfl
@[go_sem] theorem T139_zero : zeroPV T139 = some (.d .nilfunc) := by kernel_rfl
@[go_sem] theorem T139_ok : zeroOk T139 = true := by kernel_rfl
noncomputable def T140 : Ty := (tyOf Tryd.prog 140).getD ⟨.invalid, 0, 0, none⟩
@[go_sem] theorem ty140 : tyOf Tryd.prog 140 = some T140 := by kernel_rfl
@[go_sem] theorem T140_desc : T140.desc = .int .u32 := by kernel_rfl
@[go_sem] theorem T140_size : T140.size = 1 := by kernel_rfl
@[go_sem] theorem T140_bytes : T140.bytes = 4 := by kernel_rfl
@[go_sem] theorem T140_zero : zeroPV T140 = some (.d (.int .u32 0)) := by kernel_rfl
@[go_sem] theorem T140_ok : zeroOk T140 = true := by kernel_rfl
noncomputable def T141 : Ty := (tyOf Tryd.prog 141).getD ⟨.invalid, 0, 0, none⟩
@[go_sem] theorem ty141 : tyOf Tryd.prog 141 = some T141 := by kernel_rfl
@[go_sem] theorem T141_desc : T141.desc = .func #[100] #[3] false := by kernel_rfl
@[go_sem] theorem T141_size : T141.size = 1 := by kernel_rfl
@[go_sem] theorem T141_bytes : T141.bytes = 8 := by kernel_rfl
@[go_sem] theorem T141_zero : zeroPV T141 = some (.d .nilfunc) := by kernel_rfl
@[go_sem] theorem T141_ok : zeroOk T141 = true := by kernel_rfl
noncomputable def T142 : Ty := (tyOf Tryd.prog 142).getD ⟨.invalid, 0, 0, none⟩
@[go_sem] theorem ty142 : tyOf Tryd.prog 142 = some T142 := by kernel_rfl
@[go_sem] theorem T142_desc : T142.desc = .int .u64 := by kernel_rfl
@[go_sem] theorem T142_size : T142.size = 1 := by kernel_rfl
@[go_sem] theorem T142_bytes : T142.bytes = 8 := by kernel_rfl
@[go_sem] theorem T142_zero : zeroPV T142 = some (.d (.int .u64 0)) := by kernel_rfl
@[go_sem] theorem T142_ok : zeroOk T142 = true := by kernel_rfl
noncomputable def T143 : Ty := (tyOf Tryd.prog 143).getD ⟨.invalid, 0, 0, none⟩
@[go_sem] theorem ty143 : tyOf Tryd.prog 143 = some T143 := by kernel_rfl
@[go_sem] theorem T143_desc : T143.desc = .func #[3] #[118] false := by kernel_rfl
@[go_sem] theorem T143_size : T143.size = 1 := by kernel_rfl
@[go_sem] theorem T143_bytes : T143.bytes = 8 := by kernel_rfl
@[go_sem] theorem T143_zero : zeroPV T143 = some (.d .nilfunc) := by kernel_rfl
@[go_sem] theorem T143_ok : zeroOk T143 = true := by kernel_rfl
noncomputable def T144 : Ty := (tyOf Tryd.prog 144).getD ⟨.invalid, 0, 0, none⟩
@[go_sem] theorem ty144 : tyOf Tryd.prog 144 = some T144 := by kernel_rfl
@[go_sem] theorem T144_desc : T144.desc = .func #[] #[100] false := by kernel_rfl
@[go_sem] theorem T144_size : T144.size = 1 := by kernel_rfl
@[go_sem] theorem T144_bytes : T144.bytes = 8 := by kernel_rfl
@[go_sem] theorem T144_zero : zeroPV T144 = some (.d .nilfunc) := by kernel_rfl
@[go_sem] theorem T144_ok : zeroOk T144 = true := by kernel_rfl
noncomputable def T145 : Ty := (tyOf Tryd.prog 145).getD ⟨.invalid, 0, 0, none⟩
@[go_sem] theorem ty145 : tyOf Tryd.prog 145 = some T145 := by kernel_rfl
@[go_sem] theorem T145_desc : T145.desc = .func #[27, 3, 146] #[3] false := by kernel_rfl
@[go_sem] theorem T145_size : T145.size = 1 := by kernel_rfl
@[go_sem] theorem T145_bytes : T145.bytes = 8 := by kernel_rfl
@[go_sem] theorem T145_zero : zeroPV T145 = some (.d .nilfunc) := by kernel_rfl
@[go_sem] theorem T145_ok : zeroOk T145 = true := by kernel_rfl
noncomputable def T146 : Ty := (tyOf Tryd.prog 146).getD ⟨.invalid, 0, 0, none⟩
@[go_sem] theorem ty146 : tyOf Tryd.prog 146 = some T146 := by kernel_rfl
@[go_sem] theorem T146_desc : T146.desc = .pointer 3 := by kernel_rfl
@[go_sem] theorem T146_size : T146.size = 1 := by kernel_rfl
@[go_sem] theorem T146_bytes : T146.bytes = 8 := by kernel_rfl
@[go_sem] theorem T146_zero : zeroPV T146 = some (.d .nilptr) := by kernel_rfl
@[go_sem] theorem T146_ok : zeroOk T146 = true := by kernel_rfl
noncomputable def T147 : Ty := (tyOf Tryd.prog 147).getD ⟨.invalid, 0, 0, none⟩
@[go_sem] theorem ty147 : tyOf Tryd.prog 147 = some T147 := by kernel_rfl
@[go_sem] theorem T147_desc : T147.desc = .func #[27, 3, 3, 3, 146] #[3] false := by kernel_rfl
@[go_sem] theorem T147_size : T147.size = 1 := by kernel_rfl
@[go_sem] theorem T147_bytes : T147.bytes = 8 := by kernel_rfl
@[go_sem] theorem T147_zero : zeroPV T147 = some (.d .nilfunc) := by kernel_rfl
@[go_sem] theorem T147_ok : zeroOk T147 = true := by kernel_rfl
noncomputable def T148 : Ty := (tyOf Tryd.prog 148).getD ⟨.invalid, 0, 0, none⟩
@[go_sem] theorem ty148 : tyOf Tryd.prog 148 = some T148 := by kernel_rfl
@[go_sem] theorem T148_desc : T148.desc = .pointer 142 := by kernel_rfl
@[go_sem] theorem T148_size : T148.size = 1 := by kernel_rfl
@[go_sem] theorem T148_bytes : T148.bytes = 8 := by kernel_rfl
@[go_sem] theorem T148_zero : zeroPV T148 = some (.d .nilptr) := by kernel_rfl
@[go_sem] theorem T148_ok : zeroOk T148 = true := by kernel_rfl
noncomputable def T150 : Ty := (tyOf Tryd.prog 150).getD ⟨.invalid, 0, 0, none⟩
@[go_sem] theorem ty150 : tyOf Tryd.prog 150 = some T150 := by kernel_rfl
@[go_sem] theorem T150_desc : T150.desc = .func #[27, 3, 3, 146] #[3, 3] false := by kernel_rfl
@[go_sem] theorem T150_size : T150.size = 1 := by kernel_rfl
@[go_sem] theorem T150_bytes : T150.bytes = 8 := by kernel_rfl
@[go_sem] theorem T150_zero : zeroPV T150 = some (.d .nilfunc) := by kernel_rfl
@[go_sem] theorem T150_ok : zeroOk T150 = true := by kernel_rfl
noncomputable def T151 : Ty := (tyOf Tryd.prog 151).getD ⟨.invalid, 0, 0, none⟩
@[go_sem] theorem ty151 : tyOf Tryd.prog 151 = some T151 := by kernel_rfl
@[go_sem] theorem T151_desc : T151.desc = .func #[] #[9] false := by kernel_rfl
@[go_sem] theorem T151_size : T151.size = 1 := by kernel_rfl
@[go_sem] theorem T151_bytes : T151.bytes = 8 := by kernel_rfl
@[go_sem] theorem T151_zero : zeroPV T151 = some (.d .nilfunc) := by kernel_rfl
@[go_sem] theorem T151_ok : zeroOk T151 = true := by kernel_rfl
noncomputable def T154 : Ty := (tyOf Tryd.prog 154).getD ⟨.invalid, 0, 0, none⟩
@[go_sem] theorem ty154 : tyOf Tryd.prog 154 = some T154 := by kernel_rfl
@[go_sem] theorem T154_desc : T154.desc = .array 0 16 := by kernel_rfl
@[go_sem] theorem es154 : elemSize Tryd.prog 154 = none := by kernel_rfl
@[go_sem] theorem ars154 : arrSize Tryd.prog 154 = some (0, 1) := by kernel_rfl
@[go_sem] theorem T154_size : T154.size = 0 := by kernel_rfl
@[go_sem] theorem T154_bytes : T154.bytes = 0 := by kernel_rfl
noncomputable def T155 : Ty := (tyOf Tryd.prog 155).getD ⟨.invalid, 0, 0, none⟩
@[go_sem] theorem ty155 : tyOf Tryd.prog 155 = some T155 := by kernel_rfl
noncomputable def fs155 : Array Field := match T155.desc with | .struct fs => fs | _ => #[]
@[go_sem] theorem T155_desc : T155.desc = .struct fs155 := by kernel_rfl
noncomputable def fs155_0 : Field := fs155.getD 0 default
@[go_sem] theorem fs155_at0 : fs155[0]? = some fs155_0 := by kernel_rfl
@[go_sem] theorem fs155_0_type : fs155_0.type = 154 := by kernel_rfl
@[go_sem] theorem fs155_0_off : fs155_0.offset = 0 := by kernel_rfl
@[go_sem] theorem fo155_0 : fieldOf Tryd.prog 155 0 = some (0, 0) := by kernel_rfl
@[go_sem] theorem pl155 : placesOf Tryd.prog fs155.toList = some [(0, 0)] := by kernel_rfl
@[go_sem] theorem T155_size : T155.size = 0 := by kernel_rfl
@[go_sem] theorem T155_bytes : T155.bytes = 0 := by kernel_rfl
noncomputable def T157 : Ty := (tyOf Tryd.prog 157).getD ⟨.invalid, 0, 0, none⟩
@[go_sem] theorem ty157 : tyOf Tryd.prog 157 = some T157 := by kernel_rfl
@[go_sem] theorem T157_desc : T157.desc = .func #[] #[3] false := by kernel_rfl
@[go_sem] theorem T157_size : T157.size = 1 := by kernel_rfl
@[go_sem] theorem T157_bytes : T157.bytes = 8 := by kernel_rfl
@[go_sem] theorem T157_zero : zeroPV T157 = some (.d .nilfunc) := by kernel_rfl
@[go_sem] theorem T157_ok : zeroOk T157 = true := by kernel_rfl
noncomputable def T160 : Ty := (tyOf Tryd.prog 160).getD ⟨.invalid, 0, 0, none⟩
@[go_sem] theorem ty160 : tyOf Tryd.prog 160 = some T160 := by kernel_rfl
@[go_sem] theorem T160_desc : T160.desc = .func #[166, 166] #[4] false := by kernel_rfl
@[go_sem] theorem T160_size : T160.size = 1 := by kernel_rfl
@[go_sem] theorem T160_bytes : T160.bytes = 8 := by kernel_rfl
@[go_sem] theorem T160_zero : zeroPV T160 = some (.d .nilfunc) := by kernel_rfl
@[go_sem] theorem T160_ok : zeroOk T160 = true := by kernel_rfl
noncomputable def T161 : Ty := (tyOf Tryd.prog 161).getD ⟨.invalid, 0, 0, none⟩
@[go_sem] theorem ty161 : tyOf Tryd.prog 161 = some T161 := by kernel_rfl
@[go_sem] theorem T161_desc : T161.desc = .pointer 5 := by kernel_rfl
@[go_sem] theorem T161_size : T161.size = 1 := by kernel_rfl
@[go_sem] theorem T161_bytes : T161.bytes = 8 := by kernel_rfl
@[go_sem] theorem T161_zero : zeroPV T161 = some (.d .nilptr) := by kernel_rfl
@[go_sem] theorem T161_ok : zeroOk T161 = true := by kernel_rfl
@[go_sem] theorem rg0 : List.range 0 = [] := by decide
@[go_sem] theorem se22 : sliceElem Tryd.prog 22 = some (43, T43) := by kernel_rfl
@[go_sem] theorem se27 : sliceElem Tryd.prog 27 = some (3, T3) := by kernel_rfl
@[go_sem] theorem se34 : sliceElem Tryd.prog 34 = some (26, T26) := by kernel_rfl
@[go_sem] theorem se86 : sliceElem Tryd.prog 86 = some (90, T90) := by kernel_rfl
@[go_sem] theorem se87 : sliceElem Tryd.prog 87 = some (86, T86) := by kernel_rfl
@[go_sem] theorem se109 : sliceElem Tryd.prog 109 = some (87, T87) := by kernel_rfl
@[go_sem] theorem se128 : sliceElem Tryd.prog 128 = some (4, T4) := by kernel_rfl
end Go.Pv.Tryd

namespace Go.Pv.Tryd
open Go.Proofs Go.Pv
theorem mo : Tryd.prog.follows .mixedOrders = true := by kernel_rfl
def G : List (Nat × PD) := [(0, .agg [.int .i64 1, .int .i64 1])]
@[go_sem] theorem G_at0 : G.lookup 0 = some (.agg [.int .i64 1, .int .i64 1]) := rfl
attribute [go_sem] reduceCtorEq Nat.reduceAdd Nat.reduceMul Nat.reduceLT Nat.reduceLeDiff Nat.reduceEqDiff Nat.reduceBEq Int.reduceToNat
attribute [go_sem] Tryd.results2 Tryd.results3 Tryd.results4 Tryd.results5 Tryd.results6 Tryd.results7 Tryd.results8 Tryd.results9 Tryd.results10 Tryd.results11 Tryd.results12 Tryd.results13 Tryd.results14 Tryd.results15 Tryd.results16 Tryd.results17 Tryd.results18 Tryd.results19 Tryd.results20 Tryd.results21 Tryd.results22 Tryd.results23 Tryd.results24 Tryd.results25 Tryd.results26 Tryd.results27 Tryd.results28 Tryd.results29 Tryd.results30 Tryd.results31 Tryd.results32 Tryd.results33 Tryd.results34 Tryd.results35 Tryd.results36 Tryd.results37 Tryd.results38 Tryd.results39 Tryd.results40 Tryd.results41 Tryd.results42 Tryd.results43 Tryd.results44 Tryd.results45 Tryd.results46 Tryd.results47 Tryd.results48 Tryd.results49 Tryd.results50 Tryd.results51 Tryd.results52 Tryd.results53 Tryd.results54 Tryd.results55 Tryd.results56 Tryd.results57 Tryd.results58 Tryd.results59 Tryd.results60 Tryd.results61 Tryd.results62 Tryd.results63 Tryd.results64 Tryd.results65 Tryd.results66 Tryd.results67 Tryd.results68 Tryd.results69 Tryd.results70 Tryd.results71 Tryd.results72 Tryd.results73 Tryd.results74 Tryd.results75 Tryd.results76 Tryd.results77 Tryd.results78 Tryd.results79 Tryd.results80 Tryd.results81 Tryd.results82 Tryd.results83 Tryd.results84 Tryd.results85 Tryd.results86 Tryd.results87 Tryd.results88 Tryd.results89 Tryd.results90 Tryd.results91 Tryd.results92 Tryd.results93 Tryd.results94 Tryd.results95 Tryd.results96 Tryd.results97 Tryd.results98 Tryd.results99 Tryd.results100 Tryd.results101 Tryd.results102 Tryd.results103 Tryd.results104 Tryd.results105 Tryd.results106 Tryd.results107 Tryd.results108 Tryd.results109 Tryd.results110 Tryd.results111 Tryd.results112 Tryd.results113 Tryd.results114 Tryd.results115 Tryd.results116 Tryd.results117 Tryd.results118 Tryd.results119
end Go.Pv.Tryd

namespace Go.Pv.Tryd
open Go Go.Proofs Go.Pv Go.ChangeShapes Go.WideShapes Go.ChangeAt Go.RowKit
theorem own : ownKnob Tryd.prog.godebug = none := by kernel_rfl
theorem laidOut : laidOutB Tryd.prog = true := by kernel_rfl
def oneName : String := (YtmnemlihimnofaaDoor.Rows.rateBestsRow.named.headD default)
theorem gOne : Tryd.prog.globalNamed oneName = some 0 := by kernel_rfl
theorem tOne : (Tryd.prog.globals[0]?).map (·.type) = some 26 := by kernel_rfl
theorem len2 {α : Type} {l : List α} (h : l.length = 2) : ∃ a b, l = [a, b] := by
  rcases l with _ | ⟨a, _ | ⟨b, _ | ⟨c, l⟩⟩⟩
  · cases h
  · cases h
  · exact ⟨a, b, rfl⟩
  · simp at h
theorem len4 {α : Type} {l : List α} (h : l.length = 4) : ∃ a b c d, l = [a, b, c, d] := by
  rcases l with _ | ⟨a, _ | ⟨b, _ | ⟨c, _ | ⟨d, _ | ⟨e, l⟩⟩⟩⟩⟩
  · cases h
  · cases h
  · cases h
  · cases h
  · exact ⟨a, b, c, d, rfl⟩
  · simp at h
set_option maxRecDepth 100000 in
theorem opens_Offer {w : World} : Opens Tryd.prog w 43 4 Offer.pd := by
  refine ⟨by kernel_rfl, fun enc sp held n cs x h _ => ?_⟩
  obtain ⟨xs, m, _, _, hl, hx, hf⟩ := DataW.trod_struct Tryd.underlying43 h
  have c43 : Tryd.prog.cellsOf 43 = 4 := by kernel_rfl
  have c3 : Tryd.prog.cellsOf 3 = 1 := by kernel_rfl
  rw [c43] at hl
  have hx4 : xs.length = 4 := hx
  obtain ⟨a, b, c, d, rfl⟩ := len4 hl
  obtain ⟨x0, x1, x2, x3, rfl⟩ := len4 hx4
  clear hl hx hx4
  have f0 : DataW.trod enc Tryd.prog w 0 sp held m 3 (([a, b, c, d].drop 0).take (Tryd.prog.cellsOf 3)) = some x0 := hf 0 _ rfl
  have f1 : DataW.trod enc Tryd.prog w 0 sp held m 3 (([a, b, c, d].drop 1).take (Tryd.prog.cellsOf 3)) = some x1 := hf 1 _ rfl
  have f2 : DataW.trod enc Tryd.prog w 0 sp held m 3 (([a, b, c, d].drop 2).take (Tryd.prog.cellsOf 3)) = some x2 := hf 2 _ rfl
  have f3 : DataW.trod enc Tryd.prog w 0 sp held m 3 (([a, b, c, d].drop 3).take (Tryd.prog.cellsOf 3)) = some x3 := hf 3 _ rfl
  rw [c3] at f0 f1 f2 f3
  obtain ⟨m0, e0, _⟩ := DataW.trod_int Tryd.underlying3 f0
  obtain ⟨m1, e1, _⟩ := DataW.trod_int Tryd.underlying3 f1
  obtain ⟨m2, e2, _⟩ := DataW.trod_int Tryd.underlying3 f2
  obtain ⟨m3, e3, _⟩ := DataW.trod_int Tryd.underlying3 f3
  simp at e0 e1 e2 e3
  subst e0 e1 e2 e3
  refine ⟨.agg #[.int .i64 m0, .int .i64 m1, .int .i64 m2, .int .i64 m3], ⟨m0, m1, m2, m3⟩, rfl, .agg rfl (fun i hi => ?_) (fun i hi => ?_), rfl, fun j hj => ?_⟩
  · match i, hi with
    | 0, _ => exact .int .i64 m0
    | 1, _ => exact .int .i64 m1
    | 2, _ => exact .int .i64 m2
    | 3, _ => exact .int .i64 m3
  · match i, hi with
    | 0, _ => rfl
    | 1, _ => rfl
    | 2, _ => rfl
    | 3, _ => rfl
  · match j, hj with
    | 0, _ => rfl
    | 1, _ => rfl
    | 2, _ => rfl
    | 3, _ => rfl
def laid1 : List (String × DataW Unit) := [(oneName, YtmnemlihimnofaaDoor.Rows.laid_cocket_rate_one)]
theorem door_met (os : Os) (args : Array Value) : laidMetH Tryd.prog laid1 ((World.doorLaid Tryd.prog 400 os).forCall (fun _ _ => 0) ⟨#[], args, []⟩).memory :=
  laidMetH_of_parts3 (fuel := 8) (laidMet_of_run' 8 (by kernel_rfl) (by kernel_rfl)) (by kernel_rfl) (by kernel_rfl)
set_option maxRecDepth 100000 in
theorem glob_of_laid {W : World} (h : laidMetH Tryd.prog laid1 W) : GlobTop G W := by
  rw [MakeChecks.laidMetH_plain _ _ _ (by kernel_rfl)] at h
  obtain ⟨ps, ⟨g0, t0, cs0, f0, p0, q0, hg0, ht0, hv0, hd0, _, _⟩, _⟩ := h
  obtain rfl := Option.some.inj (gOne.symm.trans hg0)
  obtain rfl := Option.some.inj (tOne.symm.trans ht0)
  obtain ⟨xs, m, _, hx, hl, hn, hf⟩ := DataW.trod_struct Tryd.underlying26 hd0
  have c26 : Tryd.prog.cellsOf 26 = 2 := by kernel_rfl
  have c3 : Tryd.prog.cellsOf 3 = 1 := by kernel_rfl
  rw [c26] at hl
  have hn2 : xs.length = 2 := hn
  obtain ⟨a, b, hcs⟩ := len2 hl
  obtain ⟨x0, x1, rfl⟩ := len2 hn2
  rw [hcs] at hf
  have e0 : DataW.trod (fun _ => ()) Tryd.prog W 0 (fun _ => true) false m 3 (([a, b].drop 0).take (Tryd.prog.cellsOf 3)) = some x0 := hf 0 _ rfl
  have e1 : DataW.trod (fun _ => ()) Tryd.prog W 0 (fun _ => true) false m 3 (([a, b].drop 1).take (Tryd.prog.cellsOf 3)) = some x1 := hf 1 _ rfl
  rw [c3] at e0 e1
  obtain ⟨m0, g0, h0, _⟩ := DataW.trod_int Tryd.underlying3 e0
  obtain ⟨m1, g1, h1, _⟩ := DataW.trod_int Tryd.underlying3 e1
  simp at g0 g1
  subst g0 g1
  simp only [YtmnemlihimnofaaDoor.Rows.laid_cocket_rate_one, Prod.mk.injEq, DataW.agg.injEq, List.map_cons, List.map_nil, List.cons.injEq, h0, h1, DataW.lit.injEq, Lit.int.injEq, and_true, true_and] at hx
  obtain ⟨⟨hm0, hm1⟩, _⟩ := hx
  subst hm0 hm1
  have hcs2 : cs0 = #[.int .i64 1, .int .i64 1] := by
    cases cs0
    simp_all
  subst hcs2
  intro g x hgx
  simp only [G, List.mem_singleton, Prod.mk.injEq] at hgx
  obtain ⟨rfl, rfl⟩ := hgx
  simp only [World.var?, hg0, Option.bind_some] at hv0
  split at hv0
  · rename_i cs t f hh
    cases hv0
    refine ⟨_, _, _, .agg #[.int .i64 1, .int .i64 1], hh, .agg rfl (fun i hi => ?_) (fun i hi => ?_), rfl, fun j hj => ?_⟩
    · match i, hi with
      | 0, _ => exact .int .i64 1
      | 1, _ => exact .int .i64 1
    · match i, hi with
      | 0, _ => rfl
      | 1, _ => rfl
    · match j, hj with
      | 0, _ => exact ⟨rfl, rfl⟩
      | 1, _ => exact ⟨rfl, rfl⟩
  · cases hv0
end Go.Pv.Tryd

namespace Go.Pv
def forUp {S : Type} (g : Int → S → Option S) : Nat → Int → S → Option S
  | 0, _, s => some s
  | k + 1, i, s => (g i s).bind (forUp g k (i + 1))
theorem iter_eq {S X : Type} (f : S → Option (S ⊕ X)) (s : S) : iter f s = (f s).bind fun o => match o with
    | .inl s' => iter f s'
    | .inr x => some x := by
  cases h : f s with
  | none =>
    simp only [Option.bind_none]
    cases hi : iter f s with
    | none => rfl
    | some x =>
      obtain ⟨n, hn⟩ := iter_some hi
      cases n with
      | zero => cases hn
      | succ n => rw [iterN_succ, h] at hn; cases hn
  | some o =>
    simp only [Option.bind_some]
    cases o with
    | inr x => exact iter_done h
    | inl s' =>
      show iter f s = iter f s'
      cases hi : iter f s' with
      | some x => exact iter_step h hi
      | none =>
        cases hi2 : iter f s with
        | none => rfl
        | some x =>
          obtain ⟨n, hn⟩ := iter_some hi2
          cases n with
          | zero => cases hn
          | succ n =>
            rw [iterN_succ, h] at hn
            have := iter_of (f := f) (s := s') (n := n) hn
            rw [hi] at this; cases this
theorem iter_for {S X : Type} {f : Int × S → Option ((Int × S) ⊕ X)} {n : Int} {g : Int → S → Option S} {e : S → X} (hn : n ≤ 9223372036854775807)
    (hf : ∀ i s, f (i, s) = cond (decide (i < n)) ((g i s).bind fun s' => some (.inl (IntKind.i64.wrap (i + 1), s'))) (some (.inr (e s)))) :
    ∀ (k : Nat) (i : Int) (s : S), k = (n - i).toNat → 0 ≤ i → iter f (i, s) = (forUp g k i s).map e
  | 0, i, s, hk, _ => by
    have : decide (i < n) = false := by simp; omega
    rw [iter_eq, hf, this]; rfl
  | k + 1, i, s, hk, hi => by
    have : decide (i < n) = true := by simp; omega
    rw [iter_eq, hf, this]
    simp only [cond_true, forUp]
    cases h : g i s with
    | none => rfl
    | some s' =>
      simp only [Option.bind_some]
      rw [wrap_i64_eq (by omega)]
      exact iter_for hn hf k (i + 1) s' (by omega) (by omega)
end Go.Pv

set_option linter.unusedSimpArgs false
set_option linter.unusedVariables false
namespace Go.Pv
def offerOk (n : Int) (o : Offer) : Bool := goodOffer n o && decide (o.From ≠ o.To)
def ofCode (n : Int) (l : List Offer) : Int := if n < 2 ∨ 6 < n then 2 else if 40 < l.length then 3 else cond (l.all (offerOk n)) 0 2
theorem idx_lt {α : Type} {l : List α} {i : Int} (h0 : 0 ≤ i) (h1 : i < l.length) : ∃ x, idx l i = some x ∧ l[i.toNat]? = some x ∧ l.drop i.toNat = x :: l.drop (i.toNat + 1) ∧ x ∈ l := by
  have h2 : i.toNat < l.length := by omega
  refine ⟨l[i.toNat], ?_, ?_, ?_, List.getElem_mem _⟩
  · rw [idx_pos h0, List.getElem?_eq_getElem h2]
  · rw [List.getElem?_eq_getElem h2]
  · rw [List.drop_eq_getElem_cons h2]
theorem of_l1 (n : Int) (l : List Offer) (c : Market) (hl : l.length ≤ 40) : ∀ (k : Nat) (i : Int), k = (l.length - i).toNat → 0 ≤ i →
    iter (m_rate_of_l1 n l) (i, c) = some (cond ((l.drop i.toNat).all (offerOk n)) (.inl c) (.inr (⟨0, []⟩, 2)))
  | 0, i, hk, hi => by
    have h : decide (i < (l.length : Int)) = false := by simp; omega
    rw [iter_eq, m_rate_of_l1, h, List.drop_of_length_le (by omega)]
    rfl
  | k + 1, i, hk, hi => by
    have hlt : i < (l.length : Int) := by omega
    have h : decide (i < (l.length : Int)) = true := by simp; omega
    obtain ⟨o, h1, h2, h3, _⟩ := idx_lt hi hlt
    have ih := of_l1 n l c hl k (i + 1) (by omega) (by omega)
    have e1 : (i + 1).toNat = i.toNat + 1 := by omega
    rw [e1] at ih
    rw [iter_eq, m_rate_of_l1, h, h3]
    simp only [cond_true, h1, Option.bind_some, m_rate_market_has, m_rate_of_1, List.all_cons]
    rw [wrap_i64_eq (by omega)]
    rcases Bool.eq_false_or_eq_true (offerOk n o) with hok | hok
    · rw [hok, Bool.true_and]
      simp only [offerOk, goodOffer, Bool.and_eq_true, decide_eq_true_eq] at hok
      have a1 : decide (0 ≤ o.From) = true := by simp; omega
      have a2 : decide (o.From < n) = true := by simp; omega
      have a3 : decide (0 ≤ o.To) = true := by simp; omega
      have a4 : decide (o.To < n) = true := by simp; omega
      have a5 : decide (o.From = o.To) = false := by simp; exact hok.2
      have a6 : decide (1 ≤ o.Num) = true := by simp; omega
      have a7 : decide (o.Num ≤ 50) = true := by simp; omega
      have a8 : decide (1 ≤ o.Den) = true := by simp; omega
      have a9 : decide (o.Den ≤ 50) = true := by simp; omega
      simp only [a1, a2, a3, a4, a5, a6, a7, a8, a9, Bool.and_true, Bool.not_true, cond_false, Option.bind_some, Bool.or_false]
      exact ih
    · rw [hok, Bool.false_and]
      rcases Bool.eq_false_or_eq_true (decide (0 ≤ o.From) && decide (o.From < n)) with b1 | b1
      rotate_left
      · simp only [b1, Bool.not_false, cond_true, cond_false, Option.bind_some, Bool.true_or]
      rcases Bool.eq_false_or_eq_true (decide (0 ≤ o.To) && decide (o.To < n)) with b2 | b2
      rotate_left
      · simp only [b1, b2, Bool.not_true, Bool.not_false, cond_true, cond_false, Option.bind_some, Bool.true_or]
      rcases Bool.eq_false_or_eq_true (decide (o.From = o.To)) with b3 | b3
      · simp only [b1, b2, b3, Bool.not_true, Bool.not_false, cond_true, cond_false, Option.bind_some, Bool.or_true]
      rcases Bool.eq_false_or_eq_true (decide (1 ≤ o.Num) && decide (o.Num ≤ 50)) with b4 | b4
      rotate_left
      · simp only [b1, b2, b3, b4, Bool.not_true, Bool.not_false, cond_true, cond_false, Option.bind_some, Bool.or_false]
      rcases Bool.eq_false_or_eq_true (decide (1 ≤ o.Den) && decide (o.Den ≤ 50)) with b5 | b5
      rotate_left
      · simp only [b1, b2, b3, b4, b5, Bool.not_true, Bool.not_false, cond_true, cond_false, Option.bind_some, Bool.or_false]
      exfalso
      simp only [Bool.and_eq_true, decide_eq_true_eq, decide_eq_false_iff_not] at b1 b2 b3 b4 b5
      have : offerOk n o = true := by
        simp only [offerOk, goodOffer, Bool.and_eq_true, decide_eq_true_eq]
        exact ⟨⟨b1.1, b1.2, b2.1, b2.2, b4.1, b4.2, b5.1, b5.2⟩, b3⟩
      rw [this] at hok; cases hok
theorem of_eq (n : Int) (l : List Offer) : m_rate_of n l = some (if ofCode n l = 0 then (⟨n, l⟩, 0) else (⟨0, []⟩, ofCode n l)) := by
  unfold m_rate_of ofCode
  by_cases h1 : n < 2 ∨ 6 < n
  · have : (decide (n < 2) || decide (6 < n)) = true := by simpa using h1
    rw [this, if_pos h1]; rfl
  have e1 : (decide (n < 2) || decide (6 < n)) = false := by simpa using h1
  rw [e1, if_neg h1]
  simp only [cond_false]
  by_cases h2 : 40 < l.length
  · have : decide (40 < (l.length : Int)) = true := by simp; omega
    rw [this, if_pos h2]; rfl
  have e2 : decide (40 < (l.length : Int)) = false := by simp; omega
  rw [e2, if_neg h2]
  simp only [cond_false]
  rw [of_l1 n l _ (by omega) _ 0 rfl (by omega)]
  simp only [Int.toNat_zero, List.drop_zero, Option.bind_some]
  cases l.all (offerOk n) with
  | true => rfl
  | false => rfl
theorem Good_l1 (n : Int) (l : List Offer) (hl : l.length ≤ 40) : ∀ (k : Nat) (i : Int), k = (l.length - i).toNat → 0 ≤ i →
    iter (m_cocketref01_Good_l1 n l) i = some (cond ((l.drop i.toNat).all (offerOk n)) (.inl ()) (.inr 2))
  | 0, i, hk, hi => by
    have h : decide (i < (l.length : Int)) = false := by simp; omega
    rw [iter_eq, m_cocketref01_Good_l1, h, List.drop_of_length_le (by omega)]
    rfl
  | k + 1, i, hk, hi => by
    have hlt : i < (l.length : Int) := by omega
    have h : decide (i < (l.length : Int)) = true := by simp; omega
    obtain ⟨o, h1, h2, h3, _⟩ := idx_lt hi hlt
    have ih := Good_l1 n l hl k (i + 1) (by omega) (by omega)
    have e1 : (i + 1).toNat = i.toNat + 1 := by omega
    rw [e1] at ih
    rw [iter_eq, m_cocketref01_Good_l1, h, h3]
    simp only [cond_true, h1, Option.bind_some, List.all_cons]
    rw [wrap_i64_eq (by omega)]
    rcases Bool.eq_false_or_eq_true (offerOk n o) with hok | hok
    · rw [hok, Bool.true_and]
      simp only [offerOk, goodOffer, Bool.and_eq_true, decide_eq_true_eq] at hok
      have : ((((((((decide (o.From < 0)) || (decide (n ≤ o.From))) || (decide (o.To < 0))) || (decide (n ≤ o.To))) || (decide (o.From = o.To))) || (decide (o.Num < 1))) || (decide (50 < o.Num))) || (decide (o.Den < 1)) || (decide (50 < o.Den))) = false := by
        simp only [Bool.or_eq_false_iff, decide_eq_false_iff_not]
        have := hok.2
        omega
      rw [this]
      simp only [cond_false, Option.bind_some]
      exact ih
    · rw [hok, Bool.false_and]
      have : ((((((((decide (o.From < 0)) || (decide (n ≤ o.From))) || (decide (o.To < 0))) || (decide (n ≤ o.To))) || (decide (o.From = o.To))) || (decide (o.Num < 1))) || (decide (50 < o.Num))) || (decide (o.Den < 1)) || (decide (50 < o.Den))) = true := by
        simp only [offerOk, goodOffer, Bool.and_eq_false_iff, decide_eq_false_iff_not] at hok
        simp only [Bool.or_eq_true, decide_eq_true_eq]
        omega
      rw [this]
      rfl
theorem Good_eq (n : Int) (l : List Offer) : m_cocketref01_Good n l = some (ofCode n l) := by
  unfold m_cocketref01_Good ofCode
  by_cases h1 : n < 2 ∨ 6 < n
  · have : (decide (n < 2) || decide (6 < n)) = true := by simpa using h1
    rw [this, if_pos h1]; rfl
  have e1 : (decide (n < 2) || decide (6 < n)) = false := by simpa using h1
  rw [e1, if_neg h1]
  simp only [cond_false]
  by_cases h2 : 40 < l.length
  · have : decide (40 < (l.length : Int)) = true := by simp; omega
    rw [this, if_pos h2]; rfl
  have e2 : decide (40 < (l.length : Int)) = false := by simp; omega
  rw [e2, if_neg h2]
  simp only [cond_false]
  rw [Good_l1 n l (by omega) _ 0 rfl (by omega)]
  simp only [Int.toNat_zero, List.drop_zero, Option.bind_some]
  cases l.all (offerOk n) with
  | true => rfl
  | false => rfl
theorem ofCode_zero {n : Int} {l : List Offer} (h : ofCode n l = 0) : 2 ≤ n ∧ n ≤ 6 ∧ l.length ≤ 40 ∧ ∀ o ∈ l, offerOk n o = true := by
  unfold ofCode at h
  split at h
  · cases h
  split at h
  · cases h
  rename_i h1 h2
  rcases Bool.eq_false_or_eq_true (l.all (offerOk n)) with h3 | h3
  · rw [List.all_eq_true] at h3
    exact ⟨by omega, by omega, by omega, h3⟩
  · rw [h3] at h; cases h
end Go.Pv

set_option linter.unusedSimpArgs false
set_option linter.unusedVariables false
namespace Go.Pv
theorem gcd_some (a b : Int) (ha : 0 ≤ a ∧ a ≤ 9223372036854775807) (hb : 0 ≤ b ∧ b ≤ 9223372036854775807) : m_rate_gcd a b = some (Int.gcd a b : Int) := by
  have key : ∃ x, iter m_rate_gcd_l1 (a, b) = some x ∧ x = (Int.gcd a b : Int) := by
    refine iter_inv (fun s => 0 ≤ s.1 ∧ s.1 ≤ 9223372036854775807 ∧ 0 ≤ s.2 ∧ s.2 ≤ 9223372036854775807 ∧ Int.gcd s.1 s.2 = Int.gcd a b) _ (fun s => s.2.toNat) ?_ ⟨ha.1, ha.2, hb.1, hb.2, rfl⟩
    rintro ⟨x, y⟩ ⟨h1, h2, h3, h4, h5⟩
    dsimp only at h1 h2 h3 h4 h5
    simp only [m_rate_gcd_l1]
    by_cases hy : y = 0
    · subst hy
      simp only [not_true_eq_false, decide_false, cond_false]
      refine ⟨_, rfl, ?_⟩
      rw [← h5]; simp; omega
    · have e : decide (¬y = 0) = true := by simp [hy]
      simp only [e, cond_true]
      rw [guardO_pos (by omega)]
      have e1 := Int.emod_nonneg x (show y ≠ 0 by omega)
      have e2 := Int.emod_lt_of_pos x (show 0 < y by omega)
      rw [tmod_eq h1]
      refine ⟨_, rfl, ⟨h3, h4, e1, by dsimp only; omega, ?_⟩, by dsimp only; omega⟩
      rw [← h5, Int.gcd_comm x y]
      dsimp only
      have := Int.gcd_add_mul_left_right y (x % y) (x / y)
      rw [Int.emod_add_mul_ediv] at this
      exact this.symm
  obtain ⟨x, h1, h2⟩ := key
  simp only [m_rate_gcd, h1, Option.bind_some, h2]
theorem ratio_some (a b : Int) (ha : 1 ≤ a ∧ a ≤ 9223372036854775807) (hb : 1 ≤ b ∧ b ≤ 9223372036854775807) : m_rate_ratio a b = some (ratioN a b) := by
  have hg : 0 < Int.gcd a b := Int.gcd_pos_of_ne_zero_left _ (by omega)
  have e1 : 0 ≤ a / (Int.gcd a b : Int) := Int.ediv_nonneg (by omega) (by omega)
  have e2 : 0 ≤ b / (Int.gcd a b : Int) := Int.ediv_nonneg (by omega) (by omega)
  have e3 : a / (Int.gcd a b : Int) ≤ a := Int.ediv_le_self _ (by omega)
  have e4 : b / (Int.gcd a b : Int) ≤ b := Int.ediv_le_self _ (by omega)
  have e0 : (Int.gcd a b : Int) ≠ 0 := by omega
  simp only [m_rate_ratio, gcd_some a b ⟨by omega, ha.2⟩ ⟨by omega, hb.2⟩, Option.bind_some]
  rw [guardO_pos e0, guardO_pos e0, tdiv_eq (by omega), tdiv_eq (by omega), wrap_i64_eq (by omega), wrap_i64_eq (by omega)]
  rfl
theorem ediv_bounds {x : Int} (g : Nat) (hx : 1 ≤ x) : 0 ≤ x / (g : Int) ∧ x / (g : Int) ≤ x :=
  ⟨Int.ediv_nonneg (by omega) (by omega), Int.ediv_le_self _ (by omega)⟩
theorem mul_bounds {x y a b : Int} (hx : 0 ≤ x ∧ x ≤ a) (hy : 0 ≤ y ∧ y ≤ b) : 0 ≤ x * y ∧ x * y ≤ a * b :=
  ⟨Int.mul_nonneg hx.1 hy.1, Int.mul_le_mul hx.2 hy.2 hy.1 (by omega)⟩
theorem times_some (p q : Ratio) (hp : 1 ≤ p.Num ∧ p.Num ≤ 9223372036854775807) (hq : 1 ≤ p.Den ∧ p.Den ≤ 9223372036854775807) (hr : 1 ≤ q.Num ∧ q.Num ≤ 9223372036854775807) (hs : 1 ≤ q.Den ∧ q.Den ≤ 9223372036854775807)
    (h1 : p.Num * q.Num ≤ 9223372036854775807) (h2 : p.Den * q.Den ≤ 9223372036854775807) : m_rate_times p q = some (timesN p q) := by
  have g1 : 0 < Int.gcd p.Num q.Den := Int.gcd_pos_of_ne_zero_left _ (by omega)
  have g2 : 0 < Int.gcd q.Num p.Den := Int.gcd_pos_of_ne_zero_left _ (by omega)
  have e1 := ediv_bounds (Int.gcd p.Num q.Den) hp.1
  have e2 := ediv_bounds (Int.gcd p.Num q.Den) hs.1
  have e3 := ediv_bounds (Int.gcd q.Num p.Den) hr.1
  have e4 := ediv_bounds (Int.gcd q.Num p.Den) hq.1
  have m1 := mul_bounds e1 e3
  have m2 := mul_bounds e4 e2
  have n1 : (Int.gcd p.Num q.Den : Int) ≠ 0 := by omega
  have n2 : (Int.gcd q.Num p.Den : Int) ≠ 0 := by omega
  simp only [m_rate_times, gcd_some p.Num q.Den ⟨by omega, hp.2⟩ ⟨by omega, hs.2⟩, gcd_some q.Num p.Den ⟨by omega, hr.2⟩ ⟨by omega, hq.2⟩, Option.bind_some]
  rw [guardO_pos n1, guardO_pos n2, guardO_pos n2, guardO_pos n1]
  simp (disch := omega) only [tdiv_eq, wrap_i64_eq]
  rfl
theorem ediv_pos1 {x : Int} (g : Nat) (hg : 0 < g) (hx : 1 ≤ x) (hd : (g : Int) ∣ x) : 1 ≤ x / (g : Int) := by
  obtain ⟨c, rfl⟩ := hd
  rw [Int.mul_ediv_cancel_left _ (by omega)]
  rcases Int.lt_or_le c 1 with h | h
  · have := Int.mul_le_mul_of_nonneg_left (show c ≤ 0 by omega) (show (0 : Int) ≤ g by omega)
    omega
  · exact h
theorem ratioN_bounds {a b n : Int} (ha : 1 ≤ a ∧ a ≤ n) (hb : 1 ≤ b ∧ b ≤ n) : 1 ≤ (ratioN a b).Num ∧ (ratioN a b).Num ≤ n ∧ 1 ≤ (ratioN a b).Den ∧ (ratioN a b).Den ≤ n := by
  have hg : 0 < Int.gcd a b := Int.gcd_pos_of_ne_zero_left _ (by omega)
  have e1 := ediv_bounds (Int.gcd a b) ha.1
  have e2 := ediv_bounds (Int.gcd a b) hb.1
  have p1 := ediv_pos1 _ hg ha.1 (Int.gcd_dvd_left _ _)
  have p2 := ediv_pos1 _ hg hb.1 (Int.gcd_dvd_right _ _)
  simp only [ratioN]
  omega
theorem mul_pos1 {x y : Int} (hx : 1 ≤ x) (hy : 1 ≤ y) : 1 ≤ x * y := by
  have := Int.mul_pos (show 0 < x by omega) (show 0 < y by omega)
  omega
theorem timesN_bounds {p q : Ratio} {a b : Int} (h1 : 1 ≤ p.Num ∧ p.Num ≤ a) (h2 : 1 ≤ p.Den ∧ p.Den ≤ a) (h3 : 1 ≤ q.Num ∧ q.Num ≤ b) (h4 : 1 ≤ q.Den ∧ q.Den ≤ b) :
    1 ≤ (timesN p q).Num ∧ (timesN p q).Num ≤ a * b ∧ 1 ≤ (timesN p q).Den ∧ (timesN p q).Den ≤ a * b := by
  have g1 : 0 < Int.gcd p.Num q.Den := Int.gcd_pos_of_ne_zero_left _ (by omega)
  have g2 : 0 < Int.gcd q.Num p.Den := Int.gcd_pos_of_ne_zero_left _ (by omega)
  have e1 := ediv_bounds (Int.gcd p.Num q.Den) h1.1
  have e2 := ediv_bounds (Int.gcd p.Num q.Den) h4.1
  have e3 := ediv_bounds (Int.gcd q.Num p.Den) h3.1
  have e4 := ediv_bounds (Int.gcd q.Num p.Den) h2.1
  have p1 := ediv_pos1 _ g1 h1.1 (Int.gcd_dvd_left _ _)
  have p2 := ediv_pos1 _ g1 h4.1 (Int.gcd_dvd_right _ _)
  have p3 := ediv_pos1 _ g2 h3.1 (Int.gcd_dvd_left _ _)
  have p4 := ediv_pos1 _ g2 h2.1 (Int.gcd_dvd_right _ _)
  have m1 := mul_bounds (a := a) (b := b) ⟨e1.1, by omega⟩ ⟨e3.1, by omega⟩
  have m2 := mul_bounds (a := a) (b := b) ⟨e4.1, by omega⟩ ⟨e2.1, by omega⟩
  have n1 := mul_pos1 p1 p3
  have n2 := mul_pos1 p4 p2
  simp only [timesN]
  exact ⟨n1, m1.2, n2, m2.2⟩
end Go.Pv

set_option linter.unusedSimpArgs false
set_option linter.unusedVariables false
namespace Go.Pv
theorem pow50_le {a b : Nat} (h : a ≤ b) : (50 : Int) ^ a ≤ 50 ^ b := by
  induction b with
  | zero => have : a = 0 := by omega
            subst this; exact Int.le_refl _
  | succ b ih =>
    rcases Nat.lt_or_ge a (b + 1) with h1 | h1
    · have := ih (by omega)
      have h0 : (0 : Int) ≤ 50 ^ b := Int.pow_nonneg (by omega)
      rw [Int.pow_succ]; omega
    · have : a = b + 1 := by omega
      subst this; exact Int.le_refl _
end Go.Pv

set_option linter.unusedSimpArgs false
set_option linter.unusedVariables false
namespace Go.Pv
def foldUp {S : Type} (h : Int → S → S) : Nat → Int → S → S
  | 0, _, s => s
  | k + 1, i, s => foldUp h k (i + 1) (h i s)
theorem forUp_some {S : Type} {g : Int → S → Option S} {h : Int → S → S} {P : Int → S → Prop} : ∀ {k : Nat} {i : Int} {s : S}, (∀ j s, i ≤ j → j < i + k → P j s → g j s = some (h j s) ∧ P (j + 1) (h j s)) → P i s →
    forUp g k i s = some (foldUp h k i s) ∧ P (i + k) (foldUp h k i s)
  | 0, i, s, _, hp => ⟨rfl, by rw [show i + ((0 : Nat) : Int) = i by omega]; exact hp⟩
  | k + 1, i, s, hg, hp => by
    obtain ⟨h1, h2⟩ := hg i s (by omega) (by omega) hp
    have := forUp_some (k := k) (i := i + 1) (s := h i s) (fun j s h3 h4 h5 => hg j s (by omega) (by omega) h5) h2
    simp only [forUp, foldUp, h1, Option.bind_some]
    rw [show i + ((k + 1 : Nat) : Int) = i + 1 + (k : Int) by omega]
    exact this
theorem iter_fold {S X : Type} {f : Int × S → Option ((Int × S) ⊕ X)} {n : Int} {g : Int → S → Option S} {e : S → X} {h : Int → S → S} (P : Int → S → Prop) (hn : n ≤ 9223372036854775807)
    (hf : ∀ i s, f (i, s) = cond (decide (i < n)) ((g i s).bind fun s' => some (.inl (IntKind.i64.wrap (i + 1), s'))) (some (.inr (e s)))) {i : Int} {s : S} (h0 : 0 ≤ i)
    (hg : ∀ j s, i ≤ j → j < n → P j s → g j s = some (h j s) ∧ P (j + 1) (h j s)) (hp : P i s) : iter f (i, s) = some (e (foldUp h (n - i).toNat i s)) ∧ P (i + (n - i).toNat) (foldUp h (n - i).toNat i s) := by
  obtain ⟨h1, h2⟩ := forUp_some (k := (n - i).toNat) (i := i) (s := s) (g := g) (h := h) (P := P) (fun j s h3 h4 h5 => hg j s h3 (by omega) h5) hp
  rw [iter_for hn hf _ i s rfl h0, h1]
  exact ⟨rfl, h2⟩
def cmpL : List Int → List Int → Int
  | [], [] => 0
  | [], _ :: _ => -1
  | _ :: _, [] => 1
  | x :: xs, y :: ys => if x < y then -1 else if y < x then 1 else cmpL xs ys
theorem cmp_Compare (x y : Int) : m_cmp_Compare x y = some (if x < y then -1 else if y < x then 1 else 0) := by
  have h : ∀ x, m_cmp_isNaN x = some false := fun x => by simp [m_cmp_isNaN]
  rw [m_cmp_Compare, h, h]
  simp only [Option.bind_some, cond_false]
  by_cases h1 : x < y
  · simp [h1]
  by_cases h2 : y < x
  · simp [h1, h2]
  · simp [h1, h2]
theorem Compare_l1 (s t : List Int) (hs : s.length ≤ 1000000) (ht : t.length ≤ 1000000) : ∀ (k : Nat) (i : Int), k = (s.length - i).toNat → 0 ≤ i → i ≤ t.length →
    iter (m_slices_Compare_l1 s t) i = some (if s.length ≤ t.length ∧ s.drop i.toNat <+: t.drop i.toNat then .inl () else .inr (cmpL (s.drop i.toNat) (t.drop i.toNat)))
  | 0, i, hk, hi, ht => by
    have h : decide (i < (s.length : Int)) = false := by simp; omega
    have hd : s.drop i.toNat = [] := List.drop_of_length_le (by omega)
    rw [iter_eq, m_slices_Compare_l1, h, if_pos ⟨by omega, by rw [hd]; exact List.nil_prefix⟩]
    rfl
  | k + 1, i, hk, hi, hit => by
    have hlt : i < (s.length : Int) := by omega
    have h : decide (i < (s.length : Int)) = true := by simp; omega
    obtain ⟨x, h1, h2, h3, _⟩ := idx_lt hi hlt
    rw [iter_eq, m_slices_Compare_l1, h]
    simp only [cond_true, h1, Option.bind_some]
    by_cases hti : (t.length : Int) ≤ i
    · have d : decide ((t.length : Int) ≤ i) = true := by simpa using hti
      have hd : t.drop i.toNat = [] := List.drop_of_length_le (by omega)
      rw [d, hd, h3, if_neg (by omega)]
      rfl
    have d : decide ((t.length : Int) ≤ i) = false := by simpa using hti
    obtain ⟨y, g1, g2, g3, _⟩ := idx_lt (l := t) hi (by omega)
    simp only [d, cond_false, g1, Option.bind_some, cmp_Compare]
    rw [h3, g3]
    have ih := Compare_l1 s t hs ht k (i + 1) (by omega) (by omega) (by omega)
    have e1 : (i + 1).toNat = i.toNat + 1 := by omega
    rw [e1] at ih
    by_cases c1 : x < y
    · have e : decide (¬(if x < y then (-1 : Int) else if y < x then 1 else 0) = 0) = true := by simp [c1]
      have hng : ¬ (s.length ≤ t.length ∧ x :: s.drop (i.toNat + 1) <+: y :: t.drop (i.toNat + 1)) := fun h => by
        have := (List.cons_prefix_cons.1 h.2).1
        omega
      rw [if_neg hng]
      simp [e, c1, cmpL]
    by_cases c2 : y < x
    · have e : decide (¬(if x < y then (-1 : Int) else if y < x then 1 else 0) = 0) = true := by simp [c1, c2]
      have hng : ¬ (s.length ≤ t.length ∧ x :: s.drop (i.toNat + 1) <+: y :: t.drop (i.toNat + 1)) := fun h => by
        have := (List.cons_prefix_cons.1 h.2).1
        omega
      rw [if_neg hng]
      simp [e, c1, c2, cmpL]
    · have e : decide (¬(if x < y then (-1 : Int) else if y < x then 1 else 0) = 0) = false := by simp [c1, c2]
      have exy : x = y := by omega
      subst exy
      rw [e, wrap_i64_eq (by omega)]
      simp only [cond_false, Option.bind_some, ih, cmpL, c1, if_false, List.cons_prefix_cons, true_and]
theorem cmpL_prefix : ∀ {s t : List Int}, s <+: t → cmpL s t = if s.length < t.length then -1 else 0
  | [], [], _ => rfl
  | [], _ :: _, _ => rfl
  | x :: s, [], h => by simp at h
  | x :: s, y :: t, h => by
    rw [List.cons_prefix_cons] at h
    obtain ⟨rfl, h⟩ := h
    simp only [cmpL, Int.lt_irrefl, if_false, cmpL_prefix h, List.length_cons, Nat.add_lt_add_iff_right]
theorem Compare_eq (s t : List Int) (hs : s.length ≤ 1000000) (ht : t.length ≤ 1000000) : m_slices_Compare s t = some (cmpL s t) := by
  rw [m_slices_Compare, Compare_l1 s t hs ht _ 0 rfl (by omega) (by omega)]
  simp only [Int.toNat_zero, List.drop_zero]
  by_cases h : s.length ≤ t.length ∧ s <+: t
  · rw [if_pos h, cmpL_prefix h.2]
    simp only [Option.bind_some]
    by_cases c : s.length < t.length
    · have d : decide ((s.length : Int) < (t.length : Int)) = true := by simp; omega
      simp [c]
    · have d : decide ((s.length : Int) < (t.length : Int)) = false := by simp; omega
      simp [c]
  · rw [if_neg h]; rfl
theorem same_l1 (a b : List Int) (ha : a.length ≤ 1000000) (hl : a.length = b.length) : ∀ (k : Nat) (i : Int), k = (a.length - i).toNat → 0 ≤ i →
    iter (m_cocketlaw01_same_l1 a b) i = some (if a.drop i.toNat = b.drop i.toNat then .inl () else .inr false)
  | 0, i, hk, hi => by
    have h : decide (i < (a.length : Int)) = false := by simp; omega
    rw [iter_eq, m_cocketlaw01_same_l1, h, List.drop_of_length_le (by omega), List.drop_of_length_le (by omega)]
    rfl
  | k + 1, i, hk, hi => by
    have hlt : i < (a.length : Int) := by omega
    have h : decide (i < (a.length : Int)) = true := by simp; omega
    obtain ⟨x, h1, h2, h3, _⟩ := idx_lt hi hlt
    obtain ⟨y, g1, g2, g3, _⟩ := idx_lt (l := b) hi (by omega)
    have ih := same_l1 a b ha hl k (i + 1) (by omega) (by omega)
    have e1 : (i + 1).toNat = i.toNat + 1 := by omega
    rw [e1] at ih
    rw [iter_eq, m_cocketlaw01_same_l1, h]
    simp only [cond_true, h1, g1, Option.bind_some, h3, g3]
    by_cases c : x = y
    · have d : decide (¬x = y) = false := by simp [c]
      rw [d, wrap_i64_eq (by omega)]
      simp only [cond_false, Option.bind_some, ih, List.cons.injEq, c, true_and]
    · have d : decide (¬x = y) = true := by simp [c]
      rw [d]
      simp [c]
theorem same_eq (a b : List Int) (ha : a.length ≤ 1000000) : m_cocketlaw01_same a b = some (decide (a = b)) := by
  rw [m_cocketlaw01_same]
  by_cases hl : a.length = b.length
  · have d : decide (¬(a.length : Int) = (b.length : Int)) = false := by simp [hl]
    rw [d, same_l1 a b ha hl _ 0 rfl (by omega)]
    simp only [Int.toNat_zero, List.drop_zero, cond_false]
    by_cases h : a = b
    · rw [if_pos h]; simp [h]
    · rw [if_neg h]; simp [h]
  · have d : decide (¬(a.length : Int) = (b.length : Int)) = true := by simp; omega
    have hne : a ≠ b := fun h => hl (by rw [h])
    rw [d]; simp [hne]
theorem walkOn_facts (n : Int) (offers : List Offer) (ho : ∀ o ∈ offers, goodOffer n o = true) (frm length : Int) (rounds : Bool) : ∀ (k : Nat) (w : Walk) (s : List Bool), (1 ≤ w.rate.Num ∧ w.rate.Num ≤ 50 ^ w.list.length) → (1 ≤ w.rate.Den ∧ w.rate.Den ≤ 50 ^ w.list.length) →
    ∀ x ∈ walkOn offers frm length rounds k w s, (x.list.length : Int) = length ∧ (1 ≤ x.rate.Num ∧ x.rate.Num ≤ 50 ^ x.list.length) ∧ (1 ≤ x.rate.Den ∧ x.rate.Den ≤ 50 ^ x.list.length)
  | 0, w, s, _, _, x, hx => by simp [walkOn] at hx
  | k + 1, w, s, h1, h2, x, hx => by
    rw [walkOn] at hx
    by_cases he : (w.list.length : Int) = length
    · rw [if_pos he] at hx
      split at hx
      · simp at hx
      · rw [List.mem_singleton] at hx; subst hx; exact ⟨he, h1, h2⟩
    · rw [if_neg he, List.mem_flatMap] at hx
      obtain ⟨⟨o, i⟩, hm, hx⟩ := hx
      split at hx
      · simp at hx
      have hmo : o ∈ offers := by
        rw [List.mem_zipIdx_iff_getElem?] at hm
        exact List.mem_of_getElem? hm
      have hg := ho o hmo
      simp only [goodOffer, decide_eq_true_eq] at hg
      have hr := ratioN_bounds (a := o.Num) (b := o.Den) (n := 50) ⟨by omega, by omega⟩ ⟨by omega, by omega⟩
      have ht := timesN_bounds (p := w.rate) (q := ratioN o.Num o.Den) (a := 50 ^ w.list.length) (b := 50) h1 h2 ⟨hr.1, hr.2.1⟩ ⟨hr.2.2.1, hr.2.2.2⟩
      refine walkOn_facts n offers ho frm length rounds k _ _ ?_ ?_ x hx
      · simp only [List.length_append, List.length_cons, List.length_nil, Int.pow_succ, Nat.zero_add]
        exact ⟨ht.1, ht.2.1⟩
      · simp only [List.length_append, List.length_cons, List.length_nil, Int.pow_succ, Nat.zero_add]
        exact ⟨ht.2.2.1, ht.2.2.2⟩
theorem walksL_facts (m : Market) (ho : ∀ o ∈ m.offers, goodOffer m.n o = true) (frm length : Int) (rounds : Bool) : ∀ x ∈ walksL m frm length rounds, (x.list.length : Int) = length ∧ (1 ≤ x.rate.Num ∧ x.rate.Num ≤ 50 ^ x.list.length) ∧ (1 ≤ x.rate.Den ∧ x.rate.Den ≤ 50 ^ x.list.length) :=
  walkOn_facts m.n m.offers ho frm length rounds _ _ _ (by simp) (by simp)
end Go.Pv

set_option linter.unusedSimpArgs false
set_option linter.unusedVariables false
namespace Go.Pv
def val : List Int → Int
  | [] => 0
  | d :: l => d + 10000 * val l
def Digs (l : List Int) : Prop := ∀ d ∈ l, 0 ≤ d ∧ d ≤ 9999
def Canon (l : List Int) : Prop := Digs l ∧ ∀ d, l.getLast? = some d → d ≠ 0
theorem Digs.nil : Digs [] := fun d h => by simp at h
theorem Canon.nil : Canon [] := ⟨Digs.nil, fun d h => by simp at h⟩
theorem Digs.cons {d : Int} {l : List Int} (h : 0 ≤ d ∧ d ≤ 9999) (hl : Digs l) : Digs (d :: l) := fun x hx => by
  rcases List.mem_cons.1 hx with rfl | hx
  · exact h
  · exact hl x hx
theorem Digs.head {d : Int} {l : List Int} (h : Digs (d :: l)) : 0 ≤ d ∧ d ≤ 9999 := h d (by simp)
theorem Digs.tail {d : Int} {l : List Int} (h : Digs (d :: l)) : Digs l := fun x hx => h x (List.mem_cons_of_mem _ hx)
theorem Digs.app {l m : List Int} (hl : Digs l) (hm : Digs m) : Digs (l ++ m) := fun x hx => by
  rcases List.mem_append.1 hx with h | h
  · exact hl x h
  · exact hm x h
theorem Digs.take {l : List Int} (h : Digs l) (n : Nat) : Digs (l.take n) := fun x hx => h x (List.mem_of_mem_take hx)
theorem Digs.drop {l : List Int} (h : Digs l) (n : Nat) : Digs (l.drop n) := fun x hx => h x (List.mem_of_mem_drop hx)
theorem Digs.set {l : List Int} (h : Digs l) (i : Nat) {d : Int} (hd : 0 ≤ d ∧ d ≤ 9999) : Digs (l.set i d) := fun x hx => by
  rcases List.mem_or_eq_of_mem_set hx with h' | rfl
  · exact h x h'
  · exact hd
theorem Digs.rep (n : Nat) : Digs (List.replicate n 0) := fun x hx => by
  have := List.eq_of_mem_replicate hx
  subst this; decide
theorem val_app (l m : List Int) : val (l ++ m) = val l + 10000 ^ l.length * val m := by
  induction l with
  | nil => simp [val]
  | cons d l ih => simp only [List.cons_append, val, ih, List.length_cons, Int.pow_succ]; rw [Int.mul_add, Int.mul_comm (10000 ^ l.length) 10000, Int.mul_assoc]; omega
theorem val_rep (n : Nat) : val (List.replicate n 0) = 0 := by
  induction n with
  | zero => rfl
  | succ n ih => simp [List.replicate_succ, val, ih]
theorem pow_pos' (n : Nat) : (0 : Int) < 10000 ^ n := Int.pow_pos (by decide)
theorem val_bounds {l : List Int} (h : Digs l) : 0 ≤ val l ∧ val l < 10000 ^ l.length := by
  induction l with
  | nil => simp [val]
  | cons d l ih =>
    have h1 := h.head
    have h2 := ih h.tail
    simp only [val, List.length_cons, Int.pow_succ]
    omega
theorem val_split (l : List Int) (n : Nat) : val l = val (l.take n) + 10000 ^ (l.take n).length * val (l.drop n) := by
  rw [← val_app, List.take_append_drop]
theorem canon_len {l : List Int} (h : Canon l) {k : Nat} (hv : val l < 10000 ^ k) : l.length ≤ k := by
  rcases Nat.lt_or_ge k l.length with hk | hk
  · exfalso
    obtain ⟨hd, hl⟩ := h
    rcases List.eq_nil_or_concat l with rfl | ⟨m, d, rfl⟩
    · simp at hk
    · have hne : d ≠ 0 := hl d (by simp)
      have hdd := hd d (by simp)
      have hm : Digs m := fun x hx => hd x (by simp [hx])
      have hb := val_bounds hm
      simp only [List.concat_eq_append, val_app, val, Int.mul_zero, Int.add_zero] at hv
      simp only [List.concat_eq_append, List.length_append, List.length_cons, List.length_nil] at hk
      have hpow : (10000 : Int) ^ k ≤ 10000 ^ m.length := by
        obtain ⟨j, hj⟩ : ∃ j, m.length = k + j := ⟨m.length - k, by omega⟩
        rw [hj, Int.pow_add]
        have := pow_pos' j
        have := pow_pos' k
        have := Int.mul_le_mul_of_nonneg_left (show (1 : Int) ≤ 10000 ^ j by omega) (show (0 : Int) ≤ 10000 ^ k by omega)
        omega
      have : (10000 : Int) ^ m.length * 1 ≤ 10000 ^ m.length * d := Int.mul_le_mul_of_nonneg_left (by omega) (by have := pow_pos' m.length; omega)
      omega
  · exact hk
theorem canon_tail {d : Int} {l : List Int} (h : Canon (d :: l)) : Canon l := by
  refine ⟨h.1.tail, fun x hx => h.2 x ?_⟩
  rw [List.getLast?_cons, hx]; rfl
theorem canon_uniq : ∀ {l m : List Int}, Canon l → Canon m → val l = val m → l = m
  | [], [], _, _, _ => rfl
  | [], d :: m, _, h, e => by
    exfalso
    have := canon_len h (k := 0) (by rw [← e]; decide)
    simp at this
  | d :: l, [], h, _, e => by
    exfalso
    have := canon_len h (k := 0) (by rw [e]; decide)
    simp at this
  | d :: l, d' :: m, h, h', e => by
    have h1 := h.1.head
    have h2 := h'.1.head
    simp only [val] at e
    have e1 : d = d' := by omega
    have e2 : val l = val m := by omega
    rw [e1, canon_uniq (canon_tail h) (canon_tail h') e2]
theorem getD_idx {l : List Int} {i : Int} (h0 : 0 ≤ i) (h1 : i < l.length) : idx l i = some (l.getD i.toNat 0) := by
  rw [idx_pos h0]
  simp only [List.getD]
  rw [List.getElem?_eq_getElem (by omega)]; rfl
theorem take_succ_getD {l : List Int} {n : Nat} (h : n < l.length) : l.take (n + 1) = l.take n ++ [l.getD n 0] := by
  rw [List.take_add_one]
  simp only [List.getD, List.getElem?_eq_getElem h]; rfl
theorem Digs.getD {l : List Int} (h : Digs l) (n : Nat) : 0 ≤ l.getD n 0 ∧ l.getD n 0 ≤ 9999 := by
  simp only [List.getD]
  cases hx : l[n]? with
  | none => simp
  | some d => exact h d (List.mem_of_getElem? hx)
theorem trim_l1 (d : List Int) (hd : d.length ≤ 1000000) : ∀ (n : Nat), n ≤ d.length → val (d.drop n) = 0 → Digs d →
    ∃ r : Nat, iter (m_cocketref01_trim_l1 d) (n : Int) = some (r : Int) ∧ r ≤ d.length ∧ val (d.drop r) = 0 ∧ (r = 0 ∨ d.getD (r - 1) 0 ≠ 0)
  | 0, _, h, _ => by
    refine ⟨0, iter_done ?_, Nat.zero_le _, h, .inl rfl⟩
    rw [m_cocketref01_trim_l1]; rfl
  | n + 1, hn, h, hD => by
    have e0 : decide ((0 : Int) < ((n + 1 : Nat) : Int)) = true := by simp
    have ew : IntKind.i64.wrap (((n + 1 : Nat) : Int) - 1) = (n : Int) := by rw [wrap_i64_eq (by omega)]; omega
    have ei : idx d (n : Int) = some (d.getD n 0) := getD_idx (by omega) (by omega)
    by_cases hz : d.getD n 0 = 0
    · have hdz : val (d.drop n) = 0 := by
        rw [List.drop_eq_getElem_cons (by omega)]
        have : d[n] = 0 := by
          rw [← hz]; simp [List.getD, List.getElem?_eq_getElem (show n < d.length by omega)]
        simp only [val, this, h]; omega
      obtain ⟨r, h1, h2⟩ := trim_l1 d hd n (by omega) hdz hD
      refine ⟨r, iter_step (s' := (n : Int)) ?_ h1, h2⟩
      rw [m_cocketref01_trim_l1, e0, ew]
      simp only [cond_true, ei, Option.bind_some, hz, decide_true]
    · refine ⟨n + 1, iter_done ?_, hn, h, .inr (by simpa using hz)⟩
      rw [m_cocketref01_trim_l1, e0, ew]
      simp only [cond_true, ei, Option.bind_some, hz, decide_false, cond_false]
theorem trim_l2 (d : List Int) (r : Nat) (hr : r ≤ d.length) (hd : d.length ≤ 1000000) : ∀ (k i : Nat), k = r - i → i ≤ r → iter (m_cocketref01_trim_l2 d (r : Int)) ((i : Int), d.take i) = some (d.take r)
  | 0, i, hk, hi => by
    have : i = r := by omega
    subst this
    refine iter_done ?_
    rw [m_cocketref01_trim_l2]
    have e : decide ((i : Int) < (i : Int)) = false := by simp
    rw [e]; rfl
  | k + 1, i, hk, hi => by
    refine iter_step (s' := (((i + 1 : Nat) : Int), d.take (i + 1))) ?_ (trim_l2 d r hr hd k (i + 1) (by omega) (by omega))
    rw [m_cocketref01_trim_l2]
    have e : decide ((i : Int) < (r : Int)) = true := by simp; omega
    have ei : idx d (i : Int) = some (d.getD i 0) := getD_idx (by omega) (by omega)
    rw [e]
    simp only [cond_true, ei, Option.bind_some]
    rw [guardO_pos (by simp; omega), wrap_i64_eq (by omega), take_succ_getD (by omega)]
    rfl
theorem trim_eq {d : List Int} (hd : d.length ≤ 1000000) (hD : Digs d) : ∃ r, m_cocketref01_trim d = some r ∧ Canon r ∧ val r = val d ∧ r.length ≤ d.length := by
  obtain ⟨r, h1, h2, h3, h4⟩ := trim_l1 d hd d.length (Nat.le_refl _) (by rw [List.drop_length]; rfl) hD
  have h5 := trim_l2 d r h2 hd r 0 (by omega) (by omega)
  refine ⟨d.take r, ?_, ⟨hD.take r, fun x hx => ?_⟩, ?_, by simp; omega⟩
  · rw [m_cocketref01_trim, h1]
    simp only [Option.bind_some]
    rw [show ((0 : Int), ([] : List Int)) = (((0 : Nat) : Int), d.take 0) by simp, h5]; rfl
  · rcases h4 with h4 | h4
    · subst h4; simp at hx
    · have hr1 : 1 ≤ r := by
        rcases Nat.eq_zero_or_pos r with h | h
        · subst h; simp at hx
        · exact h
      obtain ⟨j, rfl⟩ : ∃ j, r = j + 1 := ⟨r - 1, by omega⟩
      rw [take_succ_getD (by omega)] at hx
      simp at hx
      subst hx; simpa using h4
  · rw [val_split d r, h3]; omega
structure IsB (b : Big) (x : Int) : Prop where
  pos : b.Neg = false
  can : Canon b.D
  val : val b.D = x
theorem IsB.uniq {b c : Big} {x : Int} (h : IsB b x) (h' : IsB c x) : b = c := by
  obtain ⟨n, d⟩ := b
  obtain ⟨n', d'⟩ := c
  have h1 := h.pos
  have h2 := h'.pos
  have h3 := canon_uniq h.can h'.can (h.val.trans h'.val.symm)
  simp only at h1 h2 h3
  subst h1 h2 h3; rfl
theorem IsB.nonneg {b : Big} {x : Int} (h : IsB b x) : 0 ≤ x := by rw [← h.val]; exact (val_bounds h.can.1).1
theorem whole_eq {d : List Int} (hd : d.length ≤ 1000000) (hD : Digs d) : ∃ b, m_cocketref01_whole false d = some b ∧ IsB b (val d) := by
  obtain ⟨r, h1, h2, h3, _⟩ := trim_eq hd hD
  refine ⟨⟨false, r⟩, ?_, rfl, h2, h3⟩
  rw [m_cocketref01_whole, h1]; rfl
end Go.Pv

set_option linter.unusedSimpArgs false
set_option linter.unusedVariables false
namespace Go.Pv
theorem val_set : ∀ {l : List Int} {j : Nat} {x : Int}, j < l.length → val (l.set j x) = val l + (x - l.getD j 0) * 10000 ^ j
  | d :: l, 0, x, _ => by simp [val]; omega
  | d :: l, j + 1, x, h => by
    have ih := val_set (l := l) (j := j) (x := x) (by simpa using h)
    simp only [List.set_cons_succ, val, ih, List.getD_cons_succ, Int.pow_succ]
    rw [Int.mul_add, Int.mul_comm (10000 ^ j) 10000, ← Int.mul_assoc (x - l.getD j 0) 10000, Int.mul_comm (x - l.getD j 0) 10000, Int.mul_assoc]
    omega
theorem getD_set_ne {l : List Int} {j k : Nat} {x : Int} (h : j ≠ k) : (l.set j x).getD k 0 = l.getD k 0 := by
  simp only [List.getD, List.getElem?_set_ne h]
theorem getD_set_eq {l : List Int} {j : Nat} {x : Int} (h : j < l.length) : (l.set j x).getD j 0 = x := by
  simp only [List.getD, List.getElem?_set_self h]; rfl
theorem alg_mul (P T R e1 e2 e3 c V B D : Int) (ht : e1 + e2 * e3 + c = B * T + R) : V + (R - e1) * P + T * (P * B) + e2 * (P * B) * D = V + c * P + e2 * P * (e3 + B * D) := by
  have h := congrArg (· * P) ht
  simp only [Int.mul_add, Int.add_mul, Int.sub_mul, Int.mul_sub, Int.mul_assoc, Int.mul_comm, Int.mul_left_comm] at h ⊢
  omega
theorem mul9999 {x y : Int} (hx : 0 ≤ x ∧ x ≤ 9999) (hy : 0 ≤ y ∧ y ≤ 9999) : 0 ≤ x * y ∧ x * y ≤ 99980001 := by
  have h1 := Int.mul_nonneg hx.1 hy.1
  have h2 := Int.mul_le_mul hx.2 hy.2 hy.1 (show (0 : Int) ≤ 9999 by decide)
  omega
theorem mulD_l2 (a b : List Int) (i : Nat) (hi : i < a.length) (ha : Digs a) (hb : Digs b) (hab : a.length + b.length ≤ 1000000) : ∀ (n k : Nat) (c : Int) (L : List Int), n = b.length - k → k ≤ b.length → Digs L → L.length = a.length + b.length → (0 ≤ c ∧ c ≤ 9999) →
    ∃ c' L', iter (m_cocketref01_mulD_l2 a b (i : Int)) (c, (k : Int), L) = some (c', L') ∧ Digs L' ∧ L'.length = a.length + b.length ∧ (0 ≤ c' ∧ c' ≤ 9999) ∧ (∀ j, i + b.length ≤ j → L'.getD j 0 = L.getD j 0) ∧
      val L' + c' * 10000 ^ (i + b.length) = val L + c * 10000 ^ (i + k) + a.getD i 0 * 10000 ^ (i + k) * val (b.drop k)
  | 0, k, c, L, hn, hk, hD, hl, hc => by
    have e : k = b.length := by omega
    subst e
    refine ⟨c, L, iter_done ?_, hD, hl, hc, fun _ _ => rfl, ?_⟩
    · rw [m_cocketref01_mulD_l2]
      have e : decide (((b.length : Nat) : Int) < (b.length : Int)) = false := by simp
      rw [e]; rfl
    · rw [List.drop_length]; simp [val]
  | n + 1, k, c, L, hn, hk, hD, hl, hc => by
    have e : decide ((k : Int) < (b.length : Int)) = true := by simp; omega
    have ew : IntKind.i64.wrap ((i : Int) + (k : Int)) = ((i + k : Nat) : Int) := by rw [wrap_i64_eq (by omega)]; omega
    have e1 : idx L ((i + k : Nat) : Int) = some (L.getD (i + k) 0) := getD_idx (by omega) (by omega)
    have e2 : idx a (i : Int) = some (a.getD i 0) := getD_idx (by omega) (by omega)
    have e3 : idx b (k : Int) = some (b.getD k 0) := getD_idx (by omega) (by omega)
    have d1 := hD.getD (i + k)
    have d2 := ha.getD i
    have d3 := hb.getD k
    have hp := mul9999 d2 d3
    have ht0 : 0 ≤ L.getD (i + k) 0 + a.getD i 0 * b.getD k 0 + c := by omega
    have hw : IntKind.i64.wrap (IntKind.i64.wrap (L.getD (i + k) 0 + IntKind.i64.wrap (a.getD i 0 * b.getD k 0)) + c) = L.getD (i + k) 0 + a.getD i 0 * b.getD k 0 + c := by
      rw [wrap_i64_eq (x := a.getD i 0 * b.getD k 0) (by omega), wrap_i64_eq (x := L.getD (i + k) 0 + a.getD i 0 * b.getD k 0) (by omega), wrap_i64_eq (by omega)]
    have hdr : val (b.drop k) = b.getD k 0 + 10000 * val (b.drop (k + 1)) := by
      rw [List.drop_eq_getElem_cons (by omega)]
      simp [val, List.getD, List.getElem?_eq_getElem (show k < b.length by omega)]
    generalize ht : L.getD (i + k) 0 + a.getD i 0 * b.getD k 0 + c = t at *
    have hm := Int.emod_add_mul_ediv t 10000
    have hm1 := Int.emod_nonneg t (show (10000 : Int) ≠ 0 by decide)
    have hm2 := Int.emod_lt_of_pos t (show (0 : Int) < 10000 by decide)
    have hL : Digs (L.set (i + k) (t % 10000)) := hD.set _ ⟨hm1, by omega⟩
    obtain ⟨c', L', h1, h2, h3, h4, h5, h6⟩ := mulD_l2 a b i hi ha hb hab n (k + 1) (t / 10000) (L.set (i + k) (t % 10000)) (by omega) (by omega) hL (by simpa using hl) ⟨by omega, by omega⟩
    refine ⟨c', L', iter_step (s' := (t / 10000, ((k + 1 : Nat) : Int), L.set (i + k) (t % 10000))) ?_ h1, h2, h3, h4, fun j hj => ?_, ?_⟩
    · rw [m_cocketref01_mulD_l2, e, ew]
      simp only [cond_true, e1, e2, e3, Option.bind_some]
      rw [hw, tdiv_eq ht0, tmod_eq ht0, wrap_i64_eq (x := t / 10000) (by omega), wrap_i64_eq (by omega), Int.toNat_natCast]
      rfl
    · rw [h5 j hj, getD_set_ne (by omega)]
    · rw [h6, val_set (by omega), hdr, show i + (k + 1) = (i + k) + 1 by omega, Int.pow_succ]
      exact alg_mul _ _ _ _ _ _ _ _ _ _ (by omega)
theorem mulD_l1 (a b : List Int) (ha : Digs a) (hb : Digs b) (hab : a.length + b.length ≤ 1000000) : ∀ (n i : Nat) (L : List Int), n = a.length - i → i ≤ a.length → Digs L → L.length = a.length + b.length → (∀ j, i + b.length ≤ j → L.getD j 0 = 0) → val L = val (a.take i) * val b →
    ∃ L', iter (m_cocketref01_mulD_l1 a b) ((i : Int), L) = some L' ∧ Digs L' ∧ L'.length = a.length + b.length ∧ val L' = val a * val b
  | 0, i, L, hn, hi, hD, hl, hz, hv => by
    have e : i = a.length := by omega
    subst e
    refine ⟨L, iter_done ?_, hD, hl, by rw [hv, List.take_length]⟩
    rw [m_cocketref01_mulD_l1]
    have e : decide (((a.length : Nat) : Int) < (a.length : Int)) = false := by simp
    rw [e]; rfl
  | n + 1, i, L, hn, hi, hD, hl, hz, hv => by
    have e : decide ((i : Int) < (a.length : Int)) = true := by simp; omega
    obtain ⟨c', L', h1, h2, h3, h4, h5, h6⟩ := mulD_l2 a b i (by omega) ha hb hab b.length 0 0 L (by omega) (by omega) hD hl ⟨by omega, by omega⟩
    have ew : IntKind.i64.wrap ((i : Int) + (b.length : Int)) = ((i + b.length : Nat) : Int) := by rw [wrap_i64_eq (by omega)]; omega
    have e5 : idx L' ((i + b.length : Nat) : Int) = some (L'.getD (i + b.length) 0) := getD_idx (by omega) (by omega)
    have hz' : L'.getD (i + b.length) 0 = 0 := by rw [h5 _ (Nat.le_refl _)]; exact hz _ (Nat.le_refl _)
    have hv2 : val (L'.set (i + b.length) c') = val (a.take (i + 1)) * val b := by
      rw [val_set (by omega), hz', take_succ_getD (by omega), val_app, List.length_take, Nat.min_eq_left (by omega)]
      have := h6
      simp only [List.drop_zero, Nat.add_zero, Int.zero_mul, Int.add_zero, hv, val, Int.mul_zero] at this ⊢
      rw [Int.sub_zero, this, Int.add_mul, Int.mul_comm (a.getD i 0)]
    obtain ⟨L2, g1, g2, g3, g4⟩ := mulD_l1 a b ha hb hab n (i + 1) (L'.set (i + b.length) c') (by omega) (by omega) (h2.set _ h4) (by simpa using h3) (fun j hj => by rw [getD_set_ne (by omega), h5 j (by omega)]; exact hz j (by omega)) hv2
    refine ⟨L2, iter_step (s' := (((i + 1 : Nat) : Int), L'.set (i + b.length) c')) ?_ g1, g2, g3, g4⟩
    rw [m_cocketref01_mulD_l1, e]
    rw [show ((0 : Nat) : Int) = 0 from rfl] at h1
    simp only [cond_true, h1, Option.bind_some, ew, e5]
    rw [wrap_i64_eq (by omega), Int.toNat_natCast]
    rfl
theorem mulD_eq {a b : List Int} (ha : Digs a) (hb : Digs b) (hab : a.length + b.length ≤ 1000000) : ∃ r, m_cocketref01_mulD a b = some r ∧ Canon r ∧ val r = val a * val b := by
  have ew : IntKind.i64.wrap ((a.length : Int) + (b.length : Int)) = ((a.length + b.length : Nat) : Int) := by rw [wrap_i64_eq (by omega)]; omega
  obtain ⟨L, h1, h2, h3, h4⟩ := mulD_l1 a b ha hb hab a.length 0 (List.replicate (a.length + b.length) 0) (by omega) (by omega) (Digs.rep _) (by simp) (fun j _ => by
    simp only [List.getD]
    cases hx : (List.replicate (a.length + b.length) (0 : Int))[j]? with
    | none => rfl
    | some x => exact List.eq_of_mem_replicate (List.mem_of_getElem? hx)) (by rw [val_rep]; simp [val])
  obtain ⟨r, g1, g2, g3, _⟩ := trim_eq (d := L) (by omega) h2
  refine ⟨r, ?_, g2, by rw [g3, h4]⟩
  rw [show ((0 : Nat) : Int) = 0 from rfl] at h1
  rw [m_cocketref01_mulD, ew, guardO_pos ⟨by omega, by omega⟩, Int.toNat_natCast, h1]
  simp only [Option.bind_some, g1]
def sgn (x : Int) : Int := if x < 0 then -1 else if 0 < x then 1 else 0
theorem cmpD_l1 (a b : List Int) (ha : Digs a) (hb : Digs b) (hab : a.length = b.length) (hl : a.length ≤ 1000000) : ∀ (n : Nat), n ≤ a.length → a.drop n = b.drop n →
    (iter (m_cocketref01_cmpD_l1 a b) ((n : Int) - 1)).bind (fun o => match o with | .inl _ => some 0 | .inr y => some y) = some (sgn (val a - val b))
  | 0, _, h => by
    have e : a = b := by simpa using h
    subst e
    have e : decide ((0 : Int) ≤ ((0 : Nat) : Int) - 1) = false := by decide
    rw [iter_eq, m_cocketref01_cmpD_l1, e, Int.sub_self]; rfl
  | n + 1, hn, h => by
    have e0 : (((n + 1 : Nat) : Int) - 1) = (n : Int) := by omega
    have e : decide ((0 : Int) ≤ (n : Int)) = true := by simp
    have e1 : idx a (n : Int) = some (a.getD n 0) := getD_idx (by omega) (by omega)
    have e2 : idx b (n : Int) = some (b.getD n 0) := getD_idx (by omega) (by omega)
    rw [e0, iter_eq, m_cocketref01_cmpD_l1, e]
    simp only [cond_true, e1, e2, Option.bind_some]
    have hva := val_split a (n + 1)
    have hvb := val_split b (n + 1)
    rw [take_succ_getD (by omega), val_app] at hva
    rw [take_succ_getD (by omega), val_app, ← h] at hvb
    simp only [List.length_append, List.length_take, List.length_cons, List.length_nil, Nat.min_eq_left (show n ≤ a.length by omega)] at hva
    simp only [List.length_append, List.length_take, List.length_cons, List.length_nil, Nat.min_eq_left (show n ≤ b.length by omega)] at hvb
    have ba := val_bounds (ha.take n)
    have bb := val_bounds (hb.take n)
    rw [List.length_take, Nat.min_eq_left (by omega)] at ba bb
    simp only [val, Int.mul_zero, Int.add_zero] at hva hvb
    rcases Int.lt_trichotomy (a.getD n 0) (b.getD n 0) with hc | hc | hc
    · have d : decide (a.getD n 0 < b.getD n 0) = true := by simpa using hc
      have hm := Int.mul_le_mul_of_nonneg_left (show a.getD n 0 + 1 ≤ b.getD n 0 by omega) (show (0 : Int) ≤ 10000 ^ n by have := pow_pos' n; omega)
      rw [Int.mul_add, Int.mul_one] at hm
      have hs : val a - val b < 0 := by
        omega
      rw [d, sgn, if_pos hs]; rfl
    · have d : decide (a.getD n 0 < b.getD n 0) = false := decide_eq_false (by omega)
      have d2 : decide (b.getD n 0 < a.getD n 0) = false := decide_eq_false (by omega)
      have ih := cmpD_l1 a b ha hb hab hl n (by omega) (by
        rw [List.drop_eq_getElem_cons (by omega), List.drop_eq_getElem_cons (show n < b.length by omega), h]
        simp only [List.getD, List.getElem?_eq_getElem (show n < a.length by omega), List.getElem?_eq_getElem (show n < b.length by omega), Option.getD_some] at hc
        rw [hc])
      rw [d, d2, wrap_i64_eq (by omega)]
      exact ih
    · have d : decide (a.getD n 0 < b.getD n 0) = false := decide_eq_false (by omega)
      have d2 : decide (b.getD n 0 < a.getD n 0) = true := by simpa using hc
      have hm := Int.mul_le_mul_of_nonneg_left (show b.getD n 0 + 1 ≤ a.getD n 0 by omega) (show (0 : Int) ≤ 10000 ^ n by have := pow_pos' n; omega)
      rw [Int.mul_add, Int.mul_one] at hm
      have hs : 0 < val a - val b := by omega
      have hs2 : ¬ val a - val b < 0 := by omega
      rw [d, d2, sgn, if_neg hs2, if_pos hs]; rfl
theorem canon_lt {a b : List Int} (ha : Canon a) (hb : Canon b) (h : a.length < b.length) : val a < val b := by
  rcases Int.lt_or_le (val a) (val b) with h1 | h1
  · exact h1
  · have h2 := val_bounds ha.1
    have := canon_len hb (k := a.length) (by omega)
    omega
theorem cmpD_eq {a b : List Int} (ha : Canon a) (hb : Canon b) (hal : a.length ≤ 1000000) (hbl : b.length ≤ 1000000) : m_cocketref01_cmpD a b = some (sgn (val a - val b)) := by
  rw [m_cocketref01_cmpD]
  by_cases h1 : a.length < b.length
  · have d : decide ((a.length : Int) < (b.length : Int)) = true := by simp; omega
    have := canon_lt ha hb h1
    have hs : val a - val b < 0 := by omega
    rw [d, sgn, if_pos hs]; rfl
  have d : decide ((a.length : Int) < (b.length : Int)) = false := by simp; omega
  rw [d]
  by_cases h2 : b.length < a.length
  · have d : decide ((b.length : Int) < (a.length : Int)) = true := by simp; omega
    have := canon_lt hb ha h2
    have hs : 0 < val a - val b := by omega
    have hs2 : ¬ val a - val b < 0 := by omega
    rw [d, sgn, if_neg hs2, if_pos hs]; rfl
  have d2 : decide ((b.length : Int) < (a.length : Int)) = false := by simp; omega
  have hl : a.length = b.length := by omega
  have := cmpD_l1 a b ha.1 hb.1 hl hal a.length (Nat.le_refl _) (by rw [List.drop_length, List.drop_of_length_le (by omega)])
  rw [d2, wrap_i64_eq (by omega)]
  simp only [cond_false]
  obtain ⟨x, g1, g2⟩ := bind_some this
  rw [g1]
  rcases x with x | x <;> exact g2
end Go.Pv

set_option linter.unusedSimpArgs false
set_option linter.unusedVariables false
namespace Go.Pv
theorem val_take_succ (l : List Int) (i : Nat) : val (l.take (i + 1)) = val (l.take i) + 10000 ^ i * l.getD i 0 := by
  rcases Nat.lt_or_ge i l.length with h | h
  · rw [take_succ_getD h, val_app, List.length_take, Nat.min_eq_left (by omega)]
    simp only [val, Int.mul_zero, Int.add_zero]
  · rw [List.take_of_length_le (by omega), List.take_of_length_le (by omega)]
    have : l.getD i 0 = 0 := by simp [List.getD, List.getElem?_eq_none (show l.length ≤ i by omega)]
    rw [this]; omega
theorem val_drop (l : List Int) (n : Nat) (h : n < l.length) : val (l.drop n) = l.getD n 0 + 10000 * val (l.drop (n + 1)) := by
  rw [List.drop_eq_getElem_cons h]
  simp [val, List.getD, List.getElem?_eq_getElem h]
theorem subD_l1 (a b : List Int) (ha : Digs a) (hb : Digs b) (hl : a.length ≤ 1000000) (hbl : b.length ≤ 1000000) : ∀ (n i : Nat) (br : Int) (L : List Int), n = a.length - i → i ≤ a.length → (br = 0 ∨ br = 1) → Digs L → L.length = i →
    val L = val (a.take i) - val (b.take i) + br * 10000 ^ i → ∃ L' br', iter (m_cocketref01_subD_l1 a b) (br, (i : Int), L) = some L' ∧ (br' = 0 ∨ br' = 1) ∧ Digs L' ∧ L'.length = a.length ∧ val L' = val a - val (b.take a.length) + br' * 10000 ^ a.length
  | 0, i, br, L, hn, hi, hbr, hD, hL, hv => by
    have e : i = a.length := by omega
    subst e
    refine ⟨L, br, iter_done ?_, hbr, hD, hL, by rw [hv, List.take_length]⟩
    rw [m_cocketref01_subD_l1]
    have e : decide (((a.length : Nat) : Int) < (a.length : Int)) = false := by simp
    rw [e]; rfl
  | n + 1, i, br, L, hn, hi, hbr, hD, hL, hv => by
    have e : decide ((i : Int) < (a.length : Int)) = true := decide_eq_true (by omega)
    have e1 : idx a (i : Int) = some (a.getD i 0) := getD_idx (by omega) (by omega)
    have d1 := ha.getD i
    have d2 := hb.getD i
    have hs : ((cond (decide ((i : Int) < (b.length : Int))) ((idx b (i : Int)).bind fun e2 => some (IntKind.i64.wrap ((IntKind.i64.wrap (a.getD i 0 - br)) - e2))) (some (IntKind.i64.wrap (a.getD i 0 - br)))) : Option Int) = some (a.getD i 0 - br - b.getD i 0) := by
      by_cases hib : i < b.length
      · have d : decide ((i : Int) < (b.length : Int)) = true := decide_eq_true (by omega)
        have e2 : idx b (i : Int) = some (b.getD i 0) := getD_idx (by omega) (by omega)
        rw [d]
        simp only [cond_true, e2, Option.bind_some]
        rw [wrap_i64_eq (x := a.getD i 0 - br) (by omega), wrap_i64_eq (by omega)]
      · have d : decide ((i : Int) < (b.length : Int)) = false := decide_eq_false (by omega)
        have hz : b.getD i 0 = 0 := by simp [List.getD, List.getElem?_eq_none (show b.length ≤ i by omega)]
        rw [d, hz]
        simp only [cond_false]
        rw [wrap_i64_eq (by omega)]
        simp
    have ea := val_take_succ a i
    have eb := val_take_succ b i
    generalize ht : a.getD i 0 - br - b.getD i 0 = t at hs
    have hb2 : ∃ br2 s2, ((cond (decide (t < 0)) (some (1, IntKind.i64.wrap (t + 10000))) (some (0, t))) : Option (Int × Int)) = some (br2, s2) ∧ (br2 = 0 ∨ br2 = 1) ∧ (0 ≤ s2 ∧ s2 ≤ 9999) ∧ s2 = t + br2 * 10000 := by
      by_cases hn : t < 0
      · refine ⟨1, t + 10000, ?_, .inr rfl, by omega, by omega⟩
        rw [decide_eq_true hn, wrap_i64_eq (by omega)]; rfl
      · refine ⟨0, t, ?_, .inl rfl, by omega, by omega⟩
        rw [decide_eq_false hn]; rfl
    obtain ⟨br2, s2, hbs, hbr2, hs2, hst⟩ := hb2
    have hv2 : val (L ++ [s2]) = val (a.take (i + 1)) - val (b.take (i + 1)) + br2 * 10000 ^ (i + 1) := by
      rw [val_app, hL, ea, eb, hv, Int.pow_succ]
      simp only [val, Int.mul_zero, Int.add_zero]
      have h1 := congrArg (· * (10000 : Int) ^ i) (hst.trans (by rw [← ht]))
      generalize (10000 : Int) ^ i = P at *
      generalize a.getD i 0 = A at *
      generalize b.getD i 0 = B at *
      simp only [Int.mul_add, Int.add_mul, Int.sub_mul, Int.mul_sub, Int.mul_assoc, Int.mul_comm, Int.mul_left_comm] at h1 ⊢
      omega
    obtain ⟨L', br', g1, g2⟩ := subD_l1 a b ha hb hl hbl n (i + 1) br2 (L ++ [s2]) (by omega) (by omega) hbr2 (hD.app (Digs.cons hs2 Digs.nil)) (by simp; omega) hv2
    refine ⟨L', br', iter_step (s' := (br2, ((i + 1 : Nat) : Int), L ++ [s2])) ?_ g1, g2⟩
    rw [m_cocketref01_subD_l1, e]
    simp only [cond_true, e1, Option.bind_some, hs, hbs]
    rw [guardO_pos (by simp; omega), wrap_i64_eq (by omega)]
    rfl
theorem subD_eq {a b : List Int} (ha : Canon a) (hb : Canon b) (hal : a.length ≤ 1000000) (hle : val b ≤ val a) : ∃ r, m_cocketref01_subD a b = some r ∧ Canon r ∧ val r = val a - val b ∧ r.length ≤ a.length := by
  have hbl : b.length ≤ a.length := by
    rcases Nat.lt_or_ge a.length b.length with h | h
    · have := canon_lt ha hb h; omega
    · exact h
  obtain ⟨L, br, h1, h2, h3, h4, h5⟩ := subD_l1 a b ha.1 hb.1 hal (by omega) a.length 0 0 [] (by omega) (by omega) (.inl rfl) Digs.nil rfl (by simp [val])
  rw [List.take_of_length_le hbl] at h5
  have hb0 : br = 0 := by
    rcases h2 with h | h
    · exact h
    · have := (val_bounds h3).2
      rw [h4] at this
      subst h; omega
  subst hb0
  obtain ⟨r, g1, g2, g3, g4⟩ := trim_eq (d := L) (by omega) h3
  refine ⟨r, ?_, g2, by rw [g3, h5]; omega, by omega⟩
  rw [show ((0 : Nat) : Int) = 0 from rfl] at h1
  rw [m_cocketref01_subD, h1]
  simp only [Option.bind_some, g1]
theorem sgn_le (x : Int) : sgn x ≤ 0 ↔ x ≤ 0 := by
  unfold sgn
  split
  · omega
  · split <;> omega
theorem sgn_pos (x : Int) : 0 < sgn x ↔ 0 < x := by
  unfold sgn
  split
  · omega
  · split <;> omega
theorem sgn_zero (x : Int) : sgn x = 0 ↔ x = 0 := by
  unfold sgn
  split
  · omega
  · split <;> omega
theorem digs1 {x : Int} (h : 0 ≤ x ∧ x ≤ 9999) : Digs [x] := Digs.cons h Digs.nil
theorem mulB {b : List Int} (hb : Canon b) (hbl : b.length ≤ 1000) {q : Int} (hq : 0 ≤ q ∧ q ≤ 9999) : ∃ r2 r3, m_cocketref01_trim [q] = some r2 ∧ m_cocketref01_mulD b r2 = some r3 ∧ Canon r3 ∧ val r3 = val b * q ∧ r3.length ≤ 2000 := by
  obtain ⟨r2, h1, h2, h3, h4⟩ := trim_eq (d := [q]) (by simp) (digs1 hq)
  obtain ⟨r3, g1, g2, g3⟩ := mulD_eq (a := b) (b := r2) hb.1 h2.1 (by simp at h4; omega)
  refine ⟨r2, r3, h1, g1, g2, by rw [g3, h3]; simp [val], ?_⟩
  have hb2 := val_bounds hb.1
  have hb3 := val_bounds h2.1
  refine Nat.le_trans (canon_len g2 (k := b.length + r2.length) ?_) (by simp at h4; omega)
  rw [g3, Int.pow_add]
  exact Int.mul_lt_mul' (by omega) hb3.2 hb3.1 (pow_pos' _)
theorem divD_l2 {b r1 : List Int} (hb : Canon b) (hbl : b.length ≤ 1000) (hr : Canon r1) (hrl : r1.length ≤ 2000) (h0 : 0 < val b) (hlt : val r1 < val b * 10000) :
    ∃ q, iter (m_cocketref01_divD_l2 b r1) (0, 9999) = some q ∧ (0 ≤ q ∧ q ≤ 9999 ∧ val b * q ≤ val r1 ∧ val r1 < val b * (q + 1)) := by
  have hr0 := (val_bounds hr.1).1
  refine iter_inv (fun s : Int × Int => 0 ≤ s.1 ∧ s.1 ≤ s.2 ∧ s.2 ≤ 9999 ∧ val b * s.1 ≤ val r1 ∧ val r1 < val b * (s.2 + 1)) _ (fun s => (s.2 - s.1).toNat) ?_ ⟨by decide, by decide, by decide, by simpa using hr0, by simpa using hlt⟩
  rintro ⟨lo, hi⟩ ⟨h1, h2, h3, h4, h5⟩
  dsimp only at h1 h2 h3 h4 h5
  rw [m_cocketref01_divD_l2]
  by_cases hc : lo < hi
  · rw [decide_eq_true hc]
    have hw : IntKind.i64.wrap ((IntKind.i64.wrap ((IntKind.i64.wrap (lo + hi)) + 1)).tdiv 2) = (lo + hi + 1) / 2 := by
      rw [wrap_i64_eq (x := lo + hi) (by omega), wrap_i64_eq (x := lo + hi + 1) (by omega), tdiv_eq (by omega), wrap_i64_eq (by omega)]
    rw [hw]
    generalize hm : (lo + hi + 1) / 2 = m
    have hm1 : lo < m ∧ m ≤ hi := by omega
    obtain ⟨r2, r3, g1, g2, g3, g4, g5⟩ := mulB hb hbl (q := m) (by omega)
    simp only [cond_true, g1, g2, Option.bind_some, cmpD_eq g3 hr (by omega) (by omega)]
    by_cases hle : val b * m ≤ val r1
    · have hs : sgn (val r3 - val r1) ≤ 0 := (sgn_le _).2 (by omega)
      rw [decide_eq_true hs]
      exact ⟨_, rfl, ⟨by dsimp only; omega, by dsimp only; omega, h3, hle, h5⟩, by dsimp only; omega⟩
    · have hs : ¬ sgn (val r3 - val r1) ≤ 0 := fun h => by have := (sgn_le _).1 h; omega
      rw [decide_eq_false hs, wrap_i64_eq (by omega)]
      exact ⟨_, rfl, ⟨h1, by dsimp only; omega, by dsimp only; omega, h4, by dsimp only; rw [show m - 1 + 1 = m by omega]; omega⟩, by dsimp only; omega⟩
  · rw [decide_eq_false hc]
    have : lo = hi := by omega
    subst this
    exact ⟨_, rfl, h1, h3, h4, h5⟩
theorem alg_div (e Q b r q r' : Int) (h : r' = e + 10000 * r - b * q) : e + 10000 * (Q * b + r) = (q + 10000 * Q) * b + r' := by
  subst h
  generalize (10000 : Int) = K
  simp only [Int.mul_add, Int.add_mul, Int.sub_mul, Int.mul_sub, Int.mul_assoc, Int.mul_comm, Int.mul_left_comm]
  omega
theorem divD_l1 (a b : List Int) (ha : Digs a) (hal : a.length ≤ 1000) (hb : Canon b) (hbl : b.length ≤ 1000) (h0 : 0 < val b) : ∀ (n : Nat) (rem L : List Int), n ≤ a.length → Canon rem → val rem < val b → Digs L → L.length = a.length →
    val (a.drop n) = val (L.drop n) * val b + val rem →
    ∃ rem' L', iter (m_cocketref01_divD_l1 a b) (rem, (n : Int) - 1, L) = some (rem', L') ∧ Canon rem' ∧ val rem' < val b ∧ Digs L' ∧ L'.length = a.length ∧ val a = val L' * val b + val rem'
  | 0, rem, L, hn, hr, hrb, hD, hL, hv => by
    refine ⟨rem, L, iter_done ?_, hr, hrb, hD, hL, by simpa using hv⟩
    rw [m_cocketref01_divD_l1]; rfl
  | n + 1, rem, L, hn, hr, hrb, hD, hL, hv => by
    have e0 : (((n + 1 : Nat) : Int) - 1) = (n : Int) := by omega
    have e : decide ((0 : Int) ≤ (n : Int)) = true := by simp
    have e1 : idx a (n : Int) = some (a.getD n 0) := getD_idx (by omega) (by omega)
    have e2 : idx L (n : Int) = some (L.getD n 0) := getD_idx (by omega) (by omega)
    have d1 := ha.getD n
    have hr0 := (val_bounds hr.1).1
    have hrl : rem.length ≤ b.length := canon_len hr (by have := (val_bounds hb.1).2; omega)
    obtain ⟨r1, f1, f2, f3, f4⟩ := trim_eq (d := [a.getD n 0] ++ rem) (by simp; omega) ((digs1 d1).app hr.1)
    have hr1 : val r1 = a.getD n 0 + 10000 * val rem := by rw [f3]; rfl
    have hr1l : r1.length ≤ 2000 := by simp at f4; omega
    obtain ⟨q, g1, g2, g3, g4, g5⟩ := divD_l2 hb hbl f2 hr1l h0 (by rw [hr1]; omega)
    obtain ⟨r5, r6, k1, k2, k3, k4, k5⟩ := mulB hb hbl (q := q) ⟨g2, g3⟩
    obtain ⟨r7, s1, s2, s3, s4⟩ := subD_eq f2 k3 (by omega) (by omega)
    have hr7 : val r7 < val b := by
      rw [s3, k4]
      rw [Int.mul_add] at g5
      omega
    have hv2 : val (a.drop n) = val ((L.set n q).drop n) * val b + val r7 := by
      rw [val_drop a n (by omega), val_drop (L.set n q) n (by simp; omega), getD_set_eq (by omega), hv]
      have hdrop : (L.set n q).drop (n + 1) = L.drop (n + 1) := by rw [List.drop_set]; simp
      rw [hdrop]
      exact alg_div _ _ _ _ _ _ (by rw [s3, k4, hr1])
    obtain ⟨rem', L', t1, t2⟩ := divD_l1 a b ha hal hb hbl h0 n r7 (L.set n q) (by omega) s2 hr7 (hD.set n ⟨g2, g3⟩) (by simpa using hL) hv2
    refine ⟨rem', L', iter_step (s' := (r7, (n : Int) - 1, L.set n q)) ?_ t1, t2⟩
    rw [e0, m_cocketref01_divD_l1, e]
    simp only [cond_true, e1, Option.bind_some]
    rw [guardO_pos (by omega), f1]
    simp only [Option.bind_some, g1, e2, k1, k2, s1, Int.toNat_natCast]
    rw [wrap_i64_eq (by omega)]
theorem divD_eq {a b : List Int} (ha : Canon a) (hal : a.length ≤ 1000) (hb : Canon b) (hbl : b.length ≤ 1000) (h0 : 0 < val b) : ∃ q r, m_cocketref01_divD a b = some (q, r) ∧ Canon q ∧ Canon r ∧ val q = val a / val b ∧ val r = val a % val b := by
  have hbne : b.length ≠ 0 := fun h => by
    have : b = [] := List.length_eq_zero_iff.1 h
    subst this; simp [val] at h0
  have hb0 : decide ((b.length : Int) = 0) = false := decide_eq_false (by omega)
  obtain ⟨rem, L, h1, h2, h3, h4, h5, h6⟩ := divD_l1 a b ha.1 hal hb hbl h0 a.length [] (List.replicate a.length 0) (Nat.le_refl _) Canon.nil (by simpa [val] using h0) (Digs.rep _) (by simp) (by simp [val])
  obtain ⟨q, g1, g2, g3, g4⟩ := trim_eq (d := L) (by omega) h4
  have hr0 := (val_bounds h2.1).1
  have hq : val a / val b = val L := by
    rw [h6, Int.add_comm, Int.add_mul_ediv_right _ _ (by omega), Int.ediv_eq_zero_of_lt hr0 h3]; omega
  have hr : val a % val b = val rem := by
    rw [h6, Int.add_comm, Int.add_mul_emod_self_right, Int.emod_eq_of_lt hr0 h3]
  refine ⟨q, rem, ?_, g2, h2, by rw [g3, hq], hr.symm⟩
  rw [m_cocketref01_divD, hb0]
  simp only [cond_false]
  rw [guardO_pos ⟨by omega, by omega⟩, wrap_i64_eq (by omega), Int.toNat_natCast, h1]
  simp only [Option.bind_some, g1]
theorem gcdD_eq {a b : List Int} (ha : Canon a) (hal : a.length ≤ 1000) (hb : Canon b) (hbl : b.length ≤ 1000) : ∃ r, m_cocketref01_gcdD a b = some r ∧ Canon r ∧ val r = Int.gcd (val a) (val b) := by
  have key : ∃ x, iter m_cocketref01_gcdD_l1 (a, b) = some x ∧ (Canon x ∧ val x = Int.gcd (val a) (val b)) := by
    refine iter_inv (fun s => Canon s.1 ∧ Canon s.2 ∧ s.1.length ≤ 1000 ∧ s.2.length ≤ 1000 ∧ Int.gcd (val s.1) (val s.2) = Int.gcd (val a) (val b)) _ (fun s => (val s.2).toNat) ?_ ⟨ha, hb, hal, hbl, rfl⟩
    rintro ⟨x, y⟩ ⟨h1, h2, h3, h4, h5⟩
    dsimp only at h1 h2 h3 h4 h5
    rw [m_cocketref01_gcdD_l1]
    have hx0 := (val_bounds h1.1).1
    have hy0 := (val_bounds h2.1).1
    by_cases hc : (0 : Int) < (y.length : Int)
    · rw [decide_eq_true hc]
      have hy : 0 < val y := by
        rcases Int.lt_or_le 0 (val y) with h | h
        · exact h
        · have := canon_len h2 (k := 0) (by simp; omega)
          omega
      obtain ⟨q, r, g1, g2, g3, g4, g5⟩ := divD_eq h1 h3 h2 h4 hy
      have hr1 := Int.emod_nonneg (val x) (show val y ≠ 0 by omega)
      have hr2 := Int.emod_lt_of_pos (val x) hy
      have hrl : r.length ≤ y.length := canon_len g3 (by have := (val_bounds h2.1).2; omega)
      simp only [cond_true, g1, Option.bind_some]
      refine ⟨_, rfl, ⟨h2, g3, h4, by dsimp only; omega, ?_⟩, by dsimp only; omega⟩
      dsimp only
      rw [← h5, g5, Int.gcd_comm (val x) (val y)]
      have := Int.gcd_add_mul_left_right (val y) (val x % val y) (val x / val y)
      rw [Int.emod_add_mul_ediv] at this
      exact this.symm
    · rw [decide_eq_false hc]
      have hy : y = [] := List.length_eq_zero_iff.1 (by omega)
      subst hy
      refine ⟨_, rfl, h1, ?_⟩
      rw [← h5]; simp [val]; omega
  obtain ⟨x, h1, h2, h3⟩ := key
  exact ⟨x, by rw [m_cocketref01_gcdD, h1]; rfl, h2, h3⟩
end Go.Pv

set_option linter.unusedSimpArgs false
set_option linter.unusedVariables false
namespace Go.Pv
theorem IsB.len {b : Big} {x : Int} (h : IsB b x) {k : Nat} (hx : x < 10000 ^ k) : b.D.length ≤ k := canon_len h.can (by rw [h.val]; exact hx)
theorem pow_le_pow {a b : Nat} (h : a ≤ b) : (10000 : Int) ^ a ≤ 10000 ^ b := by
  obtain ⟨j, rfl⟩ : ∃ j, b = a + j := ⟨b - a, by omega⟩
  rw [Int.pow_add]
  have := Int.mul_le_mul_of_nonneg_left (show (1 : Int) ≤ 10000 ^ j by have := pow_pos' j; omega) (show (0 : Int) ≤ 10000 ^ a by have := pow_pos' a; omega)
  omega
theorem Of_l1 : ∀ (k : Nat) (n : Int) (L : List Int), 0 ≤ n → n ≤ 9223372036854775807 → n < 10000 ^ k → L.length + k ≤ 1000 → Digs L → ∃ L', iter m_cocketref01_Of_l1 (n, L) = some L' ∧ Digs L' ∧ L'.length ≤ 1000 ∧ val L' = val L + 10000 ^ L.length * n
  | 0, n, L, h0, h1, h2, h3, hD => by
    have : n = 0 := by simp at h2; omega
    subst this
    exact ⟨L, iter_done (by rw [m_cocketref01_Of_l1]; rfl), hD, by omega, by simp⟩
  | k + 1, n, L, h0, h1, h2, h3, hD => by
    by_cases hn : n = 0
    · subst hn
      exact ⟨L, iter_done (by rw [m_cocketref01_Of_l1]; rfl), hD, by omega, by simp⟩
    have hm := Int.emod_add_mul_ediv n 10000
    have hm1 := Int.emod_nonneg n (show (10000 : Int) ≠ 0 by decide)
    have hm2 := Int.emod_lt_of_pos n (show (0 : Int) < 10000 by decide)
    rw [Int.pow_succ] at h2
    obtain ⟨L', g1, g2, g3, g4⟩ := Of_l1 k (n / 10000) (L ++ [n % 10000]) (by omega) (by omega) (by omega) (by simp; omega) (hD.app (digs1 ⟨hm1, by omega⟩))
    refine ⟨L', iter_step (s' := (n / 10000, L ++ [n % 10000])) ?_ g1, g2, g3, ?_⟩
    · rw [m_cocketref01_Of_l1, tmod_eq h0, tdiv_eq h0, wrap_i64_eq (x := n / 10000) (by omega), decide_eq_true hn, decide_eq_false (show ¬ n % 10000 < 0 by omega)]
      simp only [cond_true, cond_false, Option.bind_some]
      rw [guardO_pos (by simp; omega)]
    · rw [g4, val_app, List.length_append, List.length_singleton, Int.pow_succ]
      simp only [val, Int.mul_zero, Int.add_zero]
      have := congrArg ((10000 : Int) ^ L.length * ·) hm
      simp only [Int.mul_add] at this
      rw [← Int.mul_assoc] at this
      omega
theorem Of_eq {n : Int} (h : 0 ≤ n ∧ n ≤ 9223372036854775807) : ∃ b, m_cocketref01_Of n = some b ∧ IsB b n := by
  obtain ⟨L, h1, h2, h3, h4⟩ := Of_l1 5 n [] h.1 h.2 (by have : (10000 : Int) ^ 5 = 100000000000000000000 := by decide
                                                         omega) (by simp) Digs.nil
  obtain ⟨b, g1, g2⟩ := whole_eq (d := L) (by omega) h2
  refine ⟨b, ?_, ?_⟩
  · rw [m_cocketref01_Of, h1]
    simp only [Option.bind_some]
    rw [decide_eq_false (show ¬ n < 0 by omega), g1]; rfl
  · have : val L = n := by rw [h4]; simp [val]
    rw [← this]; exact g2
theorem Times_eq {a b : Big} {x y : Int} (ha : IsB a x) (hb : IsB b y) (hx : x < 10000 ^ 40) (hy : y < 10000 ^ 40) : ∃ r, m_cocketref01_Times a b = some r ∧ IsB r (x * y) := by
  obtain ⟨r, h1, h2, h3⟩ := mulD_eq (a := a.D) (b := b.D) ha.can.1 hb.can.1 (by have := ha.len hx; have := hb.len hy; omega)
  have hl : r.length ≤ 80 := canon_len h2 (by
    rw [h3, ha.val, hb.val, show 80 = 40 + 40 from rfl, Int.pow_add]
    exact Int.mul_lt_mul' (by omega) hy hb.nonneg (pow_pos' _))
  obtain ⟨w, g1, g2⟩ := whole_eq (d := r) (by omega) h2.1
  refine ⟨w, ?_, ?_⟩
  · rw [m_cocketref01_Times, h1, ha.pos, hb.pos]
    simp only [Option.bind_some, beq_self_eq_true, Bool.not_true, g1]
  · rw [h3, ha.val, hb.val] at g2; exact g2
theorem Over_eq {a b : Big} {x y : Int} (ha : IsB a x) (hb : IsB b y) (hx : x < 10000 ^ 100) (hy : y < 10000 ^ 100) (h0 : 0 < y) : ∃ r, m_cocketref01_Over a b = some r ∧ IsB r.1 (x / y) ∧ IsB r.2 (x % y) := by
  obtain ⟨q, r, h1, h2, h3, h4, h5⟩ := divD_eq (a := a.D) (b := b.D) ha.can (by have := ha.len hx; omega) hb.can (by have := hb.len hy; omega) (by rw [hb.val]; exact h0)
  have hx0 := ha.nonneg
  rw [ha.val, hb.val] at h4 h5
  have hql : q.length ≤ 100 := canon_len h2 (by rw [h4]; have := Int.ediv_le_self y hx0; omega)
  have hrl : r.length ≤ 100 := canon_len h3 (by rw [h5]; have := Int.emod_lt_of_pos x h0; omega)
  obtain ⟨w, g1, g2⟩ := whole_eq (d := q) (by omega) h2.1
  obtain ⟨w', g1', g2'⟩ := whole_eq (d := r) (by omega) h3.1
  refine ⟨(w, w'), ?_, by rw [h4] at g2; exact g2, by rw [h5] at g2'; exact g2'⟩
  rw [m_cocketref01_Over, h1, ha.pos]
  simp only [Option.bind_some, Bool.not_false, cond_true, g1, g1']
structure IsQ (q : Q) (r : Ratio) : Prop where
  num : IsB q.N r.Num
  den : IsB q.D r.Den
theorem IsQ.uniq {p q : Q} {r : Ratio} (h : IsQ p r) (h' : IsQ q r) : p = q := by
  obtain ⟨n, d⟩ := p
  obtain ⟨n', d'⟩ := q
  have h1 := h.num.uniq h'.num
  have h2 := h.den.uniq h'.den
  simp only at h1 h2
  rw [h1, h2]
theorem lowest_eq {a b : Big} {x y : Int} (ha : IsB a x) (hb : IsB b y) (hx : x < 10000 ^ 100) (hy : y < 10000 ^ 100) (h0 : 0 < y) : ∃ q, m_cocketref01_lowest a b = some q ∧ IsQ q (ratioN x y) := by
  obtain ⟨g, h1, h2, h3⟩ := gcdD_eq (a := a.D) (b := b.D) ha.can (by have := ha.len hx; omega) hb.can (by have := hb.len hy; omega)
  rw [ha.val, hb.val] at h3
  have hg : 0 < Int.gcd x y := Int.gcd_pos_of_ne_zero_right _ (by omega)
  have hgy : (Int.gcd x y : Int) ≤ y := Int.le_of_dvd h0 (Int.gcd_dvd_right _ _)
  have hgl : g.length ≤ 100 := canon_len h2 (by rw [h3]; omega)
  obtain ⟨w, g1, g2⟩ := whole_eq (d := g) (by omega) h2.1
  rw [h3] at g2
  obtain ⟨r1, k1, k2, _⟩ := Over_eq ha g2 hx (by omega) (by omega)
  obtain ⟨r2, m1, m2, _⟩ := Over_eq hb g2 hy (by omega) (by omega)
  refine ⟨⟨r1.1, r2.1⟩, ?_, k2, m2⟩
  rw [m_cocketref01_lowest, hb.pos]
  simp only [cond_false, Option.bind_some, h1, g1, k1, m1]
theorem small_of {x : Int} (h : x ≤ 9223372036854775807) : x < 10000 ^ 40 := by
  have h1 : (10000 : Int) ^ 5 ≤ 10000 ^ 40 := pow_le_pow (by decide)
  have h2 : (10000 : Int) ^ 5 = 100000000000000000000 := by decide
  omega
theorem lt40_100 {x : Int} (h : x < 10000 ^ 40) : x < 10000 ^ 100 := by
  have h1 : (10000 : Int) ^ 40 ≤ 10000 ^ 100 := pow_le_pow (by decide)
  omega
theorem Frac_eq {n d : Int} (hn : 1 ≤ n ∧ n ≤ 9223372036854775807) (hd : 1 ≤ d ∧ d ≤ 9223372036854775807) : ∃ q, m_cocketref01_Frac n d = some q ∧ IsQ q (ratioN n d) := by
  obtain ⟨a, h1, h2⟩ := Of_eq (n := n) ⟨by omega, hn.2⟩
  obtain ⟨b, h3, h4⟩ := Of_eq (n := d) ⟨by omega, hd.2⟩
  obtain ⟨q, h5, h6⟩ := lowest_eq h2 h4 (lt40_100 (small_of hn.2)) (lt40_100 (small_of hd.2)) (by omega)
  refine ⟨q, ?_, h6⟩
  rw [m_cocketref01_Frac, h1, h3]
  simp only [Option.bind_some, h5]
def mulN (p q : Ratio) : Ratio := ratioN (p.Num * q.Num) (p.Den * q.Den)
structure RatOk (r : Ratio) (m : Int) : Prop where
  n1 : 1 ≤ r.Num
  n2 : r.Num ≤ m
  d1 : 1 ≤ r.Den
  d2 : r.Den ≤ m
  co : Int.gcd r.Num r.Den = 1
theorem RatOk.le {r : Ratio} {m m' : Int} (h : RatOk r m) (hm : m ≤ m') : RatOk r m' := ⟨h.n1, by have := h.n2; omega, h.d1, by have := h.d2; omega, h.co⟩
theorem ratioN_ok {a b m : Int} (ha : 1 ≤ a ∧ a ≤ m) (hb : 1 ≤ b ∧ b ≤ m) : RatOk (ratioN a b) m := by
  obtain ⟨h1, h2, h3, h4⟩ := ratioN_bounds ha hb
  refine ⟨h1, h2, h3, h4, ?_⟩
  have hg : 0 < Int.gcd a b := Int.gcd_pos_of_ne_zero_left _ (by omega)
  exact Int.gcd_ediv_gcd_ediv_gcd hg
theorem mulN_ok {p q : Ratio} {m k : Int} (hp : RatOk p m) (hq : RatOk q k) : RatOk (mulN p q) (m * k) := by
  have m1 := mul_bounds (x := p.Num) (y := q.Num) (a := m) (b := k) ⟨by have := hp.n1; omega, hp.n2⟩ ⟨by have := hq.n1; omega, hq.n2⟩
  have m2 := mul_bounds (x := p.Den) (y := q.Den) (a := m) (b := k) ⟨by have := hp.d1; omega, hp.d2⟩ ⟨by have := hq.d1; omega, hq.d2⟩
  exact ratioN_ok ⟨mul_pos1 hp.n1 hq.n1, m1.2⟩ ⟨mul_pos1 hp.d1 hq.d1, m2.2⟩
theorem Mul_eq {a b : Q} {p q : Ratio} {m : Int} (ha : IsQ a p) (hb : IsQ b q) (hp : RatOk p m) (hq : RatOk q m) (hm : m < 10000 ^ 40) : ∃ r, m_cocketref01_Mul a b = some r ∧ IsQ r (mulN p q) := by
  have p1 := hp.n1
  have p2 := hp.d1
  have q1 := hq.n1
  have q2 := hq.d1
  obtain ⟨u, h1, h2⟩ := Times_eq ha.num hb.num (by have := hp.n2; omega) (by have := hq.n2; omega)
  obtain ⟨v, h3, h4⟩ := Times_eq ha.den hb.den (by have := hp.d2; omega) (by have := hq.d2; omega)
  have hb2 : ∀ {x y : Int}, 1 ≤ x → x ≤ m → 1 ≤ y → y ≤ m → x * y < 10000 ^ 100 := fun {x y} a1 a2 a3 a4 => by
    have := Int.mul_lt_mul' (show x ≤ (10000 : Int) ^ 40 by omega) (show y < (10000 : Int) ^ 40 by omega) (by omega) (pow_pos' 40)
    rw [← Int.pow_add] at this
    have h80 : (10000 : Int) ^ (40 + 40) ≤ 10000 ^ 100 := pow_le_pow (by decide)
    omega
  obtain ⟨r, h5, h6⟩ := lowest_eq h2 h4 (hb2 p1 hp.n2 q1 hq.n2) (hb2 p2 hp.d2 q2 hq.d2) (by have := mul_pos1 p2 q2; omega)
  refine ⟨r, ?_, h6⟩
  rw [m_cocketref01_Mul, h1, h3]
  simp only [Option.bind_some, h5]
theorem Cmp_eq {a b : Q} {p q : Ratio} {m : Int} (ha : IsQ a p) (hb : IsQ b q) (hp : RatOk p m) (hq : RatOk q m) (hm : m < 10000 ^ 40) : m_cocketref01_Cmp a b = some (sgn (p.Num * q.Den - q.Num * p.Den)) := by
  have p1 := hp.n1
  have p2 := hp.d1
  have q1 := hq.n1
  have q2 := hq.d1
  obtain ⟨u, h1, h2⟩ := Times_eq ha.num hb.den (by have := hp.n2; omega) (by have := hq.d2; omega)
  obtain ⟨v, h3, h4⟩ := Times_eq hb.num ha.den (by have := hq.n2; omega) (by have := hp.d2; omega)
  have hb2 : ∀ {x y : Int}, 1 ≤ x → x ≤ m → 1 ≤ y → y ≤ m → x * y < 10000 ^ 100 := fun {x y} a1 a2 a3 a4 => by
    have := Int.mul_lt_mul' (show x ≤ (10000 : Int) ^ 40 by omega) (show y < (10000 : Int) ^ 40 by omega) (by omega) (pow_pos' 40)
    rw [← Int.pow_add] at this
    have h80 : (10000 : Int) ^ (40 + 40) ≤ 10000 ^ 100 := pow_le_pow (by decide)
    omega
  have l1 := h2.len (hb2 p1 hp.n2 q2 hq.d2)
  have l2 := h4.len (hb2 q1 hq.n2 p2 hp.d2)
  rw [m_cocketref01_Cmp, h1, h3]
  simp only [Option.bind_some]
  rw [m_cocketref01_Compare, h2.pos, h4.pos, cmpD_eq h2.can h4.can (by omega) (by omega), h2.val, h4.val]
  rfl
theorem Within_l1 (a : Big) (hc : Canon a.D) (hl : a.D.length ≤ 1000) (hv : val a.D ≤ 9223372036854775807) : ∀ (n : Nat) (x : Int), n ≤ a.D.length → x = val (a.D.drop n) → iter (m_cocketref01_Within_l1 a) (x, (n : Int) - 1) = some (val a.D)
  | 0, x, _, hx => by
    refine iter_done ?_
    rw [m_cocketref01_Within_l1, hx]; rfl
  | n + 1, x, hn, hx => by
    have e0 : (((n + 1 : Nat) : Int) - 1) = (n : Int) := by omega
    have e : decide ((0 : Int) ≤ (n : Int)) = true := by simp
    have e1 : idx a.D (n : Int) = some (a.D.getD n 0) := getD_idx (by omega) (by omega)
    have hd := val_drop a.D n (by omega)
    have hb1 := val_bounds (hc.1.drop n)
    have hb2 := val_bounds (hc.1.take n)
    have hs := val_split a.D n
    have hb3 := val_bounds (hc.1.drop (n + 1))
    have hd0 := hc.1.getD n
    have hp := Int.mul_le_mul_of_nonneg_right (show (1 : Int) ≤ 10000 ^ (a.D.take n).length by have := pow_pos' (a.D.take n).length; omega) hb1.1
    have hle : val (a.D.drop n) ≤ val a.D := by omega
    have ih := Within_l1 a hc hl hv n (val (a.D.drop n)) (by omega) rfl
    refine iter_step (s' := (val (a.D.drop n), (n : Int) - 1)) ?_ ih
    rw [e0, m_cocketref01_Within_l1, e, hx]
    simp only [cond_true, e1, Option.bind_some]
    rw [wrap_i64_eq (x := val (a.D.drop (n + 1)) * 10000) (by omega), wrap_i64_eq (x := val (a.D.drop (n + 1)) * 10000 + a.D.getD n 0) (by omega), wrap_i64_eq (by omega)]
    rw [hd]
    have : val (a.D.drop (n + 1)) * 10000 + a.D.getD n 0 = a.D.getD n 0 + 10000 * val (a.D.drop (n + 1)) := by omega
    rw [this]
theorem Within_eq {a : Big} {x most : Int} (ha : IsB a x) (hx : x < 10000 ^ 100) (hm : 0 ≤ most ∧ most ≤ 9223372036854775807) : m_cocketref01_Within a most = some (if x ≤ most then (x, true) else (0, false)) := by
  obtain ⟨b, h1, h2⟩ := Of_eq (n := most) hm
  have l1 := ha.len hx
  have l2 := h2.len (lt40_100 (small_of hm.2))
  rw [m_cocketref01_Within, h1]
  simp only [Option.bind_some]
  rw [cmpD_eq ha.can h2.can (by omega) (by omega), ha.val, h2.val]
  simp only [Option.bind_some]
  by_cases hc : x ≤ most
  · rw [decide_eq_false (show ¬ 0 < sgn (x - most) from fun h => by have := (sgn_pos _).1 h; omega), if_pos hc]
    have := Within_l1 a ha.can (by omega) (by rw [ha.val]; omega) a.D.length 0 (Nat.le_refl _) (by rw [List.drop_length]; rfl)
    simp only [cond_false]
    rw [wrap_i64_eq (by omega), this, ha.val, ha.pos]; rfl
  · rw [decide_eq_true (show 0 < sgn (x - most) from (sgn_pos _).2 (by omega)), if_neg hc]; rfl
theorem ToRatio_eq {a : Q} {r : Ratio} {m most : Int} (ha : IsQ a r) (hr : RatOk r m) (hm : m ≤ most) (hm2 : most ≤ 9223372036854775807) : m_cocketref01_ToRatio a most = some (r, true) := by
  have h1 := hr.n1
  have h2 := hr.n2
  have h3 := hr.d1
  have h4 := hr.d2
  rw [m_cocketref01_ToRatio, Within_eq ha.num (lt40_100 (small_of (by omega))) ⟨by omega, hm2⟩, Within_eq ha.den (lt40_100 (small_of (by omega))) ⟨by omega, hm2⟩, if_pos (by omega), if_pos (by omega)]
  rfl
end Go.Pv

set_option linter.unusedSimpArgs false
set_option linter.unusedVariables false
namespace Go.Pv
def toRat (r : Ratio) : Rat := Rat.divInt r.Num r.Den
theorem cast_pos {b : Int} (hb : 1 ≤ b) : (0 : Rat) < (b : Rat) := by
  have := (Rat.intCast_lt_intCast (a := 0) (b := b)).2 (by omega)
  simpa using this
theorem divInt_lt_iff {a b c d : Int} (hb : 1 ≤ b) (hd : 1 ≤ d) : Rat.divInt a b < Rat.divInt c d ↔ a * d < c * b := by
  have pb := cast_pos hb
  have pd := cast_pos hd
  have hb0 : (b : Rat) ≠ 0 := fun h => by rw [h] at pb; exact absurd pb (by decide)
  have hd0 : (d : Rat) ≠ 0 := fun h => by rw [h] at pd; exact absurd pd (by decide)
  have hx : Rat.divInt a b * (b : Rat) = a := by rw [Rat.divInt_eq_div]; exact Rat.div_mul_cancel hb0
  have hy : Rat.divInt c d * (d : Rat) = c := by rw [Rat.divInt_eq_div]; exact Rat.div_mul_cancel hd0
  generalize Rat.divInt a b = x at *
  generalize Rat.divInt c d = y at *
  have pbd := Rat.mul_pos pb pd
  have e1 : ((a * d : Int) : Rat) = x * ((b : Rat) * (d : Rat)) := by rw [Rat.intCast_mul, ← hx, Rat.mul_assoc]
  have e2 : ((c * b : Int) : Rat) = y * ((b : Rat) * (d : Rat)) := by rw [Rat.intCast_mul, ← hy, Rat.mul_assoc, Rat.mul_comm (d : Rat)]
  rw [← Rat.intCast_lt_intCast, e1, e2]
  constructor
  · intro h
    exact Rat.mul_lt_mul_of_pos_right h pbd
  · intro h
    by_cases hc : y ≤ x
    · have := Rat.mul_le_mul_of_nonneg_right hc (Rat.le_of_lt pbd)
      exact absurd h (Rat.not_lt.2 this)
    · exact Rat.not_le.1 hc
theorem toRat_lt {p q : Ratio} (hp : 1 ≤ p.Den) (hq : 1 ≤ q.Den) : toRat p < toRat q ↔ p.Num * q.Den < q.Num * p.Den := divInt_lt_iff hp hq
theorem toRat_pos {p : Ratio} (hn : 1 ≤ p.Num) (hd : 1 ≤ p.Den) : 0 < toRat p := by
  have h := (divInt_lt_iff (a := 0) (b := 1) (c := p.Num) (d := p.Den) (by decide) hd).2 (by omega)
  have e : Rat.divInt 0 1 = 0 := by decide
  rw [e] at h
  exact h
theorem toRat_ratioN {a b : Int} (ha : 1 ≤ a) (hb : 1 ≤ b) : toRat (ratioN a b) = Rat.divInt a b := by
  have hg : 0 < Int.gcd a b := Int.gcd_pos_of_ne_zero_left _ (by omega)
  have h1 : a / (Int.gcd a b : Int) * (Int.gcd a b : Int) = a := Int.ediv_mul_cancel (Int.gcd_dvd_left _ _)
  have h2 : b / (Int.gcd a b : Int) * (Int.gcd a b : Int) = b := Int.ediv_mul_cancel (Int.gcd_dvd_right _ _)
  have := Rat.divInt_mul_right (n := a / (Int.gcd a b : Int)) (d := b / (Int.gcd a b : Int)) (a := (Int.gcd a b : Int)) (by omega)
  rw [h1, h2] at this
  exact this.symm
theorem toRat_mulN {p q : Ratio} (hp : 1 ≤ p.Num) (hp' : 1 ≤ p.Den) (hq : 1 ≤ q.Num) (hq' : 1 ≤ q.Den) : toRat (mulN p q) = toRat p * toRat q := by
  rw [mulN, toRat_ratioN (mul_pos1 hp hq) (mul_pos1 hp' hq'), toRat, toRat, Rat.divInt_mul_divInt]
theorem toRat_inj {p q : Ratio} (hp : 1 ≤ p.Num) (hp' : 1 ≤ p.Den) (hpc : Int.gcd p.Num p.Den = 1) (hq : 1 ≤ q.Num) (hq' : 1 ≤ q.Den) (hqc : Int.gcd q.Num q.Den = 1) (h : toRat p = toRat q) : p = q := by
  have hx : p.Num * q.Den = q.Num * p.Den := (Rat.divInt_eq_divInt_iff (by omega) (by omega)).1 h
  have hx1 := congrArg Int.natAbs hx
  rw [Int.natAbs_mul, Int.natAbs_mul] at hx1
  have c1 : Nat.Coprime p.Den.natAbs p.Num.natAbs := Nat.Coprime.symm hpc
  have c2 : Nat.Coprime q.Den.natAbs q.Num.natAbs := Nat.Coprime.symm hqc
  have d1 : p.Den ∣ q.Den := Int.natAbs_dvd_natAbs.1 (c1.dvd_of_dvd_mul_left (n := q.Den.natAbs) ⟨q.Num.natAbs, by rw [hx1, Nat.mul_comm]⟩)
  have d2 : q.Den ∣ p.Den := Int.natAbs_dvd_natAbs.1 (c2.dvd_of_dvd_mul_left (n := p.Den.natAbs) ⟨p.Num.natAbs, by rw [← hx1, Nat.mul_comm]⟩)
  have e : p.Den = q.Den := Int.dvd_antisymm (by omega) (by omega) d1 d2
  rw [e] at hx
  have e2 : p.Num = q.Num := Int.eq_of_mul_eq_mul_right (by omega) hx
  obtain ⟨n, d⟩ := p
  obtain ⟨n', d'⟩ := q
  simp only at e e2
  rw [e, e2]
theorem RatOk.inj {p q : Ratio} {m k : Int} (hp : RatOk p m) (hq : RatOk q k) (h : toRat p = toRat q) : p = q := toRat_inj hp.n1 hp.d1 hp.co hq.n1 hq.d1 hq.co h
theorem timesN_eq {p q : Ratio} {m k : Int} (hp : RatOk p m) (hq : RatOk q k) : timesN p q = mulN p q := by
  have p1 := hp.n1
  have p2 := hp.d1
  have q1 := hq.n1
  have q2 := hq.d1
  have hg1 : 0 < Int.gcd p.Num q.Den := Int.gcd_pos_of_ne_zero_left _ (by omega)
  have hg2 : 0 < Int.gcd q.Num p.Den := Int.gcd_pos_of_ne_zero_left _ (by omega)
  have ht := timesN_bounds (p := p) (q := q) (a := max p.Num p.Den) (b := max q.Num q.Den) ⟨p1, by omega⟩ ⟨p2, by omega⟩ ⟨q1, by omega⟩ ⟨q2, by omega⟩
  have hm := mulN_ok hp hq
  have a1 : p.Num / (Int.gcd p.Num q.Den : Int) * (Int.gcd p.Num q.Den : Int) = p.Num := Int.ediv_mul_cancel (Int.gcd_dvd_left _ _)
  have a2 : q.Den / (Int.gcd p.Num q.Den : Int) * (Int.gcd p.Num q.Den : Int) = q.Den := Int.ediv_mul_cancel (Int.gcd_dvd_right _ _)
  have a3 : q.Num / (Int.gcd q.Num p.Den : Int) * (Int.gcd q.Num p.Den : Int) = q.Num := Int.ediv_mul_cancel (Int.gcd_dvd_left _ _)
  have a4 : p.Den / (Int.gcd q.Num p.Den : Int) * (Int.gcd q.Num p.Den : Int) = p.Den := Int.ediv_mul_cancel (Int.gcd_dvd_right _ _)
  have c1 : Int.gcd (p.Num / (Int.gcd p.Num q.Den : Int)) (q.Den / (Int.gcd p.Num q.Den : Int)) = 1 := Int.gcd_ediv_gcd_ediv_gcd hg1
  have c2 : Int.gcd (q.Num / (Int.gcd q.Num p.Den : Int)) (p.Den / (Int.gcd q.Num p.Den : Int)) = 1 := Int.gcd_ediv_gcd_ediv_gcd hg2
  have hpc := hp.co
  have hqc := hq.co
  have hval : toRat (timesN p q) = toRat p * toRat q := by
    rw [toRat, toRat, toRat, Rat.divInt_mul_divInt]
    simp only [timesN]
    have hk : ((Int.gcd p.Num q.Den : Int) * (Int.gcd q.Num p.Den : Int)) ≠ 0 := by
      have := Int.mul_pos (show (0 : Int) < (Int.gcd p.Num q.Den : Int) by omega) (show (0 : Int) < (Int.gcd q.Num p.Den : Int) by omega)
      omega
    have := Rat.divInt_mul_right (n := p.Num / (Int.gcd p.Num q.Den : Int) * (q.Num / (Int.gcd q.Num p.Den : Int))) (d := p.Den / (Int.gcd q.Num p.Den : Int) * (q.Den / (Int.gcd p.Num q.Den : Int))) hk
    rw [← this]
    have n1 : p.Num / (Int.gcd p.Num q.Den : Int) * (q.Num / (Int.gcd q.Num p.Den : Int)) * ((Int.gcd p.Num q.Den : Int) * (Int.gcd q.Num p.Den : Int)) = p.Num * q.Num := by
      refine Eq.trans (b := (p.Num / (Int.gcd p.Num q.Den : Int) * (Int.gcd p.Num q.Den : Int)) * (q.Num / (Int.gcd q.Num p.Den : Int) * (Int.gcd q.Num p.Den : Int))) ?_ (by rw [a1, a3])
      simp only [Int.mul_assoc, Int.mul_comm, Int.mul_left_comm]
    have n2 : p.Den / (Int.gcd q.Num p.Den : Int) * (q.Den / (Int.gcd p.Num q.Den : Int)) * ((Int.gcd p.Num q.Den : Int) * (Int.gcd q.Num p.Den : Int)) = p.Den * q.Den := by
      refine Eq.trans (b := (p.Den / (Int.gcd q.Num p.Den : Int) * (Int.gcd q.Num p.Den : Int)) * (q.Den / (Int.gcd p.Num q.Den : Int) * (Int.gcd p.Num q.Den : Int))) ?_ (by rw [a4, a2])
      simp only [Int.mul_assoc, Int.mul_comm, Int.mul_left_comm]
    rw [n1, n2]
  have hco : Int.gcd (timesN p q).Num (timesN p q).Den = 1 := by
    simp only [timesN]
    show Nat.Coprime (Int.natAbs _) (Int.natAbs _)
    rw [Int.natAbs_mul, Int.natAbs_mul]
    have v1 : (p.Num / (Int.gcd p.Num q.Den : Int)).natAbs ∣ p.Num.natAbs := Int.natAbs_dvd_natAbs.2 ⟨_, a1.symm⟩
    have v2 : (q.Den / (Int.gcd p.Num q.Den : Int)).natAbs ∣ q.Den.natAbs := Int.natAbs_dvd_natAbs.2 ⟨_, a2.symm⟩
    have v3 : (q.Num / (Int.gcd q.Num p.Den : Int)).natAbs ∣ q.Num.natAbs := Int.natAbs_dvd_natAbs.2 ⟨_, a3.symm⟩
    have v4 : (p.Den / (Int.gcd q.Num p.Den : Int)).natAbs ∣ p.Den.natAbs := Int.natAbs_dvd_natAbs.2 ⟨_, a4.symm⟩
    have w1 : Nat.Coprime p.Num.natAbs p.Den.natAbs := hpc
    have w2 : Nat.Coprime q.Num.natAbs q.Den.natAbs := hqc
    exact Nat.Coprime.mul_left (Nat.Coprime.mul_right ((w1.coprime_dvd_left v1).coprime_dvd_right v4) c1) (Nat.Coprime.mul_right c2 ((w2.coprime_dvd_left v3).coprime_dvd_right v2))
  have hm1 := hm.n1
  have hm2 := hm.d1
  exact toRat_inj ht.1 ht.2.2.1 hco hm.n1 hm.d1 hm.co (by rw [hval, toRat_mulN p1 p2 q1 q2])
end Go.Pv

set_option linter.unusedSimpArgs false
set_option linter.unusedVariables false
namespace Go.Pv
def aboveS (a b : Ratio) : Bool := decide (b.Num * a.Den < a.Num * b.Den)
theorem above_eq {a b : Ratio} {x y : Int} (h1 : 0 ≤ a.Num ∧ a.Num ≤ x) (h2 : 0 ≤ a.Den ∧ a.Den ≤ x) (h3 : 0 ≤ b.Num ∧ b.Num ≤ y) (h4 : 0 ≤ b.Den ∧ b.Den ≤ y) (h : x * y ≤ 9223372036854775807) : m_rate_above a b = some (aboveS a b) := by
  have m1 := mul_bounds h1 h4
  have m2 := mul_bounds h2 h3
  rw [Int.mul_comm a.Den b.Num] at m2
  rw [m_rate_above, wrap_i64_eq (by omega), wrap_i64_eq (by omega)]
  rfl
structure MarketOk (m : Market) : Prop where
  n1 : 2 ≤ m.n
  n2 : m.n ≤ 6
  len : m.offers.length ≤ 40
  good : ∀ o ∈ m.offers, offerOk m.n o = true
theorem MarketOk.of {n : Int} {l : List Offer} (h : ofCode n l = 0) : MarketOk ⟨n, l⟩ :=
  ⟨(ofCode_zero h).1, (ofCode_zero h).2.1, (ofCode_zero h).2.2.1, (ofCode_zero h).2.2.2⟩
theorem MarketOk.offer {m : Market} (h : MarketOk m) : ∀ o ∈ m.offers, goodOffer m.n o = true := fun o ho => by
  have := h.good o ho
  simp only [offerOk, Bool.and_eq_true] at this
  exact this.1
theorem MarketOk.pre {m : Market} (h : MarketOk m) {frm length : Int} (h1 : 0 ≤ frm ∧ frm < m.n) (h2 : 0 ≤ length ∧ length ≤ m.n) (r : Bool) : walksPre m frm length r = true := by
  have := h.n2
  have h3 := h.len
  simp only [walksPre, Bool.and_eq_true, decide_eq_true_eq, List.all_eq_true]
  exact ⟨⟨h.n2, by omega, h1.1, h1.2, h2.1, by omega⟩, h.offer⟩
theorem MarketOk.facts {m : Market} (h : MarketOk m) (frm length : Int) (r : Bool) (h2 : 0 ≤ length ∧ length ≤ m.n) : ∀ x ∈ walksL m frm length r, (x.list.length : Int) = length ∧ (1 ≤ x.rate.Num ∧ x.rate.Num ≤ 15625000000) ∧ (1 ≤ x.rate.Den ∧ x.rate.Den ≤ 15625000000) := by
  intro x hx
  obtain ⟨a1, a2, a3⟩ := walksL_facts m h.offer frm length r x hx
  have := h.n2
  have hp := pow50_le (a := x.list.length) (b := 6) (by omega)
  have e : (50 : Int) ^ 6 = 15625000000 := by decide
  refine ⟨a1, ⟨a2.1, by omega⟩, a3.1, by omega⟩
theorem MarketOk.facts5 {m : Market} (h : MarketOk m) (frm length : Int) (r : Bool) (h2 : 0 ≤ length ∧ length < m.n) : ∀ x ∈ walksL m frm length r, (x.list.length : Int) = length ∧ (1 ≤ x.rate.Num ∧ x.rate.Num ≤ 312500000) ∧ (1 ≤ x.rate.Den ∧ x.rate.Den ≤ 312500000) := by
  intro x hx
  obtain ⟨a1, a2, a3⟩ := walksL_facts m h.offer frm length r x hx
  have := h.n2
  have hp := pow50_le (a := x.list.length) (b := 5) (by omega)
  have e : (50 : Int) ^ 5 = 312500000 := by decide
  refine ⟨a1, ⟨a2.1, by omega⟩, a3.1, by omega⟩
def gainsW (x : Walk) : Bool := aboveS x.rate ⟨1, 1⟩
def lesser (a c : List Int) : List Int := if c.isEmpty || decide (cmpL a c < 0) then a else c
def roundV (c : List Int) : List Walk → List Int
  | [] => c
  | x :: W => if gainsW x then lesser x.list c else roundV c W
theorem roundV_len {c : List Int} (hc : c.length ≤ 1000) : ∀ {W : List Walk}, (∀ x ∈ W, x.list.length ≤ 1000) → (roundV c W).length ≤ 1000
  | [], _ => hc
  | x :: W, h => by
    unfold roundV
    split
    · unfold lesser; split
      · exact h x (by simp)
      · exact hc
    · exact roundV_len hc fun y hy => h y (List.mem_cons_of_mem _ hy)
theorem rangeM_round (c : List Int) (hc : c.length ≤ 1000) : ∀ (W : List Walk), (∀ x ∈ W, x.list.length ≤ 1000 ∧ (1 ≤ x.rate.Num ∧ x.rate.Num ≤ 15625000000) ∧ (1 ≤ x.rate.Den ∧ x.rate.Den ≤ 15625000000)) →
    ((rangeM m_rate_market_round_r3 c W).bind fun o => match o with | .inl c4 => some c4 | .inr c41 => some c41) = some (roundV c W)
  | [], _ => rfl
  | x :: W, h => by
    obtain ⟨h1, h2, h3⟩ := h x (by simp)
    have ha : m_rate_above x.rate ⟨1, 1⟩ = some (gainsW x) := above_eq (x := 15625000000) (y := 1) ⟨by omega, by omega⟩ ⟨by omega, by omega⟩ (by simp) (by simp) (by omega)
    have ih := rangeM_round c hc W fun y hy => h y (List.mem_cons_of_mem _ hy)
    unfold roundV
    rw [rangeM, m_rate_market_round_r3, ha]
    simp only [Option.bind_some]
    rcases Bool.eq_false_or_eq_true (gainsW x) with hg | hg
    · rw [hg, Compare_eq _ _ (by omega) (by omega)]
      simp only [cond_true, if_true, Option.bind_some, lesser]
      rcases Bool.eq_false_or_eq_true c.isEmpty with he | he
      · simp [he]
      · by_cases hl : cmpL x.list c < 0
        · simp [he, hl]
        · simp [he, hl]
    · rw [hg]
      simp only [cond_false, Option.bind_some, Bool.false_eq_true, if_false]
      exact ih
def roundLen (m : Market) (length : Int) : List Int := foldUp (fun v c => roundV c (walksL m v length true)) m.n.toNat 0 []
theorem round_l2 {m : Market} (h : MarketOk m) {length : Int} (hl : 0 ≤ length ∧ length ≤ m.n) : iter (m_rate_market_round_l2 m length) (0, []) = some (roundLen m length) ∧ (roundLen m length).length ≤ 1000 := by
  have hn2 := h.n2
  have key := iter_fold (f := m_rate_market_round_l2 m length) (n := m.n) (e := id) (i := 0) (s := [])
    (g := fun v c => guardO (walksPre m v length true = true) <| (rangeM (m_rate_market_round_r3) c (walksL m v length true)).bind fun o => match o with | .inl c4 => some c4 | .inr c41 => some c41)
    (h := fun v c => roundV c (walksL m v length true)) (fun _ c => c.length ≤ 1000) (by omega) (fun i s => by rw [m_rate_market_round_l2]; rfl) (by omega) ?_ (by simp)
  · have e : m.n - 0 = m.n := by omega
    rw [e] at key
    exact key
  · intro j s h1 h2 h3
    have hf := h.facts j length true hl
    have hle : ∀ x ∈ walksL m j length true, x.list.length ≤ 1000 := fun x hx => by
      have := (hf x hx).1
      omega
    rw [guardO_pos (h.pre ⟨h1, h2⟩ hl true), rangeM_round s h3 _ fun x hx => ⟨hle x hx, (hf x hx).2⟩]
    exact ⟨rfl, roundV_len h3 hle⟩
def roundFrom (m : Market) : Nat → Int → List Int
  | 0, _ => []
  | k + 1, length => if (roundLen m length).isEmpty then roundFrom m k (length + 1) else roundLen m length
def roundS (m : Market) : List Int := roundFrom m (m.n - 1).toNat 2
theorem round_l1 {m : Market} (h : MarketOk m) : ∀ (k : Nat) (length : Int), k = (m.n + 1 - length).toNat → 0 ≤ length →
    ((iter (m_rate_market_round_l1 m) length).bind fun o => match o with | .inl _ => some [] | .inr y => some y) = some (roundFrom m k length)
  | 0, length, hk, h0 => by
    have d : decide (length ≤ m.n) = false := by simp; omega
    rw [iter_eq, m_rate_market_round_l1, d]; rfl
  | k + 1, length, hk, h0 => by
    have hn2 := h.n2
    have d : decide (length ≤ m.n) = true := by simp; omega
    have ih := round_l1 h k (length + 1) (by omega) (by omega)
    rw [iter_eq, m_rate_market_round_l1, d, (round_l2 h ⟨h0, by omega⟩).1, roundFrom]
    simp only [cond_true, Option.bind_some]
    rcases Bool.eq_false_or_eq_true (roundLen m length).isEmpty with he | he
    · simp only [he, Bool.not_true, cond_false, Option.bind_some, if_true]
      rw [wrap_i64_eq (by omega)]
      exact ih
    · simp only [he, Bool.not_false, cond_true, Option.bind_some, Bool.false_eq_true, if_false]
theorem round_eq {m : Market} (h : MarketOk m) : m_rate_market_round m = some (roundS m) := by
  have hn2 := h.n2
  have := round_l1 h _ 2 rfl (by omega)
  rw [m_rate_market_round]
  have e : (m.n + 1 - 2).toNat = (m.n - 1).toNat := by omega
  rw [e] at this
  obtain ⟨x, h1, h2⟩ := bind_some this
  rw [h1]
  rcases x with x | x <;> exact h2
def bestStep (to : Int) (s : Walk × Bool) (x : Walk) : Walk × Bool := if (decide (x.to = to) && (!s.2 || aboveS x.rate s.1.rate)) = true then (x, true) else s
def bestS (m : Market) (frm to : Int) : Walk × Bool :=
  if frm = to then (⟨[], ⟨1, 1⟩, 0⟩, true) else foldUp (fun length s => (walksL m frm length false).foldl (bestStep to) s) (m.n - 1).toNat 1 (⟨[], ⟨0, 0⟩, 0⟩, false)
def RateOk (r : Ratio) : Prop := (0 ≤ r.Num ∧ r.Num ≤ 312500000) ∧ 0 ≤ r.Den ∧ r.Den ≤ 312500000
theorem RateOk.mk1 {a b : Int} (h : (0 ≤ a ∧ a ≤ 312500000) ∧ 0 ≤ b ∧ b ≤ 312500000) : RateOk ⟨a, b⟩ := h
theorem above_ok {a b : Ratio} (h1 : RateOk a) (h2 : RateOk b) : m_rate_above a b = some (aboveS a b) :=
  above_eq (x := 312500000) (y := 312500000) h1.1 h1.2 h2.1 h2.2 (by omega)
theorem rangeM_best (to : Int) : ∀ (W : List Walk) (s : Walk × Bool), RateOk s.1.rate → (∀ x ∈ W, RateOk x.rate) →
    rangeM (m_rate_market_best_r2 to) s W = some (.inl (W.foldl (bestStep to) s)) ∧ RateOk (W.foldl (bestStep to) s).1.rate
  | [], s, hs, _ => ⟨rfl, hs⟩
  | x :: W, s, hs, h => by
    have hx := h x (by simp)
    have e : m_rate_market_best_r2 to s x = some (.inl (bestStep to s x)) := by
      obtain ⟨s1, s2⟩ := s
      rw [m_rate_market_best_r2, above_ok hx hs]
      simp only [bestStep, Option.bind_some]
      rcases Bool.eq_false_or_eq_true (decide (x.to = to)) with c1 | c1
      · rcases Bool.eq_false_or_eq_true s2 with c2 | c2
        · rcases Bool.eq_false_or_eq_true (aboveS x.rate s1.rate) with c3 | c3
          · simp [c1, c2, c3]
          · simp [c1, c2, c3]
        · simp [c1, c2]
      · simp [c1]
    have hr : RateOk (bestStep to s x).1.rate := by
      unfold bestStep; split
      · exact hx
      · exact hs
    rw [rangeM, e]
    exact rangeM_best to W _ hr fun y hy => h y (List.mem_cons_of_mem _ hy)
theorem best_eq {m : Market} (h : MarketOk m) {frm : Int} (hf : 0 ≤ frm ∧ frm < m.n) (to : Int) : m_rate_market_best m frm to = some (bestS m frm to) ∧ RateOk (bestS m frm to).1.rate := by
  have hn2 := h.n2
  rw [m_rate_market_best, bestS]
  by_cases he : frm = to
  · have d : decide (frm = to) = true := by simpa using he
    rw [d, if_pos he]
    exact ⟨rfl, RateOk.mk1 (by decide)⟩
  have d : decide (frm = to) = false := by simpa using he
  rw [d, if_neg he]
  have key := iter_fold (f := fun x : Int × (Walk × Bool) => m_rate_market_best_l1 m frm to x) (n := m.n) (e := id) (i := 1) (s := (⟨[], ⟨0, 0⟩, 0⟩, false))
    (g := fun length s => (guardO (walksPre m frm length false = true) <| (rangeM (m_rate_market_best_r2 to) s (walksL m frm length false)).bind fun o => match o with | .inl (c7, c8) => some (c7, c8) | .inr (c71, c81) => none))
    (h := fun length s => (walksL m frm length false).foldl (bestStep to) s) (fun _ s => RateOk s.1.rate) (by omega) ?_ (by omega) ?_ (RateOk.mk1 (by decide))
  · simp only [cond_false, key.1, Option.bind_some]
    exact ⟨rfl, key.2⟩
  · rintro i ⟨s1, s2⟩
    rw [m_rate_market_best_l1]
    rfl
  · intro j s h1 h2 h3
    have hfa := h.facts5 frm j false ⟨by omega, h2⟩
    obtain ⟨b1, b2⟩ := rangeM_best to (walksL m frm j false) s h3 fun x hx => by
      have := hfa x hx
      exact ⟨⟨by omega, by omega⟩, by omega, by omega⟩
    rw [guardO_pos (h.pre hf ⟨by omega, by omega⟩ false), b1]
    exact ⟨rfl, b2⟩
def priceStep (m : Market) (v v2 : Int) (c : Ratio) : Ratio := if ((bestS m v v2).2 && aboveS (bestS m v v2).1.rate c) = true then (bestS m v v2).1.rate else c
def priceS (m : Market) (v : Int) : Ratio := foldUp (priceStep m v) m.n.toNat 0 ⟨1, 1⟩
def pricesS (m : Market) : List Ratio := foldUp (fun v L => L ++ [priceS m v]) m.n.toNat 0 []
theorem Prices_l2 {n : Int} {l : List Offer} {c : Int} (h : MarketOk ⟨n, l⟩) {v : Int} (hv : 0 ≤ v ∧ v < n) : iter (m_rate_Prices_l2 n (⟨n, l⟩, c) v) (0, ⟨1, 1⟩) = some (priceS ⟨n, l⟩ v) := by
  have hn2 := h.n2
  dsimp only at hn2
  have key := iter_fold (f := m_rate_Prices_l2 n (⟨n, l⟩, c) v) (n := n) (e := id) (i := 0) (s := (⟨1, 1⟩ : Ratio))
    (g := fun v2 c2 => ((m_rate_market_best ⟨n, l⟩ v v2).bind fun r3 => ((cond r3.2 ((m_rate_above r3.1.rate c2).bind fun r4 => some r4) (some false)) : Option Bool).bind fun b1 => cond b1 (some r3.1.rate) (some c2)))
    (h := priceStep ⟨n, l⟩ v) (fun _ s => RateOk s) (by omega) (fun i s => by rw [m_rate_Prices_l2]; rfl) (by omega) ?_ (RateOk.mk1 (by decide))
  · have e : n - 0 = n := by omega
    rw [e] at key
    exact key.1
  · intro j s h1 h2 h3
    obtain ⟨b1, b2⟩ := best_eq h (frm := v) hv j
    rw [b1]
    simp only [Option.bind_some, above_ok b2 h3, priceStep]
    rcases Bool.eq_false_or_eq_true (bestS ⟨n, l⟩ v j).2 with c1 | c1
    · rcases Bool.eq_false_or_eq_true (aboveS (bestS ⟨n, l⟩ v j).1.rate s) with c2 | c2
      · simp [c1, c2, b2]
      · simp [c1, c2, h3]
    · simp [c1, h3]
theorem Prices_l1 {n : Int} {l : List Offer} {c : Int} (h : MarketOk ⟨n, l⟩) : iter (m_rate_Prices_l1 n (⟨n, l⟩, c)) (0, []) = some (pricesS ⟨n, l⟩) := by
  have hn2 := h.n2
  dsimp only at hn2
  have key := iter_fold (f := m_rate_Prices_l1 n (⟨n, l⟩, c)) (n := n) (e := id) (i := 0) (s := ([] : List Ratio))
    (g := fun v1 L2 => ((iter (m_rate_Prices_l2 n (⟨n, l⟩, c) v1) (0, (⟨1, 1⟩ : Ratio))).bind fun x_37 => some x_37 : Option Ratio).bind fun c1 => guardO (L2.length + [c1].length ≤ 4294967296) <| some (L2 ++ [c1]))
    (h := fun v L => L ++ [priceS ⟨n, l⟩ v]) (fun j L => (L.length : Int) = j) (by omega) (fun i s => by rw [m_rate_Prices_l1]; rfl) (by omega) ?_ (by simp)
  · have e : n - 0 = n := by omega
    rw [e] at key
    exact key.1
  · intro j s h1 h2 h3
    rw [Prices_l2 h ⟨h1, h2⟩]
    simp only [Option.bind_some]
    rw [guardO_pos (by simp; omega)]
    exact ⟨rfl, by simp; omega⟩
theorem Prices_eq (n : Int) (l : List Offer) : m_rate_Prices n l = some (if ofCode n l = 0 then (if (roundS ⟨n, l⟩).isEmpty then (pricesS ⟨n, l⟩, 0) else ([], 10)) else ([], ofCode n l)) := by
  rw [m_rate_Prices, of_eq]
  by_cases h0 : ofCode n l = 0
  · have hm := MarketOk.of h0
    rw [if_pos h0, if_pos h0]
    simp only [Option.bind_some, not_true_eq_false, decide_false, cond_false, round_eq hm, Prices_l1 hm]
    rcases Bool.eq_false_or_eq_true (roundS ⟨n, l⟩).isEmpty with he | he
    · simp [he]
    · simp [he]
  · have d : decide (¬ofCode n l = 0) = true := by simpa using h0
    rw [if_neg h0, if_neg h0]
    simp only [Option.bind_some, d, cond_true]
theorem Round_eq (n : Int) (l : List Offer) : m_rate_Round n l = some (if ofCode n l = 0 then (if (roundS ⟨n, l⟩).isEmpty then ([], 10) else (roundS ⟨n, l⟩, 0)) else ([], ofCode n l)) := by
  rw [m_rate_Round, of_eq]
  by_cases h0 : ofCode n l = 0
  · have hm := MarketOk.of h0
    rw [if_pos h0, if_pos h0]
    simp only [Option.bind_some, not_true_eq_false, decide_false, cond_false, round_eq hm]
    rcases Bool.eq_false_or_eq_true (roundS ⟨n, l⟩).isEmpty with he | he
    · simp [he]
    · simp [he]
  · have d : decide (¬ofCode n l = 0) = true := by simpa using h0
    rw [if_neg h0, if_neg h0]
    simp only [Option.bind_some, d, cond_true]
theorem Best_eq (n : Int) (l : List Offer) (frm to : Int) : m_rate_Best n l frm to = some (if ofCode n l = 0 then (if 0 ≤ frm ∧ frm < n ∧ 0 ≤ to ∧ to < n then (if (roundS ⟨n, l⟩).isEmpty then (if (bestS ⟨n, l⟩ frm to).2 then ((bestS ⟨n, l⟩ frm to).1.rate, (bestS ⟨n, l⟩ frm to).1.list, 0) else (⟨0, 0⟩, [], 10)) else (⟨0, 0⟩, [], 11)) else (⟨0, 0⟩, [], 2)) else (⟨0, 0⟩, [], ofCode n l)) := by
  rw [m_rate_Best, of_eq]
  by_cases h0 : ofCode n l = 0
  · have hm := MarketOk.of h0
    rw [if_pos h0, if_pos h0]
    simp only [Option.bind_some, not_true_eq_false, decide_false, cond_false, m_rate_market_has]
    by_cases hc : 0 ≤ frm ∧ frm < n ∧ 0 ≤ to ∧ to < n
    · have d1 : decide (0 ≤ frm) = true := by simp; omega
      have d2 : decide (frm < n) = true := by simp; omega
      have d3 : decide (0 ≤ to) = true := by simp; omega
      have d4 : decide (to < n) = true := by simp; omega
      rw [if_pos hc]
      simp only [d1, d2, d3, d4, Bool.and_true, Bool.not_true, cond_false, Option.bind_some, round_eq hm, (best_eq hm (frm := frm) ⟨hc.1, hc.2.1⟩ to).1]
      rcases Bool.eq_false_or_eq_true (roundS ⟨n, l⟩).isEmpty with he | he
      · simp only [he, Bool.not_true, cond_false, Option.bind_some, if_true]
        rcases Bool.eq_false_or_eq_true (bestS ⟨n, l⟩ frm to).2 with hb | hb
        · simp [hb]
        · simp [hb]
      · simp [he]
    · rw [if_neg hc]
      rcases Bool.eq_false_or_eq_true (decide (0 ≤ frm) && decide (frm < n)) with b1 | b1
      · have b2 : (decide (0 ≤ to) && decide (to < n)) = false := by
          simp only [Bool.and_eq_true, Bool.and_eq_false_iff, decide_eq_true_eq, decide_eq_false_iff_not] at *
          omega
        simp only [b1, b2, Bool.not_true, Bool.not_false, cond_true, cond_false, Option.bind_some]
      · simp only [b1, Bool.not_false, cond_true, Option.bind_some]
  · have d : decide (¬ofCode n l = 0) = true := by simpa using h0
    rw [if_neg h0, if_neg h0]
    simp only [Option.bind_some, d, cond_true]
theorem alive_true : m_cocketlaw01_alive = some true := by
  have e1 : m_rate_Prices 3 [⟨0, 1, 2, 1⟩, ⟨1, 2, 3, 2⟩, ⟨2, 0, 1, 3⟩] = some ([⟨3, 1⟩, ⟨3, 2⟩, ⟨1, 1⟩], 0) := by
    rw [Prices_eq]; decide +kernel
  have e2 : m_rate_Best 3 [⟨0, 1, 2, 1⟩, ⟨1, 2, 3, 2⟩, ⟨2, 0, 1, 3⟩] 0 2 = some (⟨3, 1⟩, [0, 1], 0) := by
    rw [Best_eq]; decide +kernel
  have e3 : m_rate_Round 3 [⟨0, 1, 2, 1⟩, ⟨1, 2, 3, 2⟩, ⟨2, 0, 1, 2⟩] = some ([0, 1, 2], 0) := by
    rw [Round_eq]; decide +kernel
  rw [m_cocketlaw01_alive, m_cocketlaw01_ring]
  simp only [Option.bind_some, e1, e2]
  have e4 : idx ([⟨0, 1, 2, 1⟩, ⟨1, 2, 3, 2⟩, ⟨2, 0, 1, 3⟩] : List Offer) 2 = some ⟨2, 0, 1, 3⟩ := rfl
  rw [e4]
  simp only [Option.bind_some, List.set]
  rw [e3]
  simp only [Option.bind_some]
  have e5 : idx ([⟨3, 1⟩, ⟨3, 2⟩, ⟨1, 1⟩] : List Ratio) 1 = some ⟨3, 2⟩ := rfl
  rw [e5, same_eq _ _ (by decide)]
  rfl
end Go.Pv

set_option linter.unusedSimpArgs false
set_option linter.unusedVariables false
namespace Go.Pv
def rateO (o : Offer) : Ratio := ratioN o.Num o.Den
theorem rateO_ok {n : Int} {o : Offer} (h : offerOk n o = true) : RatOk (rateO o) 50 := by
  simp only [offerOk, goodOffer, Bool.and_eq_true, decide_eq_true_eq] at h
  exact ratioN_ok ⟨by omega, by omega⟩ ⟨by omega, by omega⟩
theorem rate_eq {n : Int} {o : Offer} (h : offerOk n o = true) : ∃ q, m_cocketref01_rate o = some q ∧ IsQ q (rateO o) := by
  simp only [offerOk, goodOffer, Bool.and_eq_true, decide_eq_true_eq] at h
  obtain ⟨q, h1, h2⟩ := Frac_eq (n := o.Num) (d := o.Den) ⟨by omega, by omega⟩ ⟨by omega, by omega⟩
  exact ⟨q, by rw [m_cocketref01_rate, h1]; rfl, h2⟩
def pick (c : Option Ratio) (q : Ratio) : Option Ratio :=
  match c with
  | none => some q
  | some r => if toRat r < toRat q then some q else some r
def stepO (prev : Int → Option Ratio) (v : Int) (c : Option Ratio) (o : Offer) : Option Ratio :=
  if o.From = v then (match prev o.To with
    | none => c
    | some r => pick c (mulN (rateO o) r)) else c
def bestK (l : List Offer) (to : Int) : Nat → Int → Option Ratio
  | 0, v => if v = to then some ⟨1, 1⟩ else none
  | k + 1, v => l.foldl (stepO (bestK l to k) v) none
def IsR (e : Reach) : Option Ratio → Prop
  | none => e.Is = false
  | some r => e.Is = true ∧ IsQ e.Rate r
def RL (n : Int) (L : List Reach) (g : Int → Option Ratio) : Prop := (L.length : Int) = n ∧ ∀ v : Int, 0 ≤ v → v < n → ∃ e, idx L v = some e ∧ IsR e (g v)
theorem idx_set {α : Type} {L : List α} {i j : Int} {x : α} (hi : 0 ≤ i ∧ i < L.length) (hj : 0 ≤ j) : idx (L.set i.toNat x) j = if j = i then some x else idx L j := by
  rw [idx_pos hj, idx_pos hj]
  by_cases h : j = i
  · subst h
    rw [if_pos rfl, List.getElem?_set_self (by omega)]
  · rw [if_neg h, List.getElem?_set_ne (by omega)]
theorem stepO_ok {n : Int} {prev : Int → Option Ratio} {m : Int} (hprev : ∀ v r, prev v = some r → RatOk r m) (hm : 1 ≤ m) {v : Int} {c : Option Ratio} {o : Offer} (ho : offerOk n o = true) (hc : ∀ r, c = some r → RatOk r (50 * m)) :
    ∀ r, stepO prev v c o = some r → RatOk r (50 * m) := by
  intro r hr
  unfold stepO at hr
  split at hr
  · cases hp : prev o.To with
    | none => rw [hp] at hr; exact hc r hr
    | some p =>
      rw [hp] at hr
      have hq := mulN_ok (rateO_ok ho) (hprev _ _ hp)
      simp only [pick] at hr
      split at hr
      · cases hr; exact hq
      · rename_i c' 
        split at hr
        · cases hr; exact hq
        · cases hr; exact hc _ rfl
  · exact hc r hr
theorem foldO_ok {n : Int} {prev : Int → Option Ratio} {m : Int} (hprev : ∀ v r, prev v = some r → RatOk r m) (hm : 1 ≤ m) {v : Int} : ∀ (l : List Offer) (c : Option Ratio), (∀ o ∈ l, offerOk n o = true) → (∀ r, c = some r → RatOk r (50 * m)) →
    ∀ r, l.foldl (stepO prev v) c = some r → RatOk r (50 * m)
  | [], c, _, hc => hc
  | o :: l, c, ho, hc => foldO_ok hprev hm l _ (fun x hx => ho x (List.mem_cons_of_mem _ hx)) (stepO_ok hprev hm (ho o (by simp)) hc)
theorem bestK_ok {n : Int} {l : List Offer} (ho : ∀ o ∈ l, offerOk n o = true) (to : Int) : ∀ (k : Nat) (v : Int) (r : Ratio), bestK l to k v = some r → RatOk r (50 ^ k)
  | 0, v, r, h => by
    unfold bestK at h
    split at h
    · cases h; exact ⟨by decide, by decide, by decide, by decide, by decide⟩
    · cases h
  | k + 1, v, r, h => by
    have h1 : (1 : Int) ≤ 50 ^ k := by have : (0 : Int) < 50 ^ k := Int.pow_pos (by decide)
                                       omega
    have := foldO_ok (n := n) (prev := bestK l to k) (m := 50 ^ k) (bestK_ok ho to k) h1 l none ho (fun r h => by cases h) r h
    rw [Int.pow_succ, Int.mul_comm]; exact this
theorem better_eq {e : Reach} {c : Option Ratio} {q : Q} {r : Ratio} {m : Int} (he : IsR e c) (hq : IsQ q r) (hc : ∀ x, c = some x → RatOk x m) (hr : RatOk r m) (hm : m < 10000 ^ 40) :
    m_cocketref01_better e q = some (match c with | none => true | some x => decide (toRat x < toRat r)) := by
  rw [m_cocketref01_better]
  cases c with
  | none =>
    have : e.Is = false := he
    rw [this]; rfl
  | some x =>
    obtain ⟨h1, h2⟩ : e.Is = true ∧ IsQ e.Rate x := he
    have hx := hc x rfl
    rw [h1, Cmp_eq hq h2 hr hx hm]
    simp only [Bool.not_true, cond_false, Option.bind_some]
    congr 1
    have := toRat_lt hx.d1 hr.d1
    by_cases h : toRat x < toRat r
    · rw [decide_eq_true h]
      have := this.1 h
      exact decide_eq_true ((sgn_pos _).2 (by omega))
    · rw [decide_eq_false h]
      exact decide_eq_false fun h' => h (this.2 (by have := (sgn_pos _).1 h'; omega))
theorem reaches_l2 {n : Int} {l : List Offer} (hm : MarketOk ⟨n, l⟩) {L2 : List (List Reach)} {k : Nat} {R : List Reach} {prev : Int → Option Ratio} {m : Int} (hk : 1 ≤ k) (hk2 : k ≤ 1000) (hR : idx L2 ((k : Int) - 1) = some R) (hRL : RL n R prev)
    (hprev : ∀ v r, prev v = some r → RatOk r m) (hm1 : 1 ≤ m) (hm2 : 50 * m < 10000 ^ 40) : ∀ (j i : Nat) (L5 : List Reach), j = l.length - i → i ≤ l.length → RL n L5 (fun v => (l.take i).foldl (stepO prev v) none) →
    ∃ L', iter (m_cocketref01_reaches_l2 l (k : Int) L2) ((i : Int), L5) = some L' ∧ RL n L' (fun v => l.foldl (stepO prev v) none)
  | 0, i, L5, hj, hi, h => by
    have e : i = l.length := by omega
    subst e
    refine ⟨L5, iter_done ?_, by rw [List.take_length] at h; exact h⟩
    rw [m_cocketref01_reaches_l2, decide_eq_false (by omega)]; rfl
  | j + 1, i, L5, hj, hi, h => by
    have hlen := hm.len
    have hn2 := hm.n2
    dsimp only at hlen hn2
    have hil : i < l.length := by omega
    obtain ⟨o, e1, e2, e3, e4⟩ := idx_lt (l := l) (i := (i : Int)) (by omega) (by omega)
    have hok := hm.good o e4
    have hok2 := hok
    simp only [offerOk, goodOffer, Bool.and_eq_true, decide_eq_true_eq] at hok2
    obtain ⟨e, f1, f2⟩ := hRL.2 o.To (by omega) (by omega)
    have ewk : IntKind.i64.wrap ((k : Int) - 1) = (k : Int) - 1 := wrap_i64_eq (by omega)
    have etake : l.take (i + 1) = l.take i ++ [o] := by
      rw [List.take_add_one]
      have : l[i]? = some o := by simpa using e2
      rw [this]; rfl
    have hfold : ∀ v, (l.take (i + 1)).foldl (stepO prev v) none = stepO prev v ((l.take i).foldl (stepO prev v) none) o := fun v => by rw [etake, List.foldl_append]; rfl
    have goOn : ∀ L6 : List Reach, RL n L6 (fun v => (l.take (i + 1)).foldl (stepO prev v) none) → m_cocketref01_reaches_l2 l (k : Int) L2 ((i : Int), L5) = some (.inl (((i + 1 : Nat) : Int), L6)) →
        ∃ L', iter (m_cocketref01_reaches_l2 l (k : Int) L2) ((i : Int), L5) = some L' ∧ RL n L' (fun v => l.foldl (stepO prev v) none) := fun L6 h6 hst => by
      obtain ⟨L', g1, g2⟩ := reaches_l2 hm hk hk2 hR hRL hprev hm1 hm2 j (i + 1) L6 (by omega) (by omega) h6
      exact ⟨L', iter_step hst g1, g2⟩
    have hwi : IntKind.i64.wrap ((i : Int) + 1) = ((i + 1 : Nat) : Int) := by rw [wrap_i64_eq (by omega)]; omega
    cases hp : prev o.To with
    | none =>
      rw [hp] at f2
      have hIs : e.Is = false := f2
      refine goOn L5 ⟨h.1, fun v h0 h1 => ?_⟩ ?_
      · obtain ⟨x, x1, x2⟩ := h.2 v h0 h1
        refine ⟨x, x1, ?_⟩
        dsimp only at x2 ⊢
        rw [hfold v, stepO, hp]
        split <;> exact x2
      · rw [m_cocketref01_reaches_l2, decide_eq_true (by omega), ewk]
        simp only [cond_true, hR, e1, f1, hIs, cond_false, Option.bind_some, hwi]
    | some r =>
      rw [hp] at f2
      obtain ⟨hIs, hQ⟩ : e.Is = true ∧ IsQ e.Rate r := f2
      have hr := hprev _ _ hp
      obtain ⟨qo, q1, q2⟩ := rate_eq hok
      obtain ⟨qm, m1, m2⟩ := Mul_eq q2 hQ ((rateO_ok hok).le (m' := 50 * m) (by omega)) (hr.le (by omega)) hm2
      have hmo := mulN_ok (rateO_ok hok) hr
      obtain ⟨c, c1, c2⟩ := h.2 o.From (by omega) (by omega)
      have hco : ∀ x, (l.take i).foldl (stepO prev o.From) none = some x → RatOk x (50 * m) := foldO_ok hprev hm1 _ none (fun x hx => hm.good x (List.mem_of_mem_take hx)) (fun x hx => by cases hx)
      have hb := better_eq c2 m2 hco hmo hm2
      dsimp only at c2 hb
      have hstep : ∀ L6, (cond (match (l.take i).foldl (stepO prev o.From) none with | none => true | some x => decide (toRat x < toRat (mulN (rateO o) r))) (some (L5.set o.From.toNat ⟨true, qm⟩)) (some L5) : Option (List Reach)) = some L6 →
          m_cocketref01_reaches_l2 l (k : Int) L2 ((i : Int), L5) = some (.inl (((i + 1 : Nat) : Int), L6)) := fun L6 hL6 => by
        rw [m_cocketref01_reaches_l2, decide_eq_true (by omega), ewk]
        simp only [cond_true, hR, e1, f1, hIs, Option.bind_some, q1, m1, c1, hb, hwi]
        rw [hL6]; rfl
      have hnew : ∀ b : Bool, (match (l.take i).foldl (stepO prev o.From) none with | none => true | some x => decide (toRat x < toRat (mulN (rateO o) r))) = b → pick ((l.take i).foldl (stepO prev o.From) none) (mulN (rateO o) r) = if b = true then some (mulN (rateO o) r) else (l.take i).foldl (stepO prev o.From) none := fun b hb => by
        cases hc : (l.take i).foldl (stepO prev o.From) none with
        | none => rw [hc] at hb; subst hb; rfl
        | some x =>
          rw [hc] at hb; subst hb
          simp only [pick, decide_eq_true_eq]
      rcases Bool.eq_false_or_eq_true (match (l.take i).foldl (stepO prev o.From) none with | none => true | some x => decide (toRat x < toRat (mulN (rateO o) r))) with hbb | hbb
      · refine goOn (L5.set o.From.toNat ⟨true, qm⟩) ⟨by rw [List.length_set]; exact h.1, fun v h0 h1 => ?_⟩ (hstep _ (by rw [hbb]; rfl))
        have hi := idx_set (L := L5) (i := o.From) (j := v) (x := (⟨true, qm⟩ : Reach)) ⟨by omega, by rw [h.1]; omega⟩ h0
        rw [hi]
        dsimp only
        rw [hfold v, stepO]
        by_cases hv : v = o.From
        · subst hv
          rw [if_pos rfl, if_pos rfl, hp]
          refine ⟨_, rfl, ?_⟩
          dsimp only
          rw [hnew true hbb, if_pos rfl]
          exact ⟨rfl, m2⟩
        · rw [if_neg hv, if_neg (fun h => hv h.symm)]
          exact h.2 v h0 h1
      · refine goOn L5 ⟨h.1, fun v h0 h1 => ?_⟩ (hstep _ (by rw [hbb]; rfl))
        obtain ⟨x, x1, x2⟩ := h.2 v h0 h1
        refine ⟨x, x1, ?_⟩
        dsimp only at x2 ⊢
        rw [hfold v, stepO, hp]
        split
        · rename_i hv
          subst hv
          dsimp only
          rw [hnew false hbb]
          exact x2
        · exact x2
end Go.Pv

set_option linter.unusedSimpArgs false
set_option linter.unusedVariables false
namespace Go.Pv
theorem zero_RL {n : Int} (h0 : 0 ≤ n) (l : List Offer) (prev : Int → Option Ratio) : RL n (List.replicate n.toNat (⟨false, ⟨⟨false, []⟩, ⟨false, []⟩⟩⟩ : Reach)) (fun v => (l.take 0).foldl (stepO prev v) none) := by
  refine ⟨by simp; omega, fun v h1 h2 => ⟨⟨false, ⟨⟨false, []⟩, ⟨false, []⟩⟩⟩, ?_, rfl⟩⟩
  rw [idx_pos h1, List.getElem?_replicate, if_pos (by omega)]
theorem fifty_small {k : Nat} (hk : k ≤ 12) : (50 : Int) * 50 ^ k < 10000 ^ 40 := by
  have h1 := pow50_le hk
  have h2 : (50 : Int) ^ 12 = 244140625000000000000 := by decide
  have h3 : (10000 : Int) ^ 6 ≤ 10000 ^ 40 := pow_le_pow (by decide)
  have h4 : (10000 : Int) ^ 6 = 1000000000000000000000000 := by decide
  omega
theorem idx_snoc_lt {α : Type} {L : List α} {x : α} {j : Nat} (h : j < L.length) : idx (L ++ [x]) (j : Int) = idx L (j : Int) := by
  rw [idx_nat, idx_nat, List.getElem?_append_left h]
theorem idx_snoc_eq {α : Type} {L : List α} {x : α} : idx (L ++ [x]) ((L.length : Nat) : Int) = some x := by
  rw [idx_nat]; simp
theorem reaches_l1 {n : Int} {l : List Offer} (hm : MarketOk ⟨n, l⟩) {to : Int} {most : Nat} (hmost : most ≤ 6) : ∀ (j k : Nat) (L2 : List (List Reach)), j = most + 1 - k → 1 ≤ k → k ≤ most + 1 → L2.length = k → (∀ i : Nat, i < k → ∃ R, idx L2 (i : Int) = some R ∧ RL n R (bestK l to i)) →
    ∃ L', iter (m_cocketref01_reaches_l1 n l (most : Int)) ((k : Int), L2) = some L' ∧ L'.length = most + 1 ∧ ∀ i : Nat, i < most + 1 → ∃ R, idx L' (i : Int) = some R ∧ RL n R (bestK l to i)
  | 0, k, L2, hj, hk, hk2, hl, h => by
    have e : k = most + 1 := by omega
    subst e
    refine ⟨L2, iter_done ?_, hl, h⟩
    rw [m_cocketref01_reaches_l1, decide_eq_false (by omega)]; rfl
  | j + 1, k, L2, hj, hk, hk2, hl, h => by
    have hn1 := hm.n1
    have hn2 := hm.n2
    dsimp only at hn1 hn2
    obtain ⟨R, hR1, hR2⟩ := h (k - 1) (by omega)
    have e0 : (((k - 1 : Nat) : Int)) = (k : Int) - 1 := by omega
    rw [e0] at hR1
    have h1 : (1 : Int) ≤ 50 ^ (k - 1) := by
      have : (0 : Int) < 50 ^ (k - 1) := Int.pow_pos (by decide)
      omega
    obtain ⟨L4, g1, g2⟩ := reaches_l2 hm hk (by omega) hR1 hR2 (bestK_ok hm.good to (k - 1)) h1 (fifty_small (by omega)) l.length 0 _ (by omega) (by omega) (zero_RL (by omega) l _)
    have g2' : RL n L4 (bestK l to k) := by
      obtain ⟨k', rfl⟩ : ∃ k', k = k' + 1 := ⟨k - 1, by omega⟩
      exact g2
    obtain ⟨L', f1, f2, f3⟩ := reaches_l1 hm hmost j (k + 1) (L2 ++ [L4]) (by omega) (by omega) (by omega) (by simp; omega) (fun i hi => by
      rcases Nat.lt_or_ge i k with hik | hik
      · rw [idx_snoc_lt (by omega)]; exact h i hik
      · have : i = L2.length := by omega
        subst this
        rw [idx_snoc_eq, hl]
        exact ⟨L4, rfl, g2'⟩)
    refine ⟨L', iter_step (s' := (((k + 1 : Nat) : Int), L2 ++ [L4])) ?_ f1, f2, f3⟩
    rw [show ((0 : Nat) : Int) = 0 from rfl] at g1
    rw [m_cocketref01_reaches_l1, decide_eq_true (by omega), guardO_pos ⟨by omega, by omega⟩, g1]
    simp only [cond_true, Option.bind_some]
    rw [guardO_pos (by simp; omega), wrap_i64_eq (by omega)]
    rfl
theorem reaches_eq {n : Int} {l : List Offer} (hm : MarketOk ⟨n, l⟩) {to : Int} (hto : 0 ≤ to ∧ to < n) {most : Nat} (hmost : most ≤ 6) :
    ∃ L, m_cocketref01_reaches n l to (most : Int) = some L ∧ L.length = most + 1 ∧ ∀ i : Nat, i < most + 1 → ∃ R, idx L (i : Int) = some R ∧ RL n R (bestK l to i) := by
  have hn1 := hm.n1
  have hn2 := hm.n2
  dsimp only at hn1 hn2
  obtain ⟨q, q1, q2⟩ := Frac_eq (n := 1) (d := 1) (by decide) (by decide)
  have e1 : ratioN 1 1 = ⟨1, 1⟩ := by decide
  rw [e1] at q2
  have hz := zero_RL (n := n) (by omega) [] (fun _ => none)
  obtain ⟨e, f1, f2⟩ := hz.2 to hto.1 hto.2
  have hRL0 : RL n ((List.replicate n.toNat (⟨false, ⟨⟨false, []⟩, ⟨false, []⟩⟩⟩ : Reach)).set to.toNat ⟨true, q⟩) (bestK l to 0) := by
    refine ⟨by rw [List.length_set]; exact hz.1, fun v h0 h1 => ?_⟩
    rw [idx_set ⟨hto.1, by rw [hz.1]; omega⟩ h0]
    unfold bestK
    by_cases hv : v = to
    · subst hv
      rw [if_pos rfl, if_pos rfl]
      exact ⟨_, rfl, rfl, q2⟩
    · rw [if_neg hv, if_neg hv]
      exact hz.2 v h0 h1
  obtain ⟨L', g1, g2, g3⟩ := reaches_l1 hm (to := to) hmost most 1 [_] (by omega) (by omega) (by omega) rfl (fun i hi => by
    have : i = 0 := by omega
    subst this
    exact ⟨_, rfl, hRL0⟩)
  refine ⟨L', ?_, g2, g3⟩
  rw [show ((1 : Nat) : Int) = 1 from rfl] at g1
  rw [m_cocketref01_reaches, guardO_pos ⟨by omega, by omega⟩, q1]
  simp only [Option.bind_some, f1, g1]
def Path (l : List Offer) : Int → List Int → Int → Prop
  | v, [], u => v = u
  | v, i :: p, u => ∃ o, idx l i = some o ∧ o.From = v ∧ Path l o.To p u
def rtI (l : List Offer) (i : Int) : Rat := match idx l i with
  | some o => toRat (rateO o)
  | none => 1
def rtp (l : List Offer) : List Int → Rat
  | [] => 1
  | i :: p => rtI l i * rtp l p
theorem rtp_app (l : List Offer) : ∀ p q : List Int, rtp l (p ++ q) = rtp l p * rtp l q
  | [], q => by simp [rtp, Rat.one_mul]
  | i :: p, q => by simp only [List.cons_append, rtp, rtp_app l p q, Rat.mul_assoc]
theorem path_app {l : List Offer} : ∀ {p q : List Int} {v u : Int}, Path l v (p ++ q) u ↔ ∃ x, Path l v p x ∧ Path l x q u
  | [], q, v, u => ⟨fun h => ⟨v, rfl, h⟩, fun ⟨x, h1, h2⟩ => by cases h1; exact h2⟩
  | i :: p, q, v, u => by
    simp only [List.cons_append, Path]
    constructor
    · rintro ⟨o, h1, h2, h3⟩
      obtain ⟨x, h4, h5⟩ := path_app.1 h3
      exact ⟨x, ⟨o, h1, h2, h4⟩, h5⟩
    · rintro ⟨x, ⟨o, h1, h2, h4⟩, h5⟩
      exact ⟨o, h1, h2, path_app.2 ⟨x, h4, h5⟩⟩
theorem rtI_pos {n : Int} {l : List Offer} (ho : ∀ o ∈ l, offerOk n o = true) (i : Int) : 0 < rtI l i := by
  unfold rtI
  cases h : idx l i with
  | none => decide
  | some o =>
    obtain ⟨h0, h1, h2, _⟩ := idx_some h
    have := rateO_ok (ho o (List.mem_of_getElem? h2))
    exact toRat_pos this.n1 this.d1
theorem rtp_pos {n : Int} {l : List Offer} (ho : ∀ o ∈ l, offerOk n o = true) : ∀ p : List Int, 0 < rtp l p
  | [] => by show (0 : Rat) < 1; decide
  | i :: p => Rat.mul_pos (rtI_pos ho i) (rtp_pos ho p)
theorem foldO_spec {n : Int} {prev : Int → Option Ratio} {m : Int} (hprev : ∀ v r, prev v = some r → RatOk r m) {v : Int} : ∀ (l : List Offer) (c : Option Ratio), (∀ o ∈ l, offerOk n o = true) →
    (∀ r, l.foldl (stepO prev v) c = some r → c = some r ∨ ∃ o ∈ l, o.From = v ∧ ∃ x, prev o.To = some x ∧ r = mulN (rateO o) x) ∧
    (∀ r, c = some r → ∃ r', l.foldl (stepO prev v) c = some r' ∧ toRat r ≤ toRat r') ∧
    (∀ o ∈ l, o.From = v → ∀ x, prev o.To = some x → ∃ r', l.foldl (stepO prev v) c = some r' ∧ toRat (mulN (rateO o) x) ≤ toRat r')
  | [], c, _ => ⟨fun r h => .inl h, fun r h => ⟨r, h, Rat.le_refl⟩, fun o h => by simp at h⟩
  | o :: l, c, ho => by
    obtain ⟨h1, h2, h3⟩ := foldO_spec hprev (v := v) l (stepO prev v c o) (fun x hx => ho x (List.mem_cons_of_mem _ hx))
    have hs1 : ∀ r, stepO prev v c o = some r → c = some r ∨ (o.From = v ∧ ∃ x, prev o.To = some x ∧ r = mulN (rateO o) x) := fun r hr => by
      unfold stepO at hr
      split at hr
      · rename_i hv
        cases hp : prev o.To with
        | none => rw [hp] at hr; exact .inl hr
        | some x =>
          rw [hp] at hr
          simp only [pick] at hr
          split at hr
          · cases hr; exact .inr ⟨hv, x, rfl, rfl⟩
          · split at hr
            · cases hr; exact .inr ⟨hv, x, rfl, rfl⟩
            · exact .inl hr
      · exact .inl hr
    have hs2 : ∀ r, c = some r → ∃ r', stepO prev v c o = some r' ∧ toRat r ≤ toRat r' := fun r hr => by
      subst hr
      unfold stepO
      split
      · cases hp : prev o.To with
        | none => exact ⟨r, rfl, Rat.le_refl⟩
        | some x =>
          simp only [pick]
          split
          · rename_i hlt; exact ⟨_, rfl, Rat.le_of_lt hlt⟩
          · exact ⟨r, rfl, Rat.le_refl⟩
      · exact ⟨r, rfl, Rat.le_refl⟩
    have hs3 : o.From = v → ∀ x, prev o.To = some x → ∃ r', stepO prev v c o = some r' ∧ toRat (mulN (rateO o) x) ≤ toRat r' := fun hv x hx => by
      unfold stepO
      rw [if_pos hv, hx]
      cases c with
      | none => exact ⟨_, rfl, Rat.le_refl⟩
      | some r =>
        simp only [pick]
        split
        · exact ⟨_, rfl, Rat.le_refl⟩
        · rename_i hlt; exact ⟨r, rfl, Rat.not_lt.1 hlt⟩
    refine ⟨fun r hr => ?_, fun r hr => ?_, fun o' ho' hv x hx => ?_⟩
    · rcases h1 r hr with h | ⟨o', h4, h5⟩
      · rcases hs1 r h with h | h
        · exact .inl h
        · exact .inr ⟨o, by simp, h⟩
      · exact .inr ⟨o', List.mem_cons_of_mem _ h4, h5⟩
    · obtain ⟨r', h4, h5⟩ := hs2 r hr
      obtain ⟨r'', h6, h7⟩ := h2 r' h4
      exact ⟨r'', h6, Rat.le_trans h5 h7⟩
    · rcases List.mem_cons.1 ho' with rfl | ho'
      · obtain ⟨r', h4, h5⟩ := hs3 hv x hx
        obtain ⟨r'', h6, h7⟩ := h2 r' h4
        exact ⟨r'', h6, Rat.le_trans h5 h7⟩
      · exact h3 o' ho' hv x hx
theorem mem_idx {l : List Offer} {o : Offer} (h : o ∈ l) : ∃ i : Int, idx l i = some o := by
  obtain ⟨i, hi, e⟩ := List.mem_iff_getElem.1 h
  exact ⟨(i : Int), by rw [idx_nat, List.getElem?_eq_getElem hi, e]⟩
theorem idx_mem {l : List Offer} {o : Offer} {i : Int} (h : idx l i = some o) : o ∈ l := List.mem_of_getElem? (idx_some h).2.2.1
theorem bestK_path {n : Int} {l : List Offer} (ho : ∀ o ∈ l, offerOk n o = true) (to : Int) : ∀ (k : Nat) (v : Int) (r : Ratio), bestK l to k v = some r → ∃ p, Path l v p to ∧ p.length = k ∧ rtp l p = toRat r
  | 0, v, r, h => by
    unfold bestK at h
    split at h
    · cases h; exact ⟨[], ‹_›, rfl, by show (1 : Rat) = toRat ⟨1, 1⟩; decide⟩
    · cases h
  | k + 1, v, r, h => by
    rcases (foldO_spec (n := n) (bestK_ok ho to k) (v := v) l none ho).1 r h with h | ⟨o, h1, h2, x, h3, h4⟩
    · cases h
    · obtain ⟨p, g1, g2, g3⟩ := bestK_path ho to k o.To x h3
      obtain ⟨i, hi⟩ := mem_idx h1
      have hr := rateO_ok (ho o h1)
      have hx := bestK_ok ho to k _ _ h3
      refine ⟨i :: p, ⟨o, hi, h2, g1⟩, by simp [g2], ?_⟩
      rw [h4, toRat_mulN hr.n1 hr.d1 hx.n1 hx.d1, ← g3, rtp, rtI, hi]
theorem bestK_most {n : Int} {l : List Offer} (ho : ∀ o ∈ l, offerOk n o = true) (to : Int) : ∀ (p : List Int) (v : Int), Path l v p to → ∃ r, bestK l to p.length v = some r ∧ rtp l p ≤ toRat r
  | [], v, h => by
    have e : v = to := h
    subst e
    exact ⟨⟨1, 1⟩, by simp [bestK], by rw [rtp]; decide⟩
  | i :: p, v, ⟨o, hi, hv, hp⟩ => by
    obtain ⟨x, h1, h2⟩ := bestK_most ho to p o.To hp
    have hmo := idx_mem hi
    obtain ⟨r, h3, h4⟩ := (foldO_spec (n := n) (bestK_ok ho to p.length) (v := v) l none ho).2.2 o hmo hv x h1
    have hr := rateO_ok (ho o hmo)
    have hx := bestK_ok ho to _ _ _ h1
    refine ⟨r, h3, Rat.le_trans ?_ h4⟩
    rw [toRat_mulN hr.n1 hr.d1 hx.n1 hx.d1, rtp, rtI, hi]
    exact Rat.mul_le_mul_of_nonneg_left h2 (Rat.le_of_lt (toRat_pos hr.n1 hr.d1))
end Go.Pv

set_option linter.unusedSimpArgs false
set_option linter.unusedVariables false
namespace Go.Pv
theorem cmpL_self : ∀ a : List Int, cmpL a a = 0
  | [] => rfl
  | x :: a => by simp only [cmpL, Int.lt_irrefl, if_false, cmpL_self a]
theorem cmpL_app (a x y : List Int) : cmpL (a ++ x) (a ++ y) = cmpL x y := by
  induction a with
  | nil => rfl
  | cons z a ih => simp only [List.cons_append, cmpL, Int.lt_irrefl, if_false, ih]
theorem cmpL_lt_app : ∀ {a b : List Int}, a.length = b.length → cmpL a b < 0 → ∀ x y, cmpL (a ++ x) (b ++ y) < 0
  | [], [], _, h => by simp [cmpL] at h
  | p :: a, q :: b, hl, h => fun x y => by
    simp only [List.cons_append, cmpL] at h ⊢
    split
    · decide
    · rename_i h1
      rw [if_neg h1] at h
      split
      · rename_i h2; rw [if_pos h2] at h; exact absurd h (by decide)
      · rename_i h2
        rw [if_neg h2] at h
        exact cmpL_lt_app (by simpa using hl) h x y
theorem cmpL_zero : ∀ {a b : List Int}, cmpL a b = 0 → a = b
  | [], [], _ => rfl
  | [], _ :: _, h => by simp [cmpL] at h
  | _ :: _, [], h => by simp [cmpL] at h
  | x :: a, y :: b, h => by
    simp only [cmpL] at h
    split at h
    · cases h
    · split at h
      · cases h
      · have := cmpL_zero h
        have : x = y := by omega
        simp_all
theorem cmpL_anti : ∀ {a b : List Int}, cmpL a b ≤ 0 → cmpL b a ≤ 0 → a = b
  | [], [], _, _ => rfl
  | [], _ :: _, _, h => by simp [cmpL] at h
  | _ :: _, [], h, _ => by simp [cmpL] at h
  | x :: a, y :: b, h, h' => by
    simp only [cmpL] at h h'
    by_cases h1 : x < y
    · have : ¬ y < x := by omega
      simp [h1, this] at h'
    · by_cases h2 : y < x
      · simp [h1, h2] at h
      · simp only [h1, h2, if_false] at h h'
        have : x = y := by omega
        rw [this, cmpL_anti h h']
theorem toRat_one : toRat ⟨1, 1⟩ = 1 := by decide
theorem gains_eq {q : Q} {p : Ratio} {e : Reach} {c : Option Ratio} {m : Int} (hq : IsQ q p) (he : IsR e c) (hp : RatOk p m) (hc : ∀ x, c = some x → RatOk x m) (hm : m * m < 10000 ^ 40) (hm1 : 1 ≤ m) :
    m_cocketref01_gains q e = some (match c with | none => false | some x => decide (1 < toRat p * toRat x)) := by
  rw [m_cocketref01_gains]
  cases c with
  | none =>
    have : e.Is = false := he
    rw [this]; rfl
  | some x =>
    obtain ⟨h1, h2⟩ : e.Is = true ∧ IsQ e.Rate x := he
    have hx := hc x rfl
    have hmm : m ≤ m * m := by
      have := Int.mul_le_mul_of_nonneg_left hm1 (show 0 ≤ m by omega)
      omega
    obtain ⟨u, u1, u2⟩ := Mul_eq hq h2 hp hx (by omega)
    obtain ⟨w, w1, w2⟩ := Frac_eq (n := 1) (d := 1) (by decide) (by decide)
    have e1 : ratioN 1 1 = ⟨1, 1⟩ := by decide
    rw [e1] at w2
    have h11 : RatOk ⟨1, 1⟩ (m * m) := ⟨by decide, by dsimp only; omega, by decide, by dsimp only; omega, by decide⟩
    have hmul := mulN_ok hp hx
    rw [h1, u1, w1]
    simp only [cond_true, Option.bind_some]
    rw [Cmp_eq u2 w2 hmul h11 hm]
    simp only [Option.bind_some]
    congr 1
    have hlt := toRat_lt (p := ⟨1, 1⟩) (q := mulN p x) (by decide) hmul.d1
    rw [toRat_mulN hp.n1 hp.d1 hx.n1 hx.d1, toRat_one] at hlt
    dsimp only at hlt ⊢
    by_cases h : 1 < toRat p * toRat x
    · rw [decide_eq_true h]
      have := hlt.1 h
      exact decide_eq_true ((sgn_pos _).2 (by omega))
    · rw [decide_eq_false h]
      exact decide_eq_false fun h' => h (hlt.2 (by have := (sgn_pos _).1 h'; omega))
def GainAt (l : List Offer) (k : Nat) (s : Int) (p : List Int) : Prop := Path l s p s ∧ p.length = k ∧ 1 < rtp l p
def validI (l : List Offer) (s : Int) (kk : Nat) (v : Int) (c : Rat) (i : Int) : Prop := ∃ o, idx l i = some o ∧ o.From = v ∧ ∃ x, bestK l s kk o.To = some x ∧ 1 < c * toRat (rateO o) * toRat x
theorem closed_l2 {n : Int} {l : List Offer} (hm : MarketOk ⟨n, l⟩) {R : List (List Reach)} {k : Nat} (hk : k ≤ 6) {s : Int} (hR : ∀ i : Nat, i ≤ k → ∃ r, idx R (i : Int) = some r ∧ RL n r (bestK l s i)) {e6 : Offer}
    {L : List Int} {q : Q} {c : Ratio} (hL : L.length < k) (hL1 : 1 ≤ L.length) (hq : IsQ q c) (hc : RatOk c (50 ^ L.length)) : ∀ (j i : Nat), j = l.length - i → (∃ i', i ≤ i' ∧ validI l s (k - L.length - 1) e6.To (toRat c) (i' : Int)) →
    ∃ (i' : Nat) (o : Offer) (q' : Q), iter (m_cocketref01_closed_l2 l R (k : Int) e6) ((i : Int), L, q) = some (L ++ [(i' : Int)], q') ∧ i ≤ i' ∧ validI l s (k - L.length - 1) e6.To (toRat c) (i' : Int) ∧ (∀ i'', i ≤ i'' → i'' < i' → ¬ validI l s (k - L.length - 1) e6.To (toRat c) (i'' : Int)) ∧
      idx l (i' : Int) = some o ∧ IsQ q' (mulN c (rateO o))
  | 0, i, hj, ⟨i', h1, o, h2, _⟩ => by
    have := (idx_some h2).2.1
    omega
  | j + 1, i, hj, hex => by
    have hlen := hm.len
    have hn2 := hm.n2
    dsimp only at hlen hn2
    have hil : i < l.length := by
      obtain ⟨i', h1, o, h2, _⟩ := hex
      have := (idx_some h2).2.1
      omega
    obtain ⟨o, e1, e2, e3, e4⟩ := idx_lt (l := l) (i := (i : Int)) (by omega) (by omega)
    have hok := hm.good o e4
    have hok2 := hok
    simp only [offerOk, goodOffer, Bool.and_eq_true, decide_eq_true_eq] at hok2
    have hwi : IntKind.i64.wrap ((i : Int) + 1) = ((i + 1 : Nat) : Int) := by rw [wrap_i64_eq (by omega)]; omega
    have hon : ¬ validI l s (k - L.length - 1) e6.To (toRat c) (i : Int) → m_cocketref01_closed_l2 l R (k : Int) e6 ((i : Int), L, q) = some (.inl (((i + 1 : Nat) : Int), L, q)) →
        ∃ (i' : Nat) (o : Offer) (q' : Q), iter (m_cocketref01_closed_l2 l R (k : Int) e6) ((i : Int), L, q) = some (L ++ [(i' : Int)], q') ∧ i ≤ i' ∧ validI l s (k - L.length - 1) e6.To (toRat c) (i' : Int) ∧ (∀ i'', i ≤ i'' → i'' < i' → ¬ validI l s (k - L.length - 1) e6.To (toRat c) (i'' : Int)) ∧
          idx l (i' : Int) = some o ∧ IsQ q' (mulN c (rateO o)) := fun hnv hst => by
      obtain ⟨i', h1, h2⟩ := hex
      have hne : i ≠ i' := fun h => by subst h; exact hnv h2
      obtain ⟨i2, o2, q2, g1, g2, g3, g4, g5⟩ := closed_l2 hm hk hR (e6 := e6) hL hL1 hq hc j (i + 1) (by omega) ⟨i', by omega, h2⟩
      refine ⟨i2, o2, q2, iter_step hst g1, by omega, g3, fun i'' h3 h4 => ?_, g5⟩
      rcases Nat.lt_or_ge i i'' with h | h
      · exact g4 i'' (by omega) h4
      · have : i = i'' := by omega
        subst this; exact hnv
    by_cases hv : o.From = e6.To
    · obtain ⟨qo, r1, r2⟩ := rate_eq hok
      have hro := rateO_ok hok
      have hp50 : (50 : Int) ^ L.length ≤ 244140625000000000000 := by
        have h1 := pow50_le (show L.length ≤ 12 by omega)
        have h2 : (50 : Int) ^ 12 = 244140625000000000000 := by decide
        omega
      have hp1 : (1 : Int) ≤ 50 ^ L.length := by
        have : (0 : Int) < 50 ^ L.length := Int.pow_pos (by decide)
        omega
      have h40 : (10000 : Int) ^ 12 ≤ 10000 ^ 40 := pow_le_pow (by decide)
      have h12 : (10000 : Int) ^ 12 = 1000000000000000000000000000000000000000000000000 := by decide
      obtain ⟨qm, m1, m2⟩ := Mul_eq hq r2 (hc.le (m' := 12207031250000000000000) (by omega)) (hro.le (by omega)) (by omega)
      have hmo := mulN_ok hc hro
      obtain ⟨Rr, f1, f2⟩ := hR (k - L.length - 1) (by omega)
      obtain ⟨e, f3, f4⟩ := f2.2 o.To (by omega) (by omega)
      have ew : IntKind.i64.wrap (IntKind.i64.wrap ((k : Int) - (L.length : Int)) - 1) = ((k - L.length - 1 : Nat) : Int) := by
        rw [wrap_i64_eq (x := (k : Int) - (L.length : Int)) (by omega), wrap_i64_eq (by omega)]; omega
      have hbk : ∀ x, bestK l s (k - L.length - 1) o.To = some x → RatOk x 12207031250000000000000 := fun x hx => by
        have := bestK_ok hm.good s _ _ x hx
        refine this.le ?_
        have h1 := pow50_le (show k - L.length - 1 ≤ 12 by omega)
        have h2 : (50 : Int) ^ 12 = 244140625000000000000 := by decide
        omega
      have hg := gains_eq m2 f4 (hmo.le (m' := 12207031250000000000000) (by omega)) hbk (by omega) (by decide)
      rw [toRat_mulN hc.n1 hc.d1 hro.n1 hro.d1] at hg
      have hiff : validI l s (k - L.length - 1) e6.To (toRat c) (i : Int) ↔ (match bestK l s (k - L.length - 1) o.To with | none => false | some x => decide (1 < toRat c * toRat (rateO o) * toRat x)) = true := by
        constructor
        · rintro ⟨o', h1, h2, x, h3, h4⟩
          rw [e1] at h1; cases h1
          rw [h3]; exact decide_eq_true h4
        · intro h
          cases hx : bestK l s (k - L.length - 1) o.To with
          | none => rw [hx] at h; cases h
          | some x =>
            rw [hx] at h
            exact ⟨o, e1, hv, x, hx, by simpa using h⟩
      rcases Bool.eq_false_or_eq_true (match bestK l s (k - L.length - 1) o.To with | none => false | some x => decide (1 < toRat c * toRat (rateO o) * toRat x)) with hb | hb
      · rw [hb] at hg
        refine ⟨i, o, qm, iter_done ?_, Nat.le_refl _, hiff.2 hb, fun i'' h1 h2 => absurd h1 (by omega), e1, m2⟩
        rw [m_cocketref01_closed_l2, decide_eq_true (by omega)]
        simp only [cond_true, e1, Option.bind_some, decide_eq_true hv, r1, m1, ew, f1, f3, hg]
        rw [guardO_pos (by simp; omega)]
      · rw [hb] at hg
        refine hon (fun h => by rw [hiff.1 h] at hb; cases hb) ?_
        rw [m_cocketref01_closed_l2, decide_eq_true (by omega)]
        simp only [cond_true, e1, Option.bind_some, decide_eq_true hv, r1, m1, ew, f1, f3, hg, cond_false, hwi]
    · refine hon (fun ⟨o', h1, h2, _⟩ => by rw [e1] at h1; cases h1; exact hv h2) ?_
      rw [m_cocketref01_closed_l2, decide_eq_true (by omega)]
      simp only [cond_true, e1, Option.bind_some, decide_eq_false hv, cond_false, hwi]
end Go.Pv

set_option linter.unusedSimpArgs false
set_option linter.unusedVariables false
namespace Go.Pv
theorem path_det {l : List Offer} : ∀ {p : List Int} {v u u' : Int}, Path l v p u → Path l v p u' → u = u'
  | [], v, u, u', h, h' => h.symm.trans h'
  | i :: p, v, u, u', ⟨o, h1, _, h3⟩, ⟨o', h1', _, h3'⟩ => by
    rw [h1] at h1'; cases h1'
    exact path_det h3 h3'
def LeastSo (l : List Offer) (k : Nat) (s : Int) (first : Int) (L : List Int) : Prop :=
  ∀ p', GainAt l k s p' → p'.head? = some first → p'.take L.length = L ∨ cmpL L (p'.take L.length) < 0
theorem valid_of_path {n : Int} {l : List Offer} (ho : ∀ o ∈ l, offerOk n o = true) {s v : Int} {i : Int} {rest : List Int} {c : Rat} (hc : 0 < c) (hp : Path l v (i :: rest) s) (hg : 1 < c * rtp l (i :: rest)) : validI l s rest.length v c i := by
  obtain ⟨o, h1, h2, h3⟩ := hp
  obtain ⟨x, h4, h5⟩ := bestK_most ho s rest o.To h3
  have hro := rateO_ok (ho o (idx_mem h1))
  have hpos := toRat_pos hro.n1 hro.d1
  refine ⟨o, h1, h2, x, h4, ?_⟩
  rw [rtp, rtI, h1] at hg
  dsimp only at hg
  rw [← Rat.mul_assoc] at hg
  have hm := Rat.mul_le_mul_of_nonneg_left h5 (Rat.le_of_lt (Rat.mul_pos hc hpos))
  exact Rat.not_le.1 fun h => Rat.not_le.2 hg (Rat.le_trans hm h)
theorem closed_l1 {n : Int} {l : List Offer} (hm : MarketOk ⟨n, l⟩) {R : List (List Reach)} {k : Nat} (hk : k ≤ 6) {s first : Int} (hR : ∀ i : Nat, i ≤ k → ∃ r, idx R (i : Int) = some r ∧ RL n r (bestK l s i)) :
    ∀ (j : Nat) (L : List Int) (q : Q) (c : Ratio) (v : Int) (il : Int) (e6 : Offer), j = k - L.length → L.length ≤ k → 1 ≤ L.length → IsQ q c → RatOk c (50 ^ L.length) → toRat c = rtp l L → Path l s L v → L.getLast? = some il → idx l il = some e6 → e6.To = v → L.head? = some first →
      (∃ x, bestK l s (k - L.length) v = some x ∧ 1 < toRat c * toRat x) → LeastSo l k s first L →
      ∃ p, iter (m_cocketref01_closed_l1 l R (k : Int)) (L, q) = some p ∧ GainAt l k s p ∧ p.head? = some first ∧ ∀ p', GainAt l k s p' → p'.head? = some first → cmpL p p' ≤ 0
  | 0, L, q, c, v, il, e6, hj, hLk, hL1, hq, hc, hcr, hp, hla, hil, hto, hhd, ⟨x, hx1, hx2⟩, hls => by
    have e : L.length = k := by omega
    rw [e, Nat.sub_self] at hx1
    unfold bestK at hx1
    split at hx1
    · rename_i hvs
      cases hx1
      subst hvs
      rw [toRat_one, Rat.mul_one, hcr] at hx2
      refine ⟨L, iter_done ?_, ⟨hp, e, hx2⟩, hhd, fun p' h1 h2 => ?_⟩
      · rw [m_cocketref01_closed_l1, decide_eq_false (by omega)]; rfl
      · have := hls p' h1 h2
        rw [e, List.take_of_length_le (by have := h1.2.1; omega)] at this
        rcases this with h | h
        · rw [h, cmpL_self]; omega
        · omega
    · cases hx1
  | j + 1, L, q, c, v, il, e6, hj, hLk, hL1, hq, hc, hcr, hp, hla, hil, hto, hhd, ⟨x, hx1, hx2⟩, hls => by
    have hlen := hm.len
    dsimp only at hlen
    have hcpos := toRat_pos hc.n1 hc.d1
    have hex : ∃ i', 0 ≤ i' ∧ validI l s (k - L.length - 1) e6.To (toRat c) (i' : Nat) := by
      obtain ⟨p, p1, p2, p3⟩ := bestK_path hm.good s _ _ x hx1
      cases p with
      | nil => simp at p2; omega
      | cons i0 rest =>
        have := valid_of_path hm.good hcpos p1 (by rw [p3]; exact hx2)
        have hrl : rest.length = k - L.length - 1 := by simp at p2; omega
        rw [hrl] at this
        have this2 := this
        obtain ⟨o, o1, _⟩ := this2
        have h0 := (idx_some o1).1
        refine ⟨i0.toNat, Nat.zero_le _, ?_⟩
        rw [hto, Int.toNat_of_nonneg h0]
        exact this
    obtain ⟨i', o, q', g1, _, g3, g4, g5, g6⟩ := closed_l2 hm hk hR (e6 := e6) (q := q) (c := c) (L := L) (by omega) hL1 hq hc l.length 0 (by omega) (by obtain ⟨i, h1, h2⟩ := hex; exact ⟨i, h1, h2⟩)
    have hmo := idx_mem g5
    have hro := rateO_ok (hm.good o hmo)
    have hnew := mulN_ok hc hro
    obtain ⟨o2, o21, o22, y, y1, y2⟩ := g3
    rw [g5] at o21; cases o21
    have hls2 : LeastSo l k s first (L ++ [(i' : Int)]) := fun p' h1 h2 => by
      have hl' : p'.length = k := h1.2.1
      obtain ⟨a, rest, hsplit⟩ : ∃ a rest, p' = p'.take L.length ++ a :: rest := ⟨p'[L.length]'(by omega), p'.drop (L.length + 1), by rw [← List.drop_eq_getElem_cons]; exact (List.take_append_drop _ _).symm⟩
      have htk : p'.take (L.length + 1) = p'.take L.length ++ [a] := by
        have hlt : (p'.take L.length).length = L.length := by rw [List.length_take]; omega
        have : p'.take (L.length + 1) = (p'.take L.length ++ a :: rest).take (L.length + 1) := by rw [← hsplit]
        rw [this, List.take_append, hlt]
        simp
        rw [List.take_of_length_le (by simp; omega)]
      rw [List.length_append, List.length_singleton, htk]
      rcases hls p' h1 h2 with h | h
      · rw [h] at hsplit ⊢
        have hpath := h1.1
        rw [hsplit] at hpath
        obtain ⟨w, w1, w2⟩ := path_app.1 hpath
        have hwv := path_det w1 hp
        subst hwv
        have hg := h1.2.2
        rw [hsplit, rtp_app, ← hcr] at hg
        have hva := valid_of_path hm.good hcpos w2 hg
        have hrl : rest.length = k - L.length - 1 := by
          have := congrArg List.length hsplit
          simp at this
          omega
        rw [hrl, ← hto] at hva
        have ha0 : 0 ≤ a := by
          obtain ⟨o', o1', _⟩ := hva
          exact (idx_some o1').1
        have hai : i' ≤ a.toNat := by
          rcases Nat.lt_or_ge a.toNat i' with hlt | hge
          · exact absurd (by rw [Int.toNat_of_nonneg ha0]; exact hva) (g4 a.toNat (Nat.zero_le _) hlt)
          · exact hge
        rcases Nat.lt_or_ge i' a.toNat with hlt | hge
        · right
          rw [cmpL_app]
          simp only [cmpL]
          rw [if_pos (by omega)]; decide
        · left
          have : a = (i' : Int) := by omega
          rw [this]
      · right
        exact cmpL_lt_app (by rw [List.length_take]; omega) h _ _
    obtain ⟨p, f1, f2, f3⟩ := closed_l1 hm hk (first := first) hR j (L ++ [(i' : Int)]) q' (mulN c (rateO o)) o.To (i' : Int) o (by simp; omega) (by simp; omega) (by simp) g6 (by
        simp only [List.length_append, List.length_singleton, Int.pow_succ]; exact hnew) (by
        rw [toRat_mulN hc.n1 hc.d1 hro.n1 hro.d1, rtp_app, hcr, rtp, rtp, rtI, g5, Rat.mul_one]) (path_app.2 ⟨v, hp, o, g5, by rw [o22, hto], rfl⟩) (by simp) g5 rfl (by
        cases L with
        | nil => simp at hL1
        | cons z L => exact hhd) ⟨y, by rw [List.length_append, List.length_singleton, show k - (L.length + 1) = k - L.length - 1 by omega]; exact y1, by rw [toRat_mulN hc.n1 hc.d1 hro.n1 hro.d1]; exact y2⟩ hls2
    refine ⟨p, iter_step (s' := (L ++ [(i' : Int)], q')) ?_ f1, f2, f3⟩
    have hlast : idx L ((L.length : Int) - 1) = some il := by
      rw [show ((L.length : Int) - 1) = ((L.length - 1 : Nat) : Int) by omega, idx_nat, ← List.getLast?_eq_getElem?]
      exact hla
    rw [show ((0 : Nat) : Int) = 0 from rfl] at g1
    rw [m_cocketref01_closed_l1, decide_eq_true (by omega), wrap_i64_eq (by omega)]
    simp only [cond_true, hlast, hil, Option.bind_some, g1]
theorem closed_eq {n : Int} {l : List Offer} (hm : MarketOk ⟨n, l⟩) {R : List (List Reach)} {k : Nat} (hk1 : 1 ≤ k) (hk : k ≤ 6) {i : Nat} {o : Offer} (hi : idx l (i : Int) = some o) (hR : ∀ i : Nat, i ≤ k → ∃ r, idx R (i : Int) = some r ∧ RL n r (bestK l o.From i)) :
    (m_cocketref01_closed l R (i : Int) (k : Int) = some ([], false) ∧ ∀ p', GainAt l k o.From p' → p'.head? = some (i : Int) → False) ∨
    ∃ p, m_cocketref01_closed l R (i : Int) (k : Int) = some (p, true) ∧ GainAt l k o.From p ∧ p.head? = some (i : Int) ∧ ∀ p', GainAt l k o.From p' → p'.head? = some (i : Int) → cmpL p p' ≤ 0 := by
  have hlen := hm.len
  dsimp only at hlen
  have hmo := idx_mem hi
  have hok := hm.good o hmo
  have hok2 := hok
  simp only [offerOk, goodOffer, Bool.and_eq_true, decide_eq_true_eq] at hok2
  have hro := rateO_ok hok
  obtain ⟨q, q1, q2⟩ := rate_eq hok
  obtain ⟨Rr, f1, f2⟩ := hR (k - 1) (by omega)
  obtain ⟨e, f3, f4⟩ := f2.2 o.To (by omega) (by omega)
  have ew : IntKind.i64.wrap ((k : Int) - 1) = ((k - 1 : Nat) : Int) := by rw [wrap_i64_eq (by omega)]; omega
  have hbk : ∀ x, bestK l o.From (k - 1) o.To = some x → RatOk x 244140625000000000000 := fun x hx => by
    have := bestK_ok hm.good o.From _ _ x hx
    refine this.le ?_
    have h1 := pow50_le (show k - 1 ≤ 12 by omega)
    have h2 : (50 : Int) ^ 12 = 244140625000000000000 := by decide
    omega
  have h40 : (10000 : Int) ^ 12 ≤ 10000 ^ 40 := pow_le_pow (by decide)
  have h12 : (10000 : Int) ^ 12 = 1000000000000000000000000000000000000000000000000 := by decide
  have hg := gains_eq q2 f4 (hro.le (m' := 244140625000000000000) (by decide)) hbk (by omega) (by decide)
  have hhead : ∀ p', GainAt l k o.From p' → p'.head? = some (i : Int) → ∃ rest x, p' = (i : Int) :: rest ∧ bestK l o.From (k - 1) o.To = some x ∧ 1 < toRat (rateO o) * toRat x := fun p' h1 h2 => by
    cases p' with
    | nil => cases h2
    | cons a rest =>
      simp only [List.head?_cons, Option.some.injEq] at h2
      subst h2
      have hv := valid_of_path hm.good (c := 1) (by decide) h1.1 (by rw [Rat.one_mul]; exact h1.2.2)
      have hrl : rest.length = k - 1 := by have := h1.2.1; simp at this; omega
      rw [hrl] at hv
      obtain ⟨o', o1, _, x, x1, x2⟩ := hv
      rw [hi] at o1; cases o1
      rw [Rat.one_mul] at x2
      exact ⟨rest, x, rfl, x1, x2⟩
  rw [m_cocketref01_closed, hi, ew]
  simp only [Option.bind_some, q1, f1, f3, hg]
  cases hx : bestK l o.From (k - 1) o.To with
  | none =>
    left
    refine ⟨rfl, fun p' h1 h2 => ?_⟩
    obtain ⟨_, x, _, h3, _⟩ := hhead p' h1 h2
    rw [hx] at h3; cases h3
  | some x =>
    by_cases hgt : 1 < toRat (rateO o) * toRat x
    · right
      obtain ⟨p, g1, g2, g3, g4⟩ := closed_l1 hm hk (s := o.From) (first := (i : Int)) hR (k - 1) [(i : Int)] q (rateO o) o.To (i : Int) o (by simp) (by simp; omega) (by simp) q2 (by simpa using hro) (by
          rw [rtp, rtp, rtI, hi, Rat.mul_one]) ⟨o, hi, rfl, rfl⟩ rfl hi rfl rfl ⟨x, hx, hgt⟩ (fun p' h1 h2 => by
          obtain ⟨rest, _, h3, _⟩ := hhead p' h1 h2
          left; rw [h3]; rfl)
      refine ⟨p, ?_, g2, g3, g4⟩
      simp only [decide_eq_true hgt, Bool.not_true, cond_false, g1, Option.bind_some]
    · left
      refine ⟨by simp only [decide_eq_false hgt, Bool.not_false, cond_true], fun p' h1 h2 => ?_⟩
      obtain ⟨_, x', _, h3, h4⟩ := hhead p' h1 h2
      rw [hx] at h3; cases h3
      exact hgt h4
def Gain (l : List Offer) (k : Nat) (p : List Int) : Prop := ∃ s, GainAt l k s p
theorem gain_head {l : List Offer} {k : Nat} (hk : 1 ≤ k) {p : List Int} (h : Gain l k p) : ∃ (i : Nat) (o : Offer), p.head? = some (i : Int) ∧ idx l (i : Int) = some o ∧ GainAt l k o.From p := by
  obtain ⟨s, h1, h2, h3⟩ := h
  cases p with
  | nil => simp at h2; omega
  | cons a rest =>
    obtain ⟨o, g1, g2, g3⟩ := h1
    have h0 := (idx_some g1).1
    refine ⟨a.toNat, o, by rw [Int.toNat_of_nonneg h0]; rfl, by rw [Int.toNat_of_nonneg h0]; exact g1, ?_⟩
    rw [g2]
    exact ⟨⟨o, g1, g2, g3⟩, h2, h3⟩
end Go.Pv

set_option linter.unusedSimpArgs false
set_option linter.unusedVariables false
namespace Go.Pv
def AllReach (n : Int) (l : List Offer) (s : Int) (R : List (List Reach)) : Prop := ∀ i : Nat, i ≤ n.toNat → ∃ r, idx R (i : Int) = some r ∧ RL n r (bestK l s i)
theorem gaining_l1 {n : Int} {l : List Offer} (hm : MarketOk ⟨n, l⟩) : ∀ (j s : Nat) (L : List (List (List Reach))), j = n.toNat - s → (s : Int) ≤ n → L.length = s → (∀ i : Nat, i < s → ∃ R, idx L (i : Int) = some R ∧ AllReach n l i R) →
    ∃ L', iter (m_cocketref01_gaining_l1 n l) ((s : Int), L) = some L' ∧ ∀ i : Nat, (i : Int) < n → ∃ R, idx L' (i : Int) = some R ∧ AllReach n l i R
  | 0, s, L, hj, hs, hl, h => by
    have hn1 := hm.n1
    dsimp only at hn1
    refine ⟨L, iter_done ?_, fun i hi => h i (by omega)⟩
    rw [m_cocketref01_gaining_l1, decide_eq_false (by omega)]; rfl
  | j + 1, s, L, hj, hs, hl, h => by
    have hn1 := hm.n1
    have hn2 := hm.n2
    dsimp only at hn1 hn2
    obtain ⟨R, r1, r2, r3⟩ := reaches_eq hm (to := (s : Int)) ⟨by omega, by omega⟩ (most := n.toNat) (by omega)
    have en : ((n.toNat : Nat) : Int) = n := by omega
    rw [en] at r1
    obtain ⟨L', g1, g2⟩ := gaining_l1 hm j (s + 1) (L ++ [R]) (by omega) (by omega) (by simp; omega) (fun i hi => by
      rcases Nat.lt_or_ge i s with his | his
      · rw [idx_snoc_lt (by omega)]; exact h i his
      · have : i = L.length := by omega
        subst this
        rw [idx_snoc_eq]
        refine ⟨R, rfl, fun i hi => ?_⟩
        rw [hl]
        exact r3 i (by omega))
    refine ⟨L', iter_step (s' := (((s + 1 : Nat) : Int), L ++ [R])) ?_ g1, g2⟩
    rw [m_cocketref01_gaining_l1, decide_eq_true (by omega), r1]
    simp only [cond_true, Option.bind_some]
    rw [guardO_pos (by simp; omega), wrap_i64_eq (by omega)]
    rfl
theorem gaining_l3 {n : Int} {l : List Offer} (hm : MarketOk ⟨n, l⟩) {L1 : List (List (List Reach))} (hL : ∀ i : Nat, (i : Int) < n → ∃ R, idx L1 (i : Int) = some R ∧ AllReach n l i R) {k : Nat} (hk1 : 1 ≤ k) (hk : (k : Int) ≤ n) : ∀ (j i : Nat), j = l.length - i →
    (∀ p a : _, Gain l k p → p.head? = some (a : Int) → (i : Int) ≤ a) →
    (iter (m_cocketref01_gaining_l3 l L1 (k : Int)) (i : Int) = some (.inl ()) ∧ ∀ p, ¬ Gain l k p) ∨
    ∃ p, iter (m_cocketref01_gaining_l3 l L1 (k : Int)) (i : Int) = some (.inr (p, true)) ∧ Gain l k p ∧ ∀ p', Gain l k p' → cmpL p p' ≤ 0
  | 0, i, hj, h => by
    left
    refine ⟨iter_done ?_, fun p hp => ?_⟩
    · rw [m_cocketref01_gaining_l3, decide_eq_false (by omega)]; rfl
    · obtain ⟨i', o, h1, h2, _⟩ := gain_head hk1 hp
      have := h p _ hp h1
      have := (idx_some h2).2.1
      omega
  | j + 1, i, hj, h => by
    have hn2 := hm.n2
    have hlen := hm.len
    dsimp only at hn2 hlen
    obtain ⟨o, e1, e2, e3, e4⟩ := idx_lt (l := l) (i := (i : Int)) (by omega) (by omega)
    have hok2 := hm.good o e4
    simp only [offerOk, goodOffer, Bool.and_eq_true, decide_eq_true_eq] at hok2
    obtain ⟨R, r1, r2⟩ := hL o.From.toNat (by omega)
    have ef : ((o.From.toNat : Nat) : Int) = o.From := by omega
    rw [ef] at r1 r2
    rcases closed_eq hm hk1 (k := k) (by omega) e1 (R := R) (fun i hi => r2 i (by omega)) with ⟨c1, c2⟩ | ⟨p, c1, c2, c3, c4⟩
    · have hnext : ∀ p a : _, Gain l k p → p.head? = some (a : Int) → ((i + 1 : Nat) : Int) ≤ a := fun p a hp ha => by
        have h1 := h p a hp ha
        rcases Int.lt_or_le (i : Int) a with hlt | hge
        · omega
        · exfalso
          have hai : a = (i : Int) := by omega
          subst hai
          obtain ⟨i', o', g1, g2, g3⟩ := gain_head hk1 hp
          rw [ha] at g1
          have : (i : Int) = (i' : Int) := Option.some.inj g1
          rw [← this, e1] at g2
          cases g2
          exact c2 p g3 ha
      have hst : m_cocketref01_gaining_l3 l L1 (k : Int) (i : Int) = some (.inl (((i + 1 : Nat) : Int))) := by
        rw [m_cocketref01_gaining_l3, decide_eq_true (by omega)]
        simp only [cond_true, e1, r1, c1, Option.bind_some, cond_false]
        rw [wrap_i64_eq (by omega)]; rfl
      rcases gaining_l3 hm hL hk1 hk j (i + 1) (by omega) hnext with ⟨g1, g2⟩ | ⟨p, g1, g2⟩
      · exact .inl ⟨iter_step hst g1, g2⟩
      · exact .inr ⟨p, iter_step hst g1, g2⟩
    · right
      refine ⟨p, iter_done ?_, ⟨_, c2⟩, fun p' hp' => ?_⟩
      · rw [m_cocketref01_gaining_l3, decide_eq_true (by omega)]
        simp only [cond_true, e1, r1, c1, Option.bind_some]
      · obtain ⟨i', o', g1, g2, g3⟩ := gain_head hk1 hp'
        have h1 := h p' _ hp' g1
        rcases Int.lt_or_le (i : Int) (i' : Int) with hlt | hge
        · cases p with
          | nil => cases c3
          | cons a p =>
            cases p' with
            | nil => cases g1
            | cons b p' =>
              simp only [List.head?_cons, Option.some.injEq] at c3 g1
              subst c3 g1
              simp only [cmpL]
              rw [if_pos hlt]; decide
        · have : (i' : Int) = (i : Int) := by omega
          rw [this] at g1 g2
          rw [e1] at g2; cases g2
          exact c4 p' g3 g1
theorem gaining_l2 {n : Int} {l : List Offer} (hm : MarketOk ⟨n, l⟩) {L1 : List (List (List Reach))} (hL : ∀ i : Nat, (i : Int) < n → ∃ R, idx L1 (i : Int) = some R ∧ AllReach n l i R) : ∀ (j k : Nat), j = n.toNat + 1 - k → 1 ≤ k →
    (iter (m_cocketref01_gaining_l2 n l L1) (k : Int) = some (.inl ()) ∧ ∀ k', k ≤ k' → (k' : Int) ≤ n → ∀ p, ¬ Gain l k' p) ∨
    ∃ k' p, iter (m_cocketref01_gaining_l2 n l L1) (k : Int) = some (.inr (p, true)) ∧ k ≤ k' ∧ (k' : Int) ≤ n ∧ Gain l k' p ∧ (∀ p', Gain l k' p' → cmpL p p' ≤ 0) ∧ ∀ k'', k ≤ k'' → k'' < k' → ∀ p', ¬ Gain l k'' p'
  | 0, k, hj, hk => by
    left
    refine ⟨iter_done ?_, fun k' h1 h2 => by omega⟩
    rw [m_cocketref01_gaining_l2, decide_eq_false (by omega)]; rfl
  | j + 1, k, hj, hk => by
    have hn2 := hm.n2
    dsimp only at hn2
    rcases gaining_l3 hm hL hk (k := k) (by omega) l.length 0 (by omega) (fun p a hp ha => by
      obtain ⟨i', o', g1, _⟩ := gain_head hk hp
      rw [ha] at g1
      have : a = (i' : Int) := Option.some.inj g1
      omega) with ⟨c1, c2⟩ | ⟨p, c1, c2, c3⟩
    · have hst : m_cocketref01_gaining_l2 n l L1 (k : Int) = some (.inl ((k + 1 : Nat) : Int)) := by
        rw [show ((0 : Nat) : Int) = 0 from rfl] at c1
        rw [m_cocketref01_gaining_l2, decide_eq_true (by omega)]
        simp only [cond_true, c1, Option.bind_some]
        rw [wrap_i64_eq (by omega)]; rfl
      rcases gaining_l2 hm hL j (k + 1) (by omega) (by omega) with ⟨g1, g2⟩ | ⟨k', p, g1, g2, g3, g4, g5, g6⟩
      · left
        refine ⟨iter_step hst g1, fun k' h1 h2 => ?_⟩
        rcases Nat.lt_or_ge k k' with h | h
        · exact g2 k' (by omega) h2
        · have : k' = k := by omega
          subst this; exact c2
      · right
        refine ⟨k', p, iter_step hst g1, by omega, g3, g4, g5, fun k'' h1 h2 => ?_⟩
        rcases Nat.lt_or_ge k k'' with h | h
        · exact g6 k'' (by omega) h2
        · have : k'' = k := by omega
          subst this; exact c2
    · right
      refine ⟨k, p, iter_done ?_, Nat.le_refl _, by omega, c2, c3, fun k'' h1 h2 => by omega⟩
      rw [show ((0 : Nat) : Int) = 0 from rfl] at c1
      rw [m_cocketref01_gaining_l2, decide_eq_true (by omega)]
      simp only [cond_true, c1, Option.bind_some]
theorem gaining_eq {n : Int} {l : List Offer} (hm : MarketOk ⟨n, l⟩) :
    (m_cocketref01_gaining n l = some ([], false) ∧ ∀ k : Nat, 2 ≤ k → (k : Int) ≤ n → ∀ p, ¬ Gain l k p) ∨
    ∃ (k : Nat) (p : List Int), m_cocketref01_gaining n l = some (p, true) ∧ 2 ≤ k ∧ (k : Int) ≤ n ∧ Gain l k p ∧ (∀ p', Gain l k p' → cmpL p p' ≤ 0) ∧ ∀ k' : Nat, 2 ≤ k' → k' < k → ∀ p', ¬ Gain l k' p' := by
  have hn1 := hm.n1
  dsimp only at hn1
  obtain ⟨L1, h1, h2⟩ := gaining_l1 hm n.toNat 0 [] (by omega) (by omega) rfl (fun i hi => by omega)
  rw [show ((0 : Nat) : Int) = 0 from rfl] at h1
  rw [m_cocketref01_gaining, h1]
  simp only [Option.bind_some]
  rcases gaining_l2 hm h2 (n.toNat + 1 - 2) 2 rfl (by decide) with ⟨g1, g2⟩ | ⟨k', p, g1, g2⟩
  · left
    rw [show ((2 : Nat) : Int) = 2 from rfl] at g1
    rw [g1]
    exact ⟨rfl, g2⟩
  · right
    rw [show ((2 : Nat) : Int) = 2 from rfl] at g1
    rw [g1]
    exact ⟨k', p, rfl, g2⟩
end Go.Pv

