/- The evaluator's tables of types and functions of this seat. -/
import Derived.Test.YtmgpjpaajhcmpaaAe2
import Derived.Test.YtmgpjpaajhcmpaaProg
import Derived.KernelRfl
set_option linter.unusedVariables false
set_option linter.unusedSimpArgs false
namespace Go.Proofs.Ytmgpjpaajhcmpaa.law
open Go Go.Proofs Ae

def ty1 : TI := ⟨.func, 1, 8, .nilfn⟩
def ty2 : TI := ⟨.int .i64, 1, 8, .int .i64 0⟩
def ty3 : TI := ⟨.int .i64, 1, 8, .int .i64 0⟩
def ty4 : TI := ⟨.bool, 1, 1, .bool false⟩
def ty5 : TI := ⟨.int .u8, 1, 1, .int .u8 0⟩
def ty6 : TI := ⟨.int .u8, 1, 1, .int .u8 0⟩
def ty7 : TI := ⟨.struct [(0, 2), (1, 3), (2, 4), (3, 6)], 4, 24, .agg [.int .i64 0, .int .i64 0, .bool false, .int .u8 0]⟩
def ty8 : TI := ⟨.struct [(0, 2), (1, 3), (2, 4), (3, 6)], 4, 24, .agg [.int .i64 0, .int .i64 0, .bool false, .int .u8 0]⟩
def ty9 : TI := ⟨.str, 1, 16, .str []⟩
def ty10 : TI := ⟨.str, 1, 16, .str []⟩
def ty11 : TI := ⟨.str, 1, 16, .str []⟩
def ty12 : TI := ⟨.int .u64, 1, 8, .int .u64 0⟩
def ty13 : TI := ⟨.struct [(0, 9), (1, 12)], 2, 24, .agg [.str [], .int .u64 0]⟩
def ty14 : TI := ⟨.struct [(0, 9), (1, 12)], 2, 24, .agg [.str [], .int .u64 0]⟩
def ty15 : TI := ⟨.ptr, 1, 8, .nilp⟩
def ty16 : TI := ⟨.ptr, 1, 8, .nilp⟩
def ty17 : TI := ⟨.ptr, 1, 8, .nilp⟩
def ty18 : TI := ⟨.struct [(0, 17)], 1, 8, .agg [.nilp]⟩
def ty19 : TI := ⟨.struct [(0, 17)], 1, 8, .agg [.nilp]⟩
def ty21 : TI := ⟨.int .i32, 1, 4, .int .i32 0⟩
def ty22 : TI := ⟨.slice 4, 1, 24, .sl 0 true []⟩
def ty23 : TI := ⟨.slice 60, 1, 24, .sl 0 true []⟩
def ty24 : TI := ⟨.slice 25, 1, 24, .sl 0 true []⟩
def ty25 : TI := ⟨.slice 29, 1, 24, .sl 0 true []⟩
def ty26 : TI := ⟨.struct [(0, 2), (1, 2), (2, 22), (3, 23), (4, 24), (5, 25)], 6, 112, .agg [.int .i64 0, .int .i64 0, .sl 0 true [], .sl 0 true [], .sl 0 true [], .sl 0 true []]⟩
def ty27 : TI := ⟨.struct [(0, 2), (1, 2), (2, 22), (3, 23), (4, 24), (5, 25)], 6, 112, .agg [.int .i64 0, .int .i64 0, .sl 0 true [], .sl 0 true [], .sl 0 true [], .sl 0 true []]⟩
def ty28 : TI := ⟨.func, 1, 8, .nilfn⟩
def ty29 : TI := ⟨.slice 2, 1, 24, .sl 0 true []⟩
def ty31 : TI := ⟨.func, 1, 8, .nilfn⟩
def ty32 : TI := ⟨.slice 62, 1, 24, .sl 0 true []⟩
def ty33 : TI := ⟨.struct [(0, 2), (1, 2), (2, 22), (3, 32), (4, 24), (5, 25)], 6, 112, .agg [.int .i64 0, .int .i64 0, .sl 0 true [], .sl 0 true [], .sl 0 true [], .sl 0 true []]⟩
def ty34 : TI := ⟨.struct [(0, 2), (1, 2), (2, 22), (3, 32), (4, 24), (5, 25)], 6, 112, .agg [.int .i64 0, .int .i64 0, .sl 0 true [], .sl 0 true [], .sl 0 true [], .sl 0 true []]⟩
def ty35 : TI := ⟨.func, 1, 8, .nilfn⟩
def ty36 : TI := ⟨.func, 1, 8, .nilfn⟩
def ty37 : TI := ⟨.func, 1, 8, .nilfn⟩
def ty38 : TI := ⟨.func, 1, 8, .nilfn⟩
def ty39 : TI := ⟨.func, 1, 8, .nilfn⟩
def ty40 : TI := ⟨.func, 1, 8, .nilfn⟩
def ty41 : TI := ⟨.func, 1, 8, .nilfn⟩
def ty42 : TI := ⟨.func, 1, 8, .nilfn⟩
def ty43 : TI := ⟨.func, 1, 8, .nilfn⟩
def ty44 : TI := ⟨.func, 1, 8, .nilfn⟩
def ty45 : TI := ⟨.func, 1, 8, .nilfn⟩
def ty46 : TI := ⟨.ptr, 1, 8, .nilp⟩
def ty47 : TI := ⟨.func, 1, 8, .nilfn⟩
def ty48 : TI := ⟨.func, 1, 8, .nilfn⟩
def ty49 : TI := ⟨.func, 1, 8, .nilfn⟩
def ty50 : TI := ⟨.func, 1, 8, .nilfn⟩
def ty51 : TI := ⟨.func, 1, 8, .nilfn⟩
def ty52 : TI := ⟨.func, 1, 8, .nilfn⟩
def ty53 : TI := ⟨.func, 1, 8, .nilfn⟩
def ty54 : TI := ⟨.func, 1, 8, .nilfn⟩
def ty55 : TI := ⟨.func, 1, 8, .nilfn⟩
def ty56 : TI := ⟨.func, 1, 8, .nilfn⟩
def ty57 : TI := ⟨.func, 1, 8, .nilfn⟩
def ty58 : TI := ⟨.func, 1, 8, .nilfn⟩
def ty59 : TI := ⟨.func, 1, 8, .nilfn⟩
def ty60 : TI := ⟨.slice 80, 1, 24, .sl 0 true []⟩
def ty61 : TI := ⟨.func, 1, 8, .nilfn⟩
def ty62 : TI := ⟨.slice 65, 1, 24, .sl 0 true []⟩
def ty63 : TI := ⟨.func, 1, 8, .nilfn⟩
def ty64 : TI := ⟨.struct [(0, 2), (1, 2)], 2, 16, .agg [.int .i64 0, .int .i64 0]⟩
def ty65 : TI := ⟨.struct [(0, 2), (1, 2)], 2, 16, .agg [.int .i64 0, .int .i64 0]⟩
def ty66 : TI := ⟨.func, 1, 8, .nilfn⟩
def ty67 : TI := ⟨.func, 1, 8, .nilfn⟩
def ty68 : TI := ⟨.func, 1, 8, .nilfn⟩
def ty69 : TI := ⟨.func, 1, 8, .nilfn⟩
def ty70 : TI := ⟨.func, 1, 8, .nilfn⟩
def ty71 : TI := ⟨.func, 1, 8, .nilfn⟩
def ty72 : TI := ⟨.func, 1, 8, .nilfn⟩
def ty73 : TI := ⟨.func, 1, 8, .nilfn⟩
def ty74 : TI := ⟨.func, 1, 8, .nilfn⟩
def ty75 : TI := ⟨.func, 1, 8, .nilfn⟩
def ty76 : TI := ⟨.func, 1, 8, .nilfn⟩
def ty77 : TI := ⟨.func, 1, 8, .nilfn⟩
def ty78 : TI := ⟨.func, 1, 8, .nilfn⟩
def ty79 : TI := ⟨.func, 1, 8, .nilfn⟩
def ty80 : TI := ⟨.struct [(0, 2), (1, 2)], 2, 16, .agg [.int .i64 0, .int .i64 0]⟩
def ty81 : TI := ⟨.func, 1, 8, .nilfn⟩
def ty82 : TI := ⟨.func, 1, 8, .nilfn⟩
def ty83 : TI := ⟨.func, 1, 8, .nilfn⟩
def ty84 : TI := ⟨.func, 1, 8, .nilfn⟩
def ty85 : TI := ⟨.func, 1, 8, .nilfn⟩
def ty86 : TI := ⟨.func, 1, 8, .nilfn⟩
def ty87 : TI := ⟨.func, 1, 8, .nilfn⟩
def ty88 : TI := ⟨.func, 1, 8, .nilfn⟩
def ty89 : TI := ⟨.int .u64, 1, 8, .int .u64 0⟩
def ty90 : TI := ⟨.func, 1, 8, .nilfn⟩
def ty91 : TI := ⟨.int .i64, 1, 8, .int .i64 0⟩
def ty93 : TI := ⟨.func, 1, 8, .nilfn⟩
def ty94 : TI := ⟨.func, 1, 8, .nilfn⟩
def ty95 : TI := ⟨.func, 1, 8, .nilfn⟩
def ty96 : TI := ⟨.func, 1, 8, .nilfn⟩
def ty98 : TI := ⟨.func, 1, 8, .nilfn⟩
def ty99 : TI := ⟨.func, 1, 8, .nilfn⟩
def ty100 : TI := ⟨.int .u32, 1, 4, .int .u32 0⟩
def ty101 : TI := ⟨.func, 1, 8, .nilfn⟩
def ty102 : TI := ⟨.int .u64, 1, 8, .int .u64 0⟩
def ty103 : TI := ⟨.int .u64, 1, 8, .int .u64 0⟩
def ty104 : TI := ⟨.func, 1, 8, .nilfn⟩
def ty105 : TI := ⟨.func, 1, 8, .nilfn⟩
def ty106 : TI := ⟨.func, 1, 8, .nilfn⟩
def ty107 : TI := ⟨.ptr, 1, 8, .nilp⟩
def ty108 : TI := ⟨.func, 1, 8, .nilfn⟩
def ty109 : TI := ⟨.ptr, 1, 8, .nilp⟩
def ty111 : TI := ⟨.func, 1, 8, .nilfn⟩
def ty112 : TI := ⟨.func, 1, 8, .nilfn⟩
def ty113 : TI := ⟨.struct [(0, 17), (1, 17), (2, 17), (3, 9)], 4, 40, .agg [.nilp, .nilp, .nilp, .str []]⟩
def ty114 : TI := ⟨.struct [(0, 17), (1, 17), (2, 17), (3, 9)], 4, 40, .agg [.nilp, .nilp, .nilp, .str []]⟩
def ty115 : TI := ⟨.array 0 16, 0, 0, .agg []⟩
def ty116 : TI := ⟨.struct [(0, 115)], 0, 0, .agg []⟩
def ty117 : TI := ⟨.struct [(0, 115)], 0, 0, .agg []⟩
def ty118 : TI := ⟨.func, 1, 8, .nilfn⟩
def ty119 : TI := ⟨.int .u8, 1, 1, .int .u8 0⟩
def ty120 : TI := ⟨.int .u8, 1, 1, .int .u8 0⟩
def ty121 : TI := ⟨.func, 1, 8, .nilfn⟩
def ty122 : TI := ⟨.ptr, 1, 8, .nilp⟩
def ty123 : TI := ⟨.int .i32, 1, 4, .int .i32 0⟩
def ty124 : TI := ⟨.int .i32, 1, 4, .int .i32 0⟩
def ty125 : TI := ⟨.struct [(0, 12), (1, 12), (2, 100), (3, 119), (4, 5), (5, 5), (6, 120), (7, 121), (8, 122), (9, 123), (10, 124)], 11, 48, .agg [.int .u64 0, .int .u64 0, .int .u32 0, .int .u8 0, .int .u8 0, .int .u8 0, .int .u8 0, .nilfn, .nilp, .int .i32 0, .int .i32 0]⟩
def ty126 : TI := ⟨.struct [(0, 12), (1, 12), (2, 100), (3, 119), (4, 5), (5, 5), (6, 120), (7, 121), (8, 122), (9, 123), (10, 124)], 11, 48, .agg [.int .u64 0, .int .u64 0, .int .u32 0, .int .u8 0, .int .u8 0, .int .u8 0, .int .u8 0, .nilfn, .nilp, .int .i32 0, .int .i32 0]⟩
def tyT : Tree TI := .node (.node (.node (.node (.node (.node (.node (.leaf) 1 ty1 (.leaf)) 2 ty2 (.node (.leaf) 3 ty3 (.leaf))) 4 ty4 (.node (.node (.leaf) 5 ty5 (.leaf)) 6 ty6 (.node (.leaf) 7 ty7 (.leaf)))) 8 ty8 (.node (.node (.node (.leaf) 9 ty9 (.leaf)) 10 ty10 (.node (.leaf) 11 ty11 (.leaf))) 12 ty12 (.node (.node (.leaf) 13 ty13 (.leaf)) 14 ty14 (.node (.leaf) 15 ty15 (.leaf))))) 16 ty16 (.node (.node (.node (.node (.leaf) 17 ty17 (.leaf)) 18 ty18 (.node (.leaf) 19 ty19 (.leaf))) 21 ty21 (.node (.node (.leaf) 22 ty22 (.leaf)) 23 ty23 (.node (.leaf) 24 ty24 (.leaf)))) 25 ty25 (.node (.node (.node (.leaf) 26 ty26 (.leaf)) 27 ty27 (.node (.leaf) 28 ty28 (.leaf))) 29 ty29 (.node (.node (.leaf) 31 ty31 (.leaf)) 32 ty32 (.leaf))))) 33 ty33 (.node (.node (.node (.node (.node (.leaf) 34 ty34 (.leaf)) 35 ty35 (.node (.leaf) 36 ty36 (.leaf))) 37 ty37 (.node (.node (.leaf) 38 ty38 (.leaf)) 39 ty39 (.node (.leaf) 40 ty40 (.leaf)))) 41 ty41 (.node (.node (.node (.leaf) 42 ty42 (.leaf)) 43 ty43 (.node (.leaf) 44 ty44 (.leaf))) 45 ty45 (.node (.node (.leaf) 46 ty46 (.leaf)) 47 ty47 (.leaf)))) 48 ty48 (.node (.node (.node (.node (.leaf) 49 ty49 (.leaf)) 50 ty50 (.node (.leaf) 51 ty51 (.leaf))) 52 ty52 (.node (.node (.leaf) 53 ty53 (.leaf)) 54 ty54 (.node (.leaf) 55 ty55 (.leaf)))) 56 ty56 (.node (.node (.node (.leaf) 57 ty57 (.leaf)) 58 ty58 (.node (.leaf) 59 ty59 (.leaf))) 60 ty60 (.node (.node (.leaf) 61 ty61 (.leaf)) 62 ty62 (.leaf)))))) 63 ty63 (.node (.node (.node (.node (.node (.node (.leaf) 64 ty64 (.leaf)) 65 ty65 (.node (.leaf) 66 ty66 (.leaf))) 67 ty67 (.node (.node (.leaf) 68 ty68 (.leaf)) 69 ty69 (.node (.leaf) 70 ty70 (.leaf)))) 71 ty71 (.node (.node (.node (.leaf) 72 ty72 (.leaf)) 73 ty73 (.node (.leaf) 74 ty74 (.leaf))) 75 ty75 (.node (.node (.leaf) 76 ty76 (.leaf)) 77 ty77 (.node (.leaf) 78 ty78 (.leaf))))) 79 ty79 (.node (.node (.node (.node (.leaf) 80 ty80 (.leaf)) 81 ty81 (.node (.leaf) 82 ty82 (.leaf))) 83 ty83 (.node (.node (.leaf) 84 ty84 (.leaf)) 85 ty85 (.node (.leaf) 86 ty86 (.leaf)))) 87 ty87 (.node (.node (.node (.leaf) 88 ty88 (.leaf)) 89 ty89 (.node (.leaf) 90 ty90 (.leaf))) 91 ty91 (.node (.node (.leaf) 93 ty93 (.leaf)) 94 ty94 (.leaf))))) 95 ty95 (.node (.node (.node (.node (.node (.leaf) 96 ty96 (.leaf)) 98 ty98 (.node (.leaf) 99 ty99 (.leaf))) 100 ty100 (.node (.node (.leaf) 101 ty101 (.leaf)) 102 ty102 (.node (.leaf) 103 ty103 (.leaf)))) 104 ty104 (.node (.node (.node (.leaf) 105 ty105 (.leaf)) 106 ty106 (.node (.leaf) 107 ty107 (.leaf))) 108 ty108 (.node (.node (.leaf) 109 ty109 (.leaf)) 111 ty111 (.leaf)))) 112 ty112 (.node (.node (.node (.node (.leaf) 113 ty113 (.leaf)) 114 ty114 (.node (.leaf) 115 ty115 (.leaf))) 116 ty116 (.node (.node (.leaf) 117 ty117 (.leaf)) 118 ty118 (.node (.leaf) 119 ty119 (.leaf)))) 120 ty120 (.node (.node (.node (.leaf) 121 ty121 (.leaf)) 122 ty122 (.node (.leaf) 123 ty123 (.leaf))) 124 ty124 (.node (.node (.leaf) 125 ty125 (.leaf)) 126 ty126 (.leaf))))))
theorem tyOk : tyT.all (tyB Try.prog) = true := by kernel_rfl
/-- laws.FnExactLostStates -/
noncomputable def fi3 : FI := fiOf Try.f3 [] [] [] false 0 [26, 29, 48, 64]
theorem ok3 : FnOk Try.prog drawOk 3 fi3 := .of Try.func3 (by kernel_rfl) (by kernel_rfl) (by kernel_rfl)
/-- laws.szChecker -/
noncomputable def fi4 : FI := fiOf Try.f4 [] [] [] false
theorem ok4 : FnOk Try.prog drawOk 4 fi4 := .of Try.func4 (by kernel_rfl) (by kernel_rfl) (by kernel_rfl)
/-- spec.LostStates -/
noncomputable def fi5 : FI := fiOf Try.f5 [] [] [] false
theorem ok5 : FnOk Try.prog drawOk 5 fi5 := .of Try.func5 (by kernel_rfl) (by kernel_rfl) (by kernel_rfl)
/-- laws.toChecker -/
noncomputable def fi6 : FI := fiOf Try.f6 [] [(3, 1)] [] false
theorem ok6 : FnOk Try.prog drawOk 6 fi6 := .of Try.func6 (by kernel_rfl) (by kernel_rfl) (by kernel_rfl)
/-- impl.LostStates -/
noncomputable def fi7 : FI := fiOf Try.f7 [] [] [] false
theorem ok7 : FnOk Try.prog drawOk 7 fi7 := .of Try.func7 (by kernel_rfl) (by kernel_rfl) (by kernel_rfl)
/-- laws.eqInt64S -/
noncomputable def fi8 : FI := fiOf Try.f8 [] [] [] false 1
theorem ok8 : FnOk Try.prog drawOk 8 fi8 := .of Try.func8 (by kernel_rfl) (by kernel_rfl) (by kernel_rfl)
/-- laws.eqChecker -/
noncomputable def fi9 : FI := fiOf Try.f9 [] [] [] false 1
theorem ok9 : FnOk Try.prog drawOk 9 fi9 := .of Try.func9 (by kernel_rfl) (by kernel_rfl) (by kernel_rfl)
/-- laws.heldInt64S -/
noncomputable def fi12 : FI := fiOf Try.f12 [] [] [] false 1
theorem ok12 : FnOk Try.prog drawOk 12 fi12 := .of Try.func12 (by kernel_rfl) (by kernel_rfl) (by kernel_rfl)
/-- laws.szBoolS -/
noncomputable def fi13 : FI := fiOf Try.f13 [] [] [] false
theorem ok13 : FnOk Try.prog drawOk 13 fi13 := .of Try.func13 (by kernel_rfl) (by kernel_rfl) (by kernel_rfl)
/-- laws.szPushSS -/
noncomputable def fi14 : FI := fiOf Try.f14 [] [] [] false
theorem ok14 : FnOk Try.prog drawOk 14 fi14 := .of Try.func14 (by kernel_rfl) (by kernel_rfl) (by kernel_rfl)
/-- laws.szInt64SSS -/
noncomputable def fi15 : FI := fiOf Try.f15 [] [] [] false
theorem ok15 : FnOk Try.prog drawOk 15 fi15 := .of Try.func15 (by kernel_rfl) (by kernel_rfl) (by kernel_rfl)
/-- laws.szInt64SS -/
noncomputable def fi16 : FI := fiOf Try.f16 [] [] [] false
theorem ok16 : FnOk Try.prog drawOk 16 fi16 := .of Try.func16 (by kernel_rfl) (by kernel_rfl) (by kernel_rfl)
/-- spec.l02Ok -/
noncomputable def fi17 : FI := fiOf Try.f17 [] [] [] false
theorem ok17 : FnOk Try.prog drawOk 17 fi17 := .of Try.func17 (by kernel_rfl) (by kernel_rfl) (by kernel_rfl)
/-- spec.l08Lost -/
noncomputable def fi18 : FI := fiOf Try.f18 [46] [(5, 1)] [] false
theorem ok18 : FnOk Try.prog drawOk 18 fi18 := .of Try.func18 (by kernel_rfl) (by kernel_rfl) (by kernel_rfl)
/-- laws.toBoolS -/
noncomputable def fi19 : FI := fiOf Try.f19 [] [] [] false
theorem ok19 : FnOk Try.prog drawOk 19 fi19 := .of Try.func19 (by kernel_rfl) (by kernel_rfl) (by kernel_rfl)
/-- laws.toPushSS -/
noncomputable def fi20 : FI := fiOf Try.f20 [] [] [] false
theorem ok20 : FnOk Try.prog drawOk 20 fi20 := .of Try.func20 (by kernel_rfl) (by kernel_rfl) (by kernel_rfl)
/-- laws.toInt64SSS -/
noncomputable def fi21 : FI := fiOf Try.f21 [] [] [] false
theorem ok21 : FnOk Try.prog drawOk 21 fi21 := .of Try.func21 (by kernel_rfl) (by kernel_rfl) (by kernel_rfl)
/-- laws.toInt64SS -/
noncomputable def fi22 : FI := fiOf Try.f22 [] [] [] false
theorem ok22 : FnOk Try.prog drawOk 22 fi22 := .of Try.func22 (by kernel_rfl) (by kernel_rfl) (by kernel_rfl)
/-- impl.ValidChecker -/
noncomputable def fi23 : FI := fiOf Try.f23 [] [] [] false
theorem ok23 : FnOk Try.prog drawOk 23 fi23 := .of Try.func23 (by kernel_rfl) (by kernel_rfl) (by kernel_rfl)
/-- (impl.Checker).lost -/
noncomputable def fi24 : FI := fiOf Try.f24 [21] [(5, 1)] [] false
theorem ok24 : FnOk Try.prog drawOk 24 fi24 := .of Try.func24 (by kernel_rfl) (by kernel_rfl) (by kernel_rfl)
/-- laws.eqBoolS -/
noncomputable def fi25 : FI := fiOf Try.f25 [] [] [] false 1
theorem ok25 : FnOk Try.prog drawOk 25 fi25 := .of Try.func25 (by kernel_rfl) (by kernel_rfl) (by kernel_rfl)
/-- laws.eqPushSS -/
noncomputable def fi26 : FI := fiOf Try.f26 [] [] [] false 1
theorem ok26 : FnOk Try.prog drawOk 26 fi26 := .of Try.func26 (by kernel_rfl) (by kernel_rfl) (by kernel_rfl)
/-- laws.eqInt64SSS -/
noncomputable def fi27 : FI := fiOf Try.f27 [] [] [] false 1
theorem ok27 : FnOk Try.prog drawOk 27 fi27 := .of Try.func27 (by kernel_rfl) (by kernel_rfl) (by kernel_rfl)
/-- laws.eqInt64SS -/
noncomputable def fi28 : FI := fiOf Try.f28 [] [] [] false 1
theorem ok28 : FnOk Try.prog drawOk 28 fi28 := .of Try.func28 (by kernel_rfl) (by kernel_rfl) (by kernel_rfl)
/-- laws.szPushS -/
noncomputable def fi33 : FI := fiOf Try.f33 [] [] [] false
theorem ok33 : FnOk Try.prog drawOk 33 fi33 := .of Try.func33 (by kernel_rfl) (by kernel_rfl) (by kernel_rfl)
/-- laws.szInt64S -/
noncomputable def fi34 : FI := fiOf Try.f34 [] [] [] false
theorem ok34 : FnOk Try.prog drawOk 34 fi34 := .of Try.func34 (by kernel_rfl) (by kernel_rfl) (by kernel_rfl)
/-- spec.l00In -/
noncomputable def fi35 : FI := fiOf Try.f35 [] [] [] false
theorem ok35 : FnOk Try.prog drawOk 35 fi35 := .of Try.func35 (by kernel_rfl) (by kernel_rfl) (by kernel_rfl)
/-- spec.l02List -/
noncomputable def fi36 : FI := fiOf Try.f36 [] [] [] false
theorem ok36 : FnOk Try.prog drawOk 36 fi36 := .of Try.func36 (by kernel_rfl) (by kernel_rfl) (by kernel_rfl)
/-- spec.l02Used -/
noncomputable def fi37 : FI := fiOf Try.f37 [25, 26, 39, 83] [] [] false
theorem ok37 : FnOk Try.prog drawOk 37 fi37 := .of Try.func37 (by kernel_rfl) (by kernel_rfl) (by kernel_rfl)
/-- laws.toPushS -/
noncomputable def fi38 : FI := fiOf Try.f38 [] [] [] false
theorem ok38 : FnOk Try.prog drawOk 38 fi38 := .of Try.func38 (by kernel_rfl) (by kernel_rfl) (by kernel_rfl)
/-- laws.toInt64S -/
noncomputable def fi39 : FI := fiOf Try.f39 [] [] [] false
theorem ok39 : FnOk Try.prog drawOk 39 fi39 := .of Try.func39 (by kernel_rfl) (by kernel_rfl) (by kernel_rfl)
/-- impl.size[bool] -/
noncomputable def fi40 : FI := fiOf Try.f40 [] [] [] false
theorem ok40 : FnOk Try.prog drawOk 40 fi40 := .of Try.func40 (by kernel_rfl) (by kernel_rfl) (by kernel_rfl)
/-- impl.within -/
noncomputable def fi41 : FI := fiOf Try.f41 [] [] [] false
theorem ok41 : FnOk Try.prog drawOk 41 fi41 := .of Try.func41 (by kernel_rfl) (by kernel_rfl) (by kernel_rfl)
/-- (impl.Checker).isState -/
noncomputable def fi42 : FI := fiOf Try.f42 [] [] [] false
theorem ok42 : FnOk Try.prog drawOk 42 fi42 := .of Try.func42 (by kernel_rfl) (by kernel_rfl) (by kernel_rfl)
/-- impl.size[[]impl.Push] -/
noncomputable def fi43 : FI := fiOf Try.f43 [] [] [] false
theorem ok43 : FnOk Try.prog drawOk 43 fi43 := .of Try.func43 (by kernel_rfl) (by kernel_rfl) (by kernel_rfl)
/-- impl.size[[][]int64] -/
noncomputable def fi44 : FI := fiOf Try.f44 [] [] [] false
theorem ok44 : FnOk Try.prog drawOk 44 fi44 := .of Try.func44 (by kernel_rfl) (by kernel_rfl) (by kernel_rfl)
/-- impl.size[[]int64] -/
noncomputable def fi45 : FI := fiOf Try.f45 [] [] [] false
theorem ok45 : FnOk Try.prog drawOk 45 fi45 := .of Try.func45 (by kernel_rfl) (by kernel_rfl) (by kernel_rfl)
/-- impl.ValidChecker$1 -/
noncomputable def fi46 : FI := fiOf Try.f46 [] [] [] false
theorem ok46 : FnOk Try.prog drawOk 46 fi46 := .of Try.func46 (by kernel_rfl) (by kernel_rfl) (by kernel_rfl)
/-- impl.size[int64] -/
noncomputable def fi47 : FI := fiOf Try.f47 [] [] [] false
theorem ok47 : FnOk Try.prog drawOk 47 fi47 := .of Try.func47 (by kernel_rfl) (by kernel_rfl) (by kernel_rfl)
/-- slices.ContainsFunc[[]int64,int64] -/
noncomputable def fi48 : FI := fiOf Try.f48 [] [] [] false
theorem ok48 : FnOk Try.prog drawOk 48 fi48 := .of Try.func48 (by kernel_rfl) (by kernel_rfl) (by kernel_rfl)
/-- impl.ValidChecker$1$1 -/
noncomputable def fi49 : FI := fiOf Try.f49 [] [] [] false
theorem ok49 : FnOk Try.prog drawOk 49 fi49 := .of Try.func49 (by kernel_rfl) (by kernel_rfl) (by kernel_rfl)
/-- (impl.Checker).isMark -/
noncomputable def fi50 : FI := fiOf Try.f50 [] [] [] false
theorem ok50 : FnOk Try.prog drawOk 50 fi50 := .of Try.func50 (by kernel_rfl) (by kernel_rfl) (by kernel_rfl)
/-- (impl.Checker).used -/
noncomputable def fi51 : FI := fiOf Try.f51 [] [] [11, 73] false
theorem ok51 : FnOk Try.prog drawOk 51 fi51 := .of Try.func51 (by kernel_rfl) (by kernel_rfl) (by kernel_rfl)
/-- (impl.Checker).lost$1 -/
noncomputable def fi52 : FI := fiOf Try.f52 [] [] [] false
theorem ok52 : FnOk Try.prog drawOk 52 fi52 := .of Try.func52 (by kernel_rfl) (by kernel_rfl) (by kernel_rfl)
/-- laws.eqPushS -/
noncomputable def fi53 : FI := fiOf Try.f53 [] [] [] false 1
theorem ok53 : FnOk Try.prog drawOk 53 fi53 := .of Try.func53 (by kernel_rfl) (by kernel_rfl) (by kernel_rfl)
/-- spec.l00Own -/
noncomputable def fi55 : FI := fiOf Try.f55 [] [] [] false
theorem ok55 : FnOk Try.prog drawOk 55 fi55 := .of Try.func55 (by kernel_rfl) (by kernel_rfl) (by kernel_rfl)
/-- spec.l00Has -/
noncomputable def fi56 : FI := fiOf Try.f56 [] [] [] false
theorem ok56 : FnOk Try.prog drawOk 56 fi56 := .of Try.func56 (by kernel_rfl) (by kernel_rfl) (by kernel_rfl)
/-- spec.l00Put -/
noncomputable def fi57 : FI := fiOf Try.f57 [31, 35, 44] [] [] false
theorem ok57 : FnOk Try.prog drawOk 57 fi57 := .of Try.func57 (by kernel_rfl) (by kernel_rfl) (by kernel_rfl)
/-- laws.toPush -/
noncomputable def fi58 : FI := fiOf Try.f58 [] [(3, 1)] [] false
theorem ok58 : FnOk Try.prog drawOk 58 fi58 := .of Try.func58 (by kernel_rfl) (by kernel_rfl) (by kernel_rfl)
/-- slices.IndexFunc[[]int64,int64] -/
noncomputable def fi59 : FI := fiOf Try.f59 [] [] [] false
theorem ok59 : FnOk Try.prog drawOk 59 fi59 := .of Try.func59 (by kernel_rfl) (by kernel_rfl) (by kernel_rfl)
/-- slices.Concat[[]int64,int64] -/
noncomputable def fi60 : FI := fiOf Try.f60 [31] [] [] false
theorem ok60 : FnOk Try.prog drawOk 60 fi60 := .of Try.func60 (by kernel_rfl) (by kernel_rfl) (by kernel_rfl)
/-- slices.Contains[[]int64,int64] -/
noncomputable def fi61 : FI := fiOf Try.f61 [] [] [] false 1
theorem ok61 : FnOk Try.prog drawOk 61 fi61 := .of Try.func61 (by kernel_rfl) (by kernel_rfl) (by kernel_rfl)
/-- slices.Sort[[]int64,int64] -/
noncomputable def fi62 : FI := fiOf Try.f62 [] [] [] false
theorem ok62 : FnOk Try.prog drawOk 62 fi62 := .of Try.func62 (by kernel_rfl) (by kernel_rfl) (by kernel_rfl)
/-- laws.eqPush -/
noncomputable def fi63 : FI := fiOf Try.f63 [] [] [] false
theorem ok63 : FnOk Try.prog drawOk 63 fi63 := .of Try.func63 (by kernel_rfl) (by kernel_rfl) (by kernel_rfl)
/-- slices.Grow[[]int64,int64] -/
noncomputable def fi64 : FI := fiOf Try.f64 [] [] [22] false
theorem ok64 : FnOk Try.prog drawOk 64 fi64 := .of Try.func64 (by kernel_rfl) (by kernel_rfl) (by kernel_rfl)
/-- slices.Index[[]int64,int64] -/
noncomputable def fi65 : FI := fiOf Try.f65 [] [] [] false
theorem ok65 : FnOk Try.prog drawOk 65 fi65 := .of Try.func65 (by kernel_rfl) (by kernel_rfl) (by kernel_rfl)
/-- slices.pdqsortOrdered[int64] -/
noncomputable def fi66 : FI := fiOf Try.f66 [] [] [] false
theorem ok66 : FnOk Try.prog drawOk 66 fi66 := .of Try.func66 (by kernel_rfl) (by kernel_rfl) (by kernel_rfl)
/-- math/bits.Len -/
noncomputable def fi67 : FI := fiOf Try.f67 [] [] [] false
theorem ok67 : FnOk Try.prog drawOk 67 fi67 := .of Try.func67 (by kernel_rfl) (by kernel_rfl) (by kernel_rfl)
/-- slices.insertionSortOrdered[int64] -/
noncomputable def fi68 : FI := fiOf Try.f68 [] [] [] false
theorem ok68 : FnOk Try.prog drawOk 68 fi68 := .of Try.func68 (by kernel_rfl) (by kernel_rfl) (by kernel_rfl)
/-- slices.heapSortOrdered[int64] -/
noncomputable def fi69 : FI := fiOf Try.f69 [] [] [] false
theorem ok69 : FnOk Try.prog drawOk 69 fi69 := .of Try.func69 (by kernel_rfl) (by kernel_rfl) (by kernel_rfl)
/-- slices.breakPatternsOrdered[int64] -/
noncomputable def fi70 : FI := fiOf Try.f70 [] [(7, 1)] [] false
theorem ok70 : FnOk Try.prog drawOk 70 fi70 := .of Try.func70 (by kernel_rfl) (by kernel_rfl) (by kernel_rfl)
/-- slices.choosePivotOrdered[int64] -/
noncomputable def fi71 : FI := fiOf Try.f71 [] [(9, 1)] [] false
theorem ok71 : FnOk Try.prog drawOk 71 fi71 := .of Try.func71 (by kernel_rfl) (by kernel_rfl) (by kernel_rfl)
/-- slices.reverseRangeOrdered[int64] -/
noncomputable def fi72 : FI := fiOf Try.f72 [] [] [] false
theorem ok72 : FnOk Try.prog drawOk 72 fi72 := .of Try.func72 (by kernel_rfl) (by kernel_rfl) (by kernel_rfl)
/-- slices.partialInsertionSortOrdered[int64] -/
noncomputable def fi73 : FI := fiOf Try.f73 [] [] [] false
theorem ok73 : FnOk Try.prog drawOk 73 fi73 := .of Try.func73 (by kernel_rfl) (by kernel_rfl) (by kernel_rfl)
/-- cmp.Less[int64] -/
noncomputable def fi74 : FI := fiOf Try.f74 [] [] [] false
theorem ok74 : FnOk Try.prog drawOk 74 fi74 := .of Try.func74 (by kernel_rfl) (by kernel_rfl) (by kernel_rfl)
/-- slices.partitionEqualOrdered[int64] -/
noncomputable def fi75 : FI := fiOf Try.f75 [] [] [] false
theorem ok75 : FnOk Try.prog drawOk 75 fi75 := .of Try.func75 (by kernel_rfl) (by kernel_rfl) (by kernel_rfl)
/-- slices.partitionOrdered[int64] -/
noncomputable def fi76 : FI := fiOf Try.f76 [] [] [] false
theorem ok76 : FnOk Try.prog drawOk 76 fi76 := .of Try.func76 (by kernel_rfl) (by kernel_rfl) (by kernel_rfl)
/-- math/bits.Len32 -/
noncomputable def fi77 : FI := fiOf Try.f77 [] [] [] false
theorem ok77 : FnOk Try.prog drawOk 77 fi77 := .of Try.func77 (by kernel_rfl) (by kernel_rfl) (by kernel_rfl)
/-- math/bits.Len64 -/
noncomputable def fi78 : FI := fiOf Try.f78 [] [] [] false
theorem ok78 : FnOk Try.prog drawOk 78 fi78 := .of Try.func78 (by kernel_rfl) (by kernel_rfl) (by kernel_rfl)
/-- slices.siftDownOrdered[int64] -/
noncomputable def fi79 : FI := fiOf Try.f79 [] [] [] false
theorem ok79 : FnOk Try.prog drawOk 79 fi79 := .of Try.func79 (by kernel_rfl) (by kernel_rfl) (by kernel_rfl)
/-- slices.nextPowerOfTwo -/
noncomputable def fi80 : FI := fiOf Try.f80 [] [] [] false
theorem ok80 : FnOk Try.prog drawOk 80 fi80 := .of Try.func80 (by kernel_rfl) (by kernel_rfl) (by kernel_rfl)
/-- (*slices.xorshift).Next -/
noncomputable def fi81 : FI := fiOf Try.f81 [] [] [] false
theorem ok81 : FnOk Try.prog drawOk 81 fi81 := .of Try.func81 (by kernel_rfl) (by kernel_rfl) (by kernel_rfl)
/-- slices.medianAdjacentOrdered[int64] -/
noncomputable def fi82 : FI := fiOf Try.f82 [] [] [] false
theorem ok82 : FnOk Try.prog drawOk 82 fi82 := .of Try.func82 (by kernel_rfl) (by kernel_rfl) (by kernel_rfl)
/-- slices.medianOrdered[int64] -/
noncomputable def fi83 : FI := fiOf Try.f83 [] [] [] false
theorem ok83 : FnOk Try.prog drawOk 83 fi83 := .of Try.func83 (by kernel_rfl) (by kernel_rfl) (by kernel_rfl)
/-- cmp.isNaN[int64] -/
noncomputable def fi84 : FI := fiOf Try.f84 [] [] [] false
theorem ok84 : FnOk Try.prog drawOk 84 fi84 := .of Try.func84 (by kernel_rfl) (by kernel_rfl) (by kernel_rfl)
/-- slices.order2Ordered[int64] -/
noncomputable def fi85 : FI := fiOf Try.f85 [] [] [] false
theorem ok85 : FnOk Try.prog drawOk 85 fi85 := .of Try.func85 (by kernel_rfl) (by kernel_rfl) (by kernel_rfl)
noncomputable def fnT : Tree FI := .node (.node (.node (.node (.node (.node (.node (.leaf) 3 fi3 (.leaf)) 4 fi4 (.leaf)) 5 fi5 (.node (.leaf) 6 fi6 (.leaf))) 7 fi7 (.node (.node (.node (.leaf) 8 fi8 (.leaf)) 9 fi9 (.leaf)) 12 fi12 (.node (.leaf) 13 fi13 (.leaf)))) 14 fi14 (.node (.node (.node (.node (.leaf) 15 fi15 (.leaf)) 16 fi16 (.leaf)) 17 fi17 (.node (.leaf) 18 fi18 (.leaf))) 19 fi19 (.node (.node (.node (.leaf) 20 fi20 (.leaf)) 21 fi21 (.leaf)) 22 fi22 (.node (.leaf) 23 fi23 (.leaf))))) 24 fi24 (.node (.node (.node (.node (.node (.leaf) 25 fi25 (.leaf)) 26 fi26 (.leaf)) 27 fi27 (.node (.leaf) 28 fi28 (.leaf))) 33 fi33 (.node (.node (.node (.leaf) 34 fi34 (.leaf)) 35 fi35 (.leaf)) 36 fi36 (.node (.leaf) 37 fi37 (.leaf)))) 38 fi38 (.node (.node (.node (.node (.leaf) 39 fi39 (.leaf)) 40 fi40 (.leaf)) 41 fi41 (.node (.leaf) 42 fi42 (.leaf))) 43 fi43 (.node (.node (.leaf) 44 fi44 (.leaf)) 45 fi45 (.node (.leaf) 46 fi46 (.leaf)))))) 47 fi47 (.node (.node (.node (.node (.node (.node (.leaf) 48 fi48 (.leaf)) 49 fi49 (.leaf)) 50 fi50 (.node (.leaf) 51 fi51 (.leaf))) 52 fi52 (.node (.node (.node (.leaf) 53 fi53 (.leaf)) 55 fi55 (.leaf)) 56 fi56 (.node (.leaf) 57 fi57 (.leaf)))) 58 fi58 (.node (.node (.node (.node (.leaf) 59 fi59 (.leaf)) 60 fi60 (.leaf)) 61 fi61 (.node (.leaf) 62 fi62 (.leaf))) 63 fi63 (.node (.node (.leaf) 64 fi64 (.leaf)) 65 fi65 (.node (.leaf) 66 fi66 (.leaf))))) 67 fi67 (.node (.node (.node (.node (.node (.leaf) 68 fi68 (.leaf)) 69 fi69 (.leaf)) 70 fi70 (.node (.leaf) 71 fi71 (.leaf))) 72 fi72 (.node (.node (.node (.leaf) 73 fi73 (.leaf)) 74 fi74 (.leaf)) 75 fi75 (.node (.leaf) 76 fi76 (.leaf)))) 77 fi77 (.node (.node (.node (.node (.leaf) 78 fi78 (.leaf)) 79 fi79 (.leaf)) 80 fi80 (.node (.leaf) 81 fi81 (.leaf))) 82 fi82 (.node (.node (.leaf) 83 fi83 (.leaf)) 84 fi84 (.node (.leaf) 85 fi85 (.leaf))))))
theorem fnOk : fnT.Each (FnOk Try.prog drawOk) := ⟨ok47, ⟨ok24, ⟨ok14, ⟨ok7, ⟨ok5, ⟨ok4, ⟨ok3, trivial, trivial⟩, trivial⟩, ⟨ok6, trivial, trivial⟩⟩, ⟨ok12, ⟨ok9, ⟨ok8, trivial, trivial⟩, trivial⟩, ⟨ok13, trivial, trivial⟩⟩⟩, ⟨ok19, ⟨ok17, ⟨ok16, ⟨ok15, trivial, trivial⟩, trivial⟩, ⟨ok18, trivial, trivial⟩⟩, ⟨ok22, ⟨ok21, ⟨ok20, trivial, trivial⟩, trivial⟩, ⟨ok23, trivial, trivial⟩⟩⟩⟩, ⟨ok38, ⟨ok33, ⟨ok27, ⟨ok26, ⟨ok25, trivial, trivial⟩, trivial⟩, ⟨ok28, trivial, trivial⟩⟩, ⟨ok36, ⟨ok35, ⟨ok34, trivial, trivial⟩, trivial⟩, ⟨ok37, trivial, trivial⟩⟩⟩, ⟨ok43, ⟨ok41, ⟨ok40, ⟨ok39, trivial, trivial⟩, trivial⟩, ⟨ok42, trivial, trivial⟩⟩, ⟨ok45, ⟨ok44, trivial, trivial⟩, ⟨ok46, trivial, trivial⟩⟩⟩⟩⟩, ⟨ok67, ⟨ok58, ⟨ok52, ⟨ok50, ⟨ok49, ⟨ok48, trivial, trivial⟩, trivial⟩, ⟨ok51, trivial, trivial⟩⟩, ⟨ok56, ⟨ok55, ⟨ok53, trivial, trivial⟩, trivial⟩, ⟨ok57, trivial, trivial⟩⟩⟩, ⟨ok63, ⟨ok61, ⟨ok60, ⟨ok59, trivial, trivial⟩, trivial⟩, ⟨ok62, trivial, trivial⟩⟩, ⟨ok65, ⟨ok64, trivial, trivial⟩, ⟨ok66, trivial, trivial⟩⟩⟩⟩, ⟨ok77, ⟨ok72, ⟨ok70, ⟨ok69, ⟨ok68, trivial, trivial⟩, trivial⟩, ⟨ok71, trivial, trivial⟩⟩, ⟨ok75, ⟨ok74, ⟨ok73, trivial, trivial⟩, trivial⟩, ⟨ok76, trivial, trivial⟩⟩⟩, ⟨ok82, ⟨ok80, ⟨ok79, ⟨ok78, trivial, trivial⟩, trivial⟩, ⟨ok81, trivial, trivial⟩⟩, ⟨ok84, ⟨ok83, trivial, trivial⟩, ⟨ok85, trivial, trivial⟩⟩⟩⟩⟩⟩
/-- laws.toChecker -/
noncomputable def fiK6 : FI := fiOf Try.f6 [] [(3, 1)] [] true 0 [12, 16, 20, 24]
theorem okK6 : FnOk Try.prog drawOk 6 fiK6 := .of Try.func6 (by kernel_rfl) (by kernel_rfl) (by kernel_rfl)
/-- impl.LostStates -/
noncomputable def fiK7 : FI := fiOf Try.f7 [] [] [] true 1 [8]
theorem okK7 : FnOk Try.prog drawOk 7 fiK7 := .of Try.func7 (by kernel_rfl) (by kernel_rfl) (by kernel_rfl)
/-- laws.markChecker -/
noncomputable def fiK10 : FI := fiOf Try.f10 [] [] [] true 0 [8, 12, 16, 20]
theorem okK10 : FnOk Try.prog drawOk 10 fiK10 := .of Try.func10 (by kernel_rfl) (by kernel_rfl) (by kernel_rfl)
/-- laws.markInt64S -/
noncomputable def fiK11 : FI := fiOf Try.f11 [] [] [] true
theorem okK11 : FnOk Try.prog drawOk 11 fiK11 := .of Try.func11 (by kernel_rfl) (by kernel_rfl) (by kernel_rfl)
/-- laws.toBoolS -/
noncomputable def fiK19 : FI := fiOf Try.f19 [] [] [] true
theorem okK19 : FnOk Try.prog drawOk 19 fiK19 := .of Try.func19 (by kernel_rfl) (by kernel_rfl) (by kernel_rfl)
/-- laws.toPushSS -/
noncomputable def fiK20 : FI := fiOf Try.f20 [] [] [] true 0 [20]
theorem okK20 : FnOk Try.prog drawOk 20 fiK20 := .of Try.func20 (by kernel_rfl) (by kernel_rfl) (by kernel_rfl)
/-- laws.toInt64SSS -/
noncomputable def fiK21 : FI := fiOf Try.f21 [] [] [] true 0 [20]
theorem okK21 : FnOk Try.prog drawOk 21 fiK21 := .of Try.func21 (by kernel_rfl) (by kernel_rfl) (by kernel_rfl)
/-- laws.toInt64SS -/
noncomputable def fiK22 : FI := fiOf Try.f22 [] [] [] true 0 [20]
theorem okK22 : FnOk Try.prog drawOk 22 fiK22 := .of Try.func22 (by kernel_rfl) (by kernel_rfl) (by kernel_rfl)
/-- (impl.Checker).lost -/
noncomputable def fiK24 : FI := fiOf Try.f24 [] [(5, 1)] [24] true
theorem okK24 : FnOk Try.prog drawOk 24 fiK24 := .of Try.func24 (by kernel_rfl) (by kernel_rfl) (by kernel_rfl)
/-- laws.markBoolS -/
noncomputable def fiK29 : FI := fiOf Try.f29 [] [] [] true
theorem okK29 : FnOk Try.prog drawOk 29 fiK29 := .of Try.func29 (by kernel_rfl) (by kernel_rfl) (by kernel_rfl)
/-- laws.markPushSS -/
noncomputable def fiK30 : FI := fiOf Try.f30 [] [] [] true 0 [17]
theorem okK30 : FnOk Try.prog drawOk 30 fiK30 := .of Try.func30 (by kernel_rfl) (by kernel_rfl) (by kernel_rfl)
/-- laws.markInt64SSS -/
noncomputable def fiK31 : FI := fiOf Try.f31 [] [] [] true 0 [17]
theorem okK31 : FnOk Try.prog drawOk 31 fiK31 := .of Try.func31 (by kernel_rfl) (by kernel_rfl) (by kernel_rfl)
/-- laws.markInt64SS -/
noncomputable def fiK32 : FI := fiOf Try.f32 [] [] [] true 0 [17]
theorem okK32 : FnOk Try.prog drawOk 32 fiK32 := .of Try.func32 (by kernel_rfl) (by kernel_rfl) (by kernel_rfl)
/-- laws.toPushS -/
noncomputable def fiK38 : FI := fiOf Try.f38 [] [] [] true
theorem okK38 : FnOk Try.prog drawOk 38 fiK38 := .of Try.func38 (by kernel_rfl) (by kernel_rfl) (by kernel_rfl)
/-- laws.toInt64S -/
noncomputable def fiK39 : FI := fiOf Try.f39 [] [] [] true
theorem okK39 : FnOk Try.prog drawOk 39 fiK39 := .of Try.func39 (by kernel_rfl) (by kernel_rfl) (by kernel_rfl)
/-- laws.markPushS -/
noncomputable def fiK54 : FI := fiOf Try.f54 [] [] [] true
theorem okK54 : FnOk Try.prog drawOk 54 fiK54 := .of Try.func54 (by kernel_rfl) (by kernel_rfl) (by kernel_rfl)
noncomputable def fnKT : Tree FI := .node (.node (.node (.node (.node (.leaf) 6 fiK6 (.leaf)) 7 fiK7 (.leaf)) 10 fiK10 (.node (.leaf) 11 fiK11 (.leaf))) 19 fiK19 (.node (.node (.leaf) 20 fiK20 (.leaf)) 21 fiK21 (.node (.leaf) 22 fiK22 (.leaf)))) 24 fiK24 (.node (.node (.node (.leaf) 29 fiK29 (.leaf)) 30 fiK30 (.node (.leaf) 31 fiK31 (.leaf))) 32 fiK32 (.node (.node (.leaf) 38 fiK38 (.leaf)) 39 fiK39 (.node (.leaf) 54 fiK54 (.leaf))))
theorem fnKOk : fnKT.Each (FnOk Try.prog drawOk) := ⟨okK24, ⟨okK19, ⟨okK10, ⟨okK7, ⟨okK6, trivial, trivial⟩, trivial⟩, ⟨okK11, trivial, trivial⟩⟩, ⟨okK21, ⟨okK20, trivial, trivial⟩, ⟨okK22, trivial, trivial⟩⟩⟩, ⟨okK32, ⟨okK30, ⟨okK29, trivial, trivial⟩, ⟨okK31, trivial, trivial⟩⟩, ⟨okK39, ⟨okK38, trivial, trivial⟩, ⟨okK54, trivial, trivial⟩⟩⟩⟩
end Go.Proofs.Ytmgpjpaajhcmpaa.law
