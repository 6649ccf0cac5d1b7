/- The evaluator's tables of types and functions of this seat. -/
import Derived.Test.YthnilfmdmaebfaaAe2
import Derived.Test.YthnilfmdmaebfaaProg
import Derived.KernelRfl
set_option linter.unusedVariables false
set_option linter.unusedSimpArgs false
namespace Go.Proofs.Ythnilfmdmaebfaa.law
open Go Go.Proofs Ae

def ty1 : TI := ⟨.func, 1, 8, .nilfn⟩
def ty2 : TI := ⟨.int .i64, 1, 8, .int .i64 0⟩
def ty3 : TI := ⟨.int .i64, 1, 8, .int .i64 0⟩
def ty4 : TI := ⟨.bool, 1, 1, .bool false⟩
def ty5 : TI := ⟨.int .u8, 1, 1, .int .u8 0⟩
def ty6 : TI := ⟨.int .u8, 1, 1, .int .u8 0⟩
def ty7 : TI := ⟨.struct [(0, 2), (1, 3), (2, 4), (3, 6)], 4, 24, .agg [.int .i64 0, .int .i64 0, .bool false, .int .u8 0]⟩
def ty8 : TI := ⟨.struct [(0, 2), (1, 3), (2, 4), (3, 6)], 4, 24, .agg [.int .i64 0, .int .i64 0, .bool false, .int .u8 0]⟩
def ty9 : TI := ⟨.str, 1, 16, .str []⟩
def ty10 : TI := ⟨.str, 1, 16, .str []⟩
def ty11 : TI := ⟨.str, 1, 16, .str []⟩
def ty12 : TI := ⟨.int .u64, 1, 8, .int .u64 0⟩
def ty13 : TI := ⟨.struct [(0, 9), (1, 12)], 2, 24, .agg [.str [], .int .u64 0]⟩
def ty14 : TI := ⟨.struct [(0, 9), (1, 12)], 2, 24, .agg [.str [], .int .u64 0]⟩
def ty15 : TI := ⟨.ptr, 1, 8, .nilp⟩
def ty16 : TI := ⟨.ptr, 1, 8, .nilp⟩
def ty17 : TI := ⟨.ptr, 1, 8, .nilp⟩
def ty18 : TI := ⟨.struct [(0, 17)], 1, 8, .agg [.nilp]⟩
def ty19 : TI := ⟨.struct [(0, 17)], 1, 8, .agg [.nilp]⟩
def ty21 : TI := ⟨.int .i32, 1, 4, .int .i32 0⟩
def ty22 : TI := ⟨.slice 55, 1, 24, .sl 0 true []⟩
def ty23 : TI := ⟨.struct [(0, 22)], 1, 24, .agg [.sl 0 true []]⟩
def ty24 : TI := ⟨.struct [(0, 22)], 1, 24, .agg [.sl 0 true []]⟩
def ty25 : TI := ⟨.func, 1, 8, .nilfn⟩
def ty26 : TI := ⟨.slice 2, 1, 24, .sl 0 true []⟩
def ty28 : TI := ⟨.func, 1, 8, .nilfn⟩
def ty29 : TI := ⟨.slice 60, 1, 24, .sl 0 true []⟩
def ty30 : TI := ⟨.struct [(0, 29)], 1, 24, .agg [.sl 0 true []]⟩
def ty31 : TI := ⟨.struct [(0, 29)], 1, 24, .agg [.sl 0 true []]⟩
def ty32 : TI := ⟨.func, 1, 8, .nilfn⟩
def ty33 : TI := ⟨.func, 1, 8, .nilfn⟩
def ty34 : TI := ⟨.func, 1, 8, .nilfn⟩
def ty35 : TI := ⟨.func, 1, 8, .nilfn⟩
def ty36 : TI := ⟨.func, 1, 8, .nilfn⟩
def ty37 : TI := ⟨.func, 1, 8, .nilfn⟩
def ty38 : TI := ⟨.func, 1, 8, .nilfn⟩
def ty39 : TI := ⟨.func, 1, 8, .nilfn⟩
def ty40 : TI := ⟨.ptr, 1, 8, .nilp⟩
def ty41 : TI := ⟨.func, 1, 8, .nilfn⟩
def ty42 : TI := ⟨.func, 1, 8, .nilfn⟩
def ty43 : TI := ⟨.func, 1, 8, .nilfn⟩
def ty44 : TI := ⟨.func, 1, 8, .nilfn⟩
def ty46 : TI := ⟨.func, 1, 8, .nilfn⟩
def ty47 : TI := ⟨.func, 1, 8, .nilfn⟩
def ty48 : TI := ⟨.slice 9, 1, 24, .sl 0 true []⟩
def ty49 : TI := ⟨.func, 1, 8, .nilfn⟩
def ty50 : TI := ⟨.func, 1, 8, .nilfn⟩
def ty51 : TI := ⟨.func, 1, 8, .nilfn⟩
def ty52 : TI := ⟨.func, 1, 8, .nilfn⟩
def ty53 : TI := ⟨.slice 102, 1, 24, .sl 0 true []⟩
def ty54 : TI := ⟨.struct [(0, 2), (1, 53)], 2, 32, .agg [.int .i64 0, .sl 0 true []]⟩
def ty55 : TI := ⟨.struct [(0, 2), (1, 53)], 2, 32, .agg [.int .i64 0, .sl 0 true []]⟩
def ty56 : TI := ⟨.func, 1, 8, .nilfn⟩
def ty57 : TI := ⟨.ptr, 1, 8, .nilp⟩
def ty58 : TI := ⟨.slice 63, 1, 24, .sl 0 true []⟩
def ty59 : TI := ⟨.struct [(0, 2), (1, 58)], 2, 32, .agg [.int .i64 0, .sl 0 true []]⟩
def ty60 : TI := ⟨.struct [(0, 2), (1, 58)], 2, 32, .agg [.int .i64 0, .sl 0 true []]⟩
def ty61 : TI := ⟨.ptr, 1, 8, .nilp⟩
def ty62 : TI := ⟨.struct [(0, 2), (1, 2), (2, 9), (3, 2)], 4, 40, .agg [.int .i64 0, .int .i64 0, .str [], .int .i64 0]⟩
def ty63 : TI := ⟨.struct [(0, 2), (1, 2), (2, 9), (3, 2)], 4, 40, .agg [.int .i64 0, .int .i64 0, .str [], .int .i64 0]⟩
def ty64 : TI := ⟨.func, 1, 8, .nilfn⟩
def ty65 : TI := ⟨.func, 1, 8, .nilfn⟩
def ty66 : TI := ⟨.func, 1, 8, .nilfn⟩
def ty67 : TI := ⟨.func, 1, 8, .nilfn⟩
def ty68 : TI := ⟨.func, 1, 8, .nilfn⟩
def ty69 : TI := ⟨.func, 1, 8, .nilfn⟩
def ty70 : TI := ⟨.func, 1, 8, .nilfn⟩
def ty71 : TI := ⟨.func, 1, 8, .nilfn⟩
def ty72 : TI := ⟨.struct [(0, 26), (1, 26), (2, 26), (3, 26), (4, 26)], 5, 120, .agg [.sl 0 true [], .sl 0 true [], .sl 0 true [], .sl 0 true [], .sl 0 true []]⟩
def ty73 : TI := ⟨.struct [(0, 26), (1, 26), (2, 26), (3, 26), (4, 26)], 5, 120, .agg [.sl 0 true [], .sl 0 true [], .sl 0 true [], .sl 0 true [], .sl 0 true []]⟩
def ty74 : TI := ⟨.func, 1, 8, .nilfn⟩
def ty75 : TI := ⟨.func, 1, 8, .nilfn⟩
def ty76 : TI := ⟨.func, 1, 8, .nilfn⟩
def ty77 : TI := ⟨.func, 1, 8, .nilfn⟩
def ty78 : TI := ⟨.func, 1, 8, .nilfn⟩
def ty80 : TI := ⟨.func, 1, 8, .nilfn⟩
def ty81 : TI := ⟨.slice 26, 1, 24, .sl 0 true []⟩
def ty82 : TI := ⟨.struct [(0, 81)], 1, 24, .agg [.sl 0 true []]⟩
def ty83 : TI := ⟨.struct [(0, 81)], 1, 24, .agg [.sl 0 true []]⟩
def ty84 : TI := ⟨.ptr, 1, 8, .nilp⟩
def ty85 : TI := ⟨.func, 1, 8, .nilfn⟩
def ty86 : TI := ⟨.int .u64, 1, 8, .int .u64 0⟩
def ty87 : TI := ⟨.func, 1, 8, .nilfn⟩
def ty88 : TI := ⟨.func, 1, 8, .nilfn⟩
def ty89 : TI := ⟨.func, 1, 8, .nilfn⟩
def ty90 : TI := ⟨.func, 1, 8, .nilfn⟩
def ty91 : TI := ⟨.func, 1, 8, .nilfn⟩
def ty92 : TI := ⟨.func, 1, 8, .nilfn⟩
def ty93 : TI := ⟨.func, 1, 8, .nilfn⟩
def ty94 : TI := ⟨.func, 1, 8, .nilfn⟩
def ty95 : TI := ⟨.func, 1, 8, .nilfn⟩
def ty96 : TI := ⟨.func, 1, 8, .nilfn⟩
def ty97 : TI := ⟨.func, 1, 8, .nilfn⟩
def ty98 : TI := ⟨.func, 1, 8, .nilfn⟩
def ty99 : TI := ⟨.func, 1, 8, .nilfn⟩
def ty100 : TI := ⟨.func, 1, 8, .nilfn⟩
def ty101 : TI := ⟨.func, 1, 8, .nilfn⟩
def ty102 : TI := ⟨.struct [(0, 2), (1, 2), (2, 9), (3, 2)], 4, 40, .agg [.int .i64 0, .int .i64 0, .str [], .int .i64 0]⟩
def ty103 : TI := ⟨.func, 1, 8, .nilfn⟩
def ty104 : TI := ⟨.slice 3, 1, 24, .sl 0 true []⟩
def ty105 : TI := ⟨.func, 1, 8, .nilfn⟩
def ty106 : TI := ⟨.func, 1, 8, .nilfn⟩
def ty107 : TI := ⟨.func, 1, 8, .nilfn⟩
def ty108 : TI := ⟨.func, 1, 8, .nilfn⟩
def ty109 : TI := ⟨.slice 5, 1, 24, .sl 0 true []⟩
def ty110 : TI := ⟨.func, 1, 8, .nilfn⟩
def ty111 : TI := ⟨.struct [(0, 17), (1, 17), (2, 17), (3, 9)], 4, 40, .agg [.nilp, .nilp, .nilp, .str []]⟩
def ty112 : TI := ⟨.struct [(0, 17), (1, 17), (2, 17), (3, 9)], 4, 40, .agg [.nilp, .nilp, .nilp, .str []]⟩
def ty113 : TI := ⟨.array 0 16, 0, 0, .agg []⟩
def ty114 : TI := ⟨.struct [(0, 113)], 0, 0, .agg []⟩
def ty115 : TI := ⟨.struct [(0, 113)], 0, 0, .agg []⟩
def ty116 : TI := ⟨.func, 1, 8, .nilfn⟩
def ty117 : TI := ⟨.int .u32, 1, 4, .int .u32 0⟩
def ty118 : TI := ⟨.int .u8, 1, 1, .int .u8 0⟩
def ty119 : TI := ⟨.int .u8, 1, 1, .int .u8 0⟩
def ty120 : TI := ⟨.func, 1, 8, .nilfn⟩
def ty121 : TI := ⟨.ptr, 1, 8, .nilp⟩
def ty122 : TI := ⟨.int .i32, 1, 4, .int .i32 0⟩
def ty123 : TI := ⟨.int .i32, 1, 4, .int .i32 0⟩
def ty124 : TI := ⟨.struct [(0, 12), (1, 12), (2, 117), (3, 118), (4, 5), (5, 5), (6, 119), (7, 120), (8, 121), (9, 122), (10, 123)], 11, 48, .agg [.int .u64 0, .int .u64 0, .int .u32 0, .int .u8 0, .int .u8 0, .int .u8 0, .int .u8 0, .nilfn, .nilp, .int .i32 0, .int .i32 0]⟩
def ty125 : TI := ⟨.struct [(0, 12), (1, 12), (2, 117), (3, 118), (4, 5), (5, 5), (6, 119), (7, 120), (8, 121), (9, 122), (10, 123)], 11, 48, .agg [.int .u64 0, .int .u64 0, .int .u32 0, .int .u8 0, .int .u8 0, .int .u8 0, .int .u8 0, .nilfn, .nilp, .int .i32 0, .int .i32 0]⟩
def tyT : Tree TI := .node (.node (.node (.node (.node (.node (.node (.leaf) 1 ty1 (.leaf)) 2 ty2 (.node (.leaf) 3 ty3 (.leaf))) 4 ty4 (.node (.node (.leaf) 5 ty5 (.leaf)) 6 ty6 (.node (.leaf) 7 ty7 (.leaf)))) 8 ty8 (.node (.node (.node (.leaf) 9 ty9 (.leaf)) 10 ty10 (.node (.leaf) 11 ty11 (.leaf))) 12 ty12 (.node (.node (.leaf) 13 ty13 (.leaf)) 14 ty14 (.node (.leaf) 15 ty15 (.leaf))))) 16 ty16 (.node (.node (.node (.node (.leaf) 17 ty17 (.leaf)) 18 ty18 (.node (.leaf) 19 ty19 (.leaf))) 21 ty21 (.node (.node (.leaf) 22 ty22 (.leaf)) 23 ty23 (.node (.leaf) 24 ty24 (.leaf)))) 25 ty25 (.node (.node (.node (.leaf) 26 ty26 (.leaf)) 28 ty28 (.node (.leaf) 29 ty29 (.leaf))) 30 ty30 (.node (.node (.leaf) 31 ty31 (.leaf)) 32 ty32 (.leaf))))) 33 ty33 (.node (.node (.node (.node (.node (.leaf) 34 ty34 (.leaf)) 35 ty35 (.node (.leaf) 36 ty36 (.leaf))) 37 ty37 (.node (.node (.leaf) 38 ty38 (.leaf)) 39 ty39 (.node (.leaf) 40 ty40 (.leaf)))) 41 ty41 (.node (.node (.node (.leaf) 42 ty42 (.leaf)) 43 ty43 (.node (.leaf) 44 ty44 (.leaf))) 46 ty46 (.node (.node (.leaf) 47 ty47 (.leaf)) 48 ty48 (.leaf)))) 49 ty49 (.node (.node (.node (.node (.leaf) 50 ty50 (.leaf)) 51 ty51 (.node (.leaf) 52 ty52 (.leaf))) 53 ty53 (.node (.node (.leaf) 54 ty54 (.leaf)) 55 ty55 (.node (.leaf) 56 ty56 (.leaf)))) 57 ty57 (.node (.node (.node (.leaf) 58 ty58 (.leaf)) 59 ty59 (.node (.leaf) 60 ty60 (.leaf))) 61 ty61 (.node (.node (.leaf) 62 ty62 (.leaf)) 63 ty63 (.leaf)))))) 64 ty64 (.node (.node (.node (.node (.node (.node (.leaf) 65 ty65 (.leaf)) 66 ty66 (.node (.leaf) 67 ty67 (.leaf))) 68 ty68 (.node (.node (.leaf) 69 ty69 (.leaf)) 70 ty70 (.node (.leaf) 71 ty71 (.leaf)))) 72 ty72 (.node (.node (.node (.leaf) 73 ty73 (.leaf)) 74 ty74 (.node (.leaf) 75 ty75 (.leaf))) 76 ty76 (.node (.node (.leaf) 77 ty77 (.leaf)) 78 ty78 (.node (.leaf) 80 ty80 (.leaf))))) 81 ty81 (.node (.node (.node (.node (.leaf) 82 ty82 (.leaf)) 83 ty83 (.node (.leaf) 84 ty84 (.leaf))) 85 ty85 (.node (.node (.leaf) 86 ty86 (.leaf)) 87 ty87 (.node (.leaf) 88 ty88 (.leaf)))) 89 ty89 (.node (.node (.node (.leaf) 90 ty90 (.leaf)) 91 ty91 (.node (.leaf) 92 ty92 (.leaf))) 93 ty93 (.node (.node (.leaf) 94 ty94 (.leaf)) 95 ty95 (.leaf))))) 96 ty96 (.node (.node (.node (.node (.node (.leaf) 97 ty97 (.leaf)) 98 ty98 (.node (.leaf) 99 ty99 (.leaf))) 100 ty100 (.node (.node (.leaf) 101 ty101 (.leaf)) 102 ty102 (.node (.leaf) 103 ty103 (.leaf)))) 104 ty104 (.node (.node (.node (.leaf) 105 ty105 (.leaf)) 106 ty106 (.node (.leaf) 107 ty107 (.leaf))) 108 ty108 (.node (.node (.leaf) 109 ty109 (.leaf)) 110 ty110 (.leaf)))) 111 ty111 (.node (.node (.node (.node (.leaf) 112 ty112 (.leaf)) 113 ty113 (.node (.leaf) 114 ty114 (.leaf))) 115 ty115 (.node (.node (.leaf) 116 ty116 (.leaf)) 117 ty117 (.node (.leaf) 118 ty118 (.leaf)))) 119 ty119 (.node (.node (.node (.leaf) 120 ty120 (.leaf)) 121 ty121 (.node (.leaf) 122 ty122 (.leaf))) 123 ty123 (.node (.node (.leaf) 124 ty124 (.leaf)) 125 ty125 (.leaf))))))
theorem tyOk : tyT.all (tyB Try.prog) = true := by kernel_rfl
/-- laws.FnExactRunOfWord -/
noncomputable def fi3 : FI := fiOf Try.f3 [] [] [] false 0 [32, 36, 55, 71]
theorem ok3 : FnOk Try.prog drawOk 3 fi3 := .of Try.func3 (by kernel_rfl) (by kernel_rfl) (by kernel_rfl)
/-- laws.szProgram -/
noncomputable def fi4 : FI := fiOf Try.f4 [] [] [] false
theorem ok4 : FnOk Try.prog drawOk 4 fi4 := .of Try.func4 (by kernel_rfl) (by kernel_rfl) (by kernel_rfl)
/-- spec.RunOfWord -/
noncomputable def fi5 : FI := fiOf Try.f5 [] [] [] false
theorem ok5 : FnOk Try.prog drawOk 5 fi5 := .of Try.func5 (by kernel_rfl) (by kernel_rfl) (by kernel_rfl)
/-- laws.toProgram -/
noncomputable def fi6 : FI := fiOf Try.f6 [] [(3, 1)] [] false
theorem ok6 : FnOk Try.prog drawOk 6 fi6 := .of Try.func6 (by kernel_rfl) (by kernel_rfl) (by kernel_rfl)
/-- impl.RunOfWord -/
noncomputable def fi7 : FI := fiOf Try.f7 [] [] [] false
theorem ok7 : FnOk Try.prog drawOk 7 fi7 := .of Try.func7 (by kernel_rfl) (by kernel_rfl) (by kernel_rfl)
/-- laws.eqInt64S -/
noncomputable def fi8 : FI := fiOf Try.f8 [] [] [] false 1
theorem ok8 : FnOk Try.prog drawOk 8 fi8 := .of Try.func8 (by kernel_rfl) (by kernel_rfl) (by kernel_rfl)
/-- laws.eqProgram -/
noncomputable def fi9 : FI := fiOf Try.f9 [] [] [] false 1
theorem ok9 : FnOk Try.prog drawOk 9 fi9 := .of Try.func9 (by kernel_rfl) (by kernel_rfl) (by kernel_rfl)
/-- laws.heldInt64S -/
noncomputable def fi12 : FI := fiOf Try.f12 [] [] [] false 1
theorem ok12 : FnOk Try.prog drawOk 12 fi12 := .of Try.func12 (by kernel_rfl) (by kernel_rfl) (by kernel_rfl)
/-- laws.szModuleS -/
noncomputable def fi13 : FI := fiOf Try.f13 [] [] [] false
theorem ok13 : FnOk Try.prog drawOk 13 fi13 := .of Try.func13 (by kernel_rfl) (by kernel_rfl) (by kernel_rfl)
/-- spec.l07Ok -/
noncomputable def fi14 : FI := fiOf Try.f14 [] [] [] false
theorem ok14 : FnOk Try.prog drawOk 14 fi14 := .of Try.func14 (by kernel_rfl) (by kernel_rfl) (by kernel_rfl)
/-- spec.l01Ok -/
noncomputable def fi15 : FI := fiOf Try.f15 [] [] [] false
theorem ok15 : FnOk Try.prog drawOk 15 fi15 := .of Try.func15 (by kernel_rfl) (by kernel_rfl) (by kernel_rfl)
/-- spec.l07Takes -/
noncomputable def fi16 : FI := fiOf Try.f16 [] [] [] false
theorem ok16 : FnOk Try.prog drawOk 16 fi16 := .of Try.func16 (by kernel_rfl) (by kernel_rfl) (by kernel_rfl)
/-- spec.l07Trace -/
noncomputable def fi17 : FI := fiOf Try.f17 [80, 113, 117, 128] [] [] false
theorem ok17 : FnOk Try.prog drawOk 17 fi17 := .of Try.func17 (by kernel_rfl) (by kernel_rfl) (by kernel_rfl)
/-- laws.toModuleS -/
noncomputable def fi18 : FI := fiOf Try.f18 [] [] [] false
theorem ok18 : FnOk Try.prog drawOk 18 fi18 := .of Try.func18 (by kernel_rfl) (by kernel_rfl) (by kernel_rfl)
/-- impl.ProgramTakes -/
noncomputable def fi19 : FI := fiOf Try.f19 [] [] [] false
theorem ok19 : FnOk Try.prog drawOk 19 fi19 := .of Try.func19 (by kernel_rfl) (by kernel_rfl) (by kernel_rfl)
/-- (impl.Program).trail -/
noncomputable def fi20 : FI := fiOf Try.f20 [64, 74] [] [] false
theorem ok20 : FnOk Try.prog drawOk 20 fi20 := .of Try.func20 (by kernel_rfl) (by kernel_rfl) (by kernel_rfl)
/-- impl.factors -/
noncomputable def fi21 : FI := fiOf Try.f21 [21] [] [] false
theorem ok21 : FnOk Try.prog drawOk 21 fi21 := .of Try.func21 (by kernel_rfl) (by kernel_rfl) (by kernel_rfl)
/-- laws.eqModuleS -/
noncomputable def fi22 : FI := fiOf Try.f22 [] [] [] false 1
theorem ok22 : FnOk Try.prog drawOk 22 fi22 := .of Try.func22 (by kernel_rfl) (by kernel_rfl) (by kernel_rfl)
/-- laws.szModule -/
noncomputable def fi24 : FI := fiOf Try.f24 [] [] [] false
theorem ok24 : FnOk Try.prog drawOk 24 fi24 := .of Try.func24 (by kernel_rfl) (by kernel_rfl) (by kernel_rfl)
/-- spec.l00In -/
noncomputable def fi25 : FI := fiOf Try.f25 [] [] [] false
theorem ok25 : FnOk Try.prog drawOk 25 fi25 := .of Try.func25 (by kernel_rfl) (by kernel_rfl) (by kernel_rfl)
/-- spec.l06Brackets -/
noncomputable def fi26 : FI := fiOf Try.f26 [] [] [] false
theorem ok26 : FnOk Try.prog drawOk 26 fi26 := .of Try.func26 (by kernel_rfl) (by kernel_rfl) (by kernel_rfl)
/-- spec.l07Inner -/
noncomputable def fi27 : FI := fiOf Try.f27 [] [] [] false
theorem ok27 : FnOk Try.prog drawOk 27 fi27 := .of Try.func27 (by kernel_rfl) (by kernel_rfl) (by kernel_rfl)
/-- spec.l01Symbol -/
noncomputable def fi28 : FI := fiOf Try.f28 [] [] [] false
theorem ok28 : FnOk Try.prog drawOk 28 fi28 := .of Try.func28 (by kernel_rfl) (by kernel_rfl) (by kernel_rfl)
/-- spec.l01Matched -/
noncomputable def fi29 : FI := fiOf Try.f29 [] [] [] false
theorem ok29 : FnOk Try.prog drawOk 29 fi29 := .of Try.func29 (by kernel_rfl) (by kernel_rfl) (by kernel_rfl)
/-- spec.l07Ends -/
noncomputable def fi30 : FI := fiOf Try.f30 [] [] [] false
theorem ok30 : FnOk Try.prog drawOk 30 fi30 := .of Try.func30 (by kernel_rfl) (by kernel_rfl) (by kernel_rfl)
/-- spec.l01Factors -/
noncomputable def fi31 : FI := fiOf Try.f31 [25] [] [] false
theorem ok31 : FnOk Try.prog drawOk 31 fi31 := .of Try.func31 (by kernel_rfl) (by kernel_rfl) (by kernel_rfl)
/-- laws.toModule -/
noncomputable def fi32 : FI := fiOf Try.f32 [] [(3, 1)] [] false
theorem ok32 : FnOk Try.prog drawOk 32 fi32 := .of Try.func32 (by kernel_rfl) (by kernel_rfl) (by kernel_rfl)
/-- impl.ValidProgram -/
noncomputable def fi33 : FI := fiOf Try.f33 [] [] [] false
theorem ok33 : FnOk Try.prog drawOk 33 fi33 := .of Try.func33 (by kernel_rfl) (by kernel_rfl) (by kernel_rfl)
/-- impl.ValidWord -/
noncomputable def fi34 : FI := fiOf Try.f34 [] [] [] false
theorem ok34 : FnOk Try.prog drawOk 34 fi34 := .of Try.func34 (by kernel_rfl) (by kernel_rfl) (by kernel_rfl)
/-- impl.isMatched -/
noncomputable def fi35 : FI := fiOf Try.f35 [] [] [] false
theorem ok35 : FnOk Try.prog drawOk 35 fi35 := .of Try.func35 (by kernel_rfl) (by kernel_rfl) (by kernel_rfl)
/-- (impl.Program).can -/
noncomputable def fi36 : FI := fiOf Try.f36 [] [] [] false
theorem ok36 : FnOk Try.prog drawOk 36 fi36 := .of Try.func36 (by kernel_rfl) (by kernel_rfl) (by kernel_rfl)
/-- (impl.Program).matches -/
noncomputable def fi37 : FI := fiOf Try.f37 [] [] [] false
theorem ok37 : FnOk Try.prog drawOk 37 fi37 := .of Try.func37 (by kernel_rfl) (by kernel_rfl) (by kernel_rfl)
/-- (impl.Link).isCallLink -/
noncomputable def fi38 : FI := fiOf Try.f38 [] [] [] false
theorem ok38 : FnOk Try.prog drawOk 38 fi38 := .of Try.func38 (by kernel_rfl) (by kernel_rfl) (by kernel_rfl)
/-- impl.match -/
noncomputable def fi39 : FI := fiOf Try.f39 [31, 85, 92] [(3, 1)] [77, 83] false
theorem ok39 : FnOk Try.prog drawOk 39 fi39 := .of Try.func39 (by kernel_rfl) (by kernel_rfl) (by kernel_rfl)
/-- laws.eqModule -/
noncomputable def fi40 : FI := fiOf Try.f40 [] [] [] false 1
theorem ok40 : FnOk Try.prog drawOk 40 fi40 := .of Try.func40 (by kernel_rfl) (by kernel_rfl) (by kernel_rfl)
/-- laws.szLinkS -/
noncomputable def fi42 : FI := fiOf Try.f42 [] [] [] false
theorem ok42 : FnOk Try.prog drawOk 42 fi42 := .of Try.func42 (by kernel_rfl) (by kernel_rfl) (by kernel_rfl)
/-- spec.l01Call -/
noncomputable def fi43 : FI := fiOf Try.f43 [] [] [] false
theorem ok43 : FnOk Try.prog drawOk 43 fi43 := .of Try.func43 (by kernel_rfl) (by kernel_rfl) (by kernel_rfl)
/-- spec.l01Return -/
noncomputable def fi44 : FI := fiOf Try.f44 [] [] [] false
theorem ok44 : FnOk Try.prog drawOk 44 fi44 := .of Try.func44 (by kernel_rfl) (by kernel_rfl) (by kernel_rfl)
/-- spec.l01Pending -/
noncomputable def fi45 : FI := fiOf Try.f45 [] [] [] false
theorem ok45 : FnOk Try.prog drawOk 45 fi45 := .of Try.func45 (by kernel_rfl) (by kernel_rfl) (by kernel_rfl)
/-- spec.l07Of -/
noncomputable def fi46 : FI := fiOf Try.f46 [94, 102] [(32, 1)] [] false 0 [] [(4, 5)]
theorem ok46 : FnOk Try.prog drawOk 46 fi46 := .of Try.func46 (by kernel_rfl) (by kernel_rfl) (by kernel_rfl)
/-- spec.l07Exit -/
noncomputable def fi47 : FI := fiOf Try.f47 [] [] [] false
theorem ok47 : FnOk Try.prog drawOk 47 fi47 := .of Try.func47 (by kernel_rfl) (by kernel_rfl) (by kernel_rfl)
/-- spec.l01Partners -/
noncomputable def fi48 : FI := fiOf Try.f48 [] [] [17, 25, 29, 58, 66] false
theorem ok48 : FnOk Try.prog drawOk 48 fi48 := .of Try.func48 (by kernel_rfl) (by kernel_rfl) (by kernel_rfl)
/-- laws.toLinkS -/
noncomputable def fi49 : FI := fiOf Try.f49 [] [] [] false
theorem ok49 : FnOk Try.prog drawOk 49 fi49 := .of Try.func49 (by kernel_rfl) (by kernel_rfl) (by kernel_rfl)
/-- impl.size[impl.Module] -/
noncomputable def fi50 : FI := fiOf Try.f50 [] [] [] false
theorem ok50 : FnOk Try.prog drawOk 50 fi50 := .of Try.func50 (by kernel_rfl) (by kernel_rfl) (by kernel_rfl)
/-- impl.within -/
noncomputable def fi51 : FI := fiOf Try.f51 [] [] [] false
theorem ok51 : FnOk Try.prog drawOk 51 fi51 := .of Try.func51 (by kernel_rfl) (by kernel_rfl) (by kernel_rfl)
/-- slices.ContainsFunc[[]impl.Module,impl.Module] -/
noncomputable def fi52 : FI := fiOf Try.f52 [] [] [] false
theorem ok52 : FnOk Try.prog drawOk 52 fi52 := .of Try.func52 (by kernel_rfl) (by kernel_rfl) (by kernel_rfl)
/-- impl.ValidProgram$1 -/
noncomputable def fi53 : FI := fiOf Try.f53 [] [] [] false
theorem ok53 : FnOk Try.prog drawOk 53 fi53 := .of Try.func53 (by kernel_rfl) (by kernel_rfl) (by kernel_rfl)
/-- slices.ContainsFunc[[]impl.Link,impl.Link] -/
noncomputable def fi54 : FI := fiOf Try.f54 [] [] [] false
theorem ok54 : FnOk Try.prog drawOk 54 fi54 := .of Try.func54 (by kernel_rfl) (by kernel_rfl) (by kernel_rfl)
/-- impl.ValidProgram$1$1 -/
noncomputable def fi55 : FI := fiOf Try.f55 [] [] [] false
theorem ok55 : FnOk Try.prog drawOk 55 fi55 := .of Try.func55 (by kernel_rfl) (by kernel_rfl) (by kernel_rfl)
/-- impl.isBrackets -/
noncomputable def fi56 : FI := fiOf Try.f56 [] [] [] false
theorem ok56 : FnOk Try.prog drawOk 56 fi56 := .of Try.func56 (by kernel_rfl) (by kernel_rfl) (by kernel_rfl)
/-- impl.isLetter -/
noncomputable def fi57 : FI := fiOf Try.f57 [] [] [] false
theorem ok57 : FnOk Try.prog drawOk 57 fi57 := .of Try.func57 (by kernel_rfl) (by kernel_rfl) (by kernel_rfl)
/-- strings.IndexByte -/
noncomputable def fi58 : FI := fiOf Try.f58 [] [] [] false
theorem ok58 : FnOk Try.prog drawOk 58 fi58 := .of Try.func58 (by kernel_rfl) (by kernel_rfl) (by kernel_rfl)
/-- (impl.Program).after -/
noncomputable def fi59 : FI := fiOf Try.f59 [] [] [] false
theorem ok59 : FnOk Try.prog drawOk 59 fi59 := .of Try.func59 (by kernel_rfl) (by kernel_rfl) (by kernel_rfl)
/-- (impl.Program).exit -/
noncomputable def fi60 : FI := fiOf Try.f60 [] [] [] false
theorem ok60 : FnOk Try.prog drawOk 60 fi60 := .of Try.func60 (by kernel_rfl) (by kernel_rfl) (by kernel_rfl)
/-- impl.isReturn -/
noncomputable def fi61 : FI := fiOf Try.f61 [] [] [] false
theorem ok61 : FnOk Try.prog drawOk 61 fi61 := .of Try.func61 (by kernel_rfl) (by kernel_rfl) (by kernel_rfl)
/-- impl.isCall -/
noncomputable def fi62 : FI := fiOf Try.f62 [] [] [] false
theorem ok62 : FnOk Try.prog drawOk 62 fi62 := .of Try.func62 (by kernel_rfl) (by kernel_rfl) (by kernel_rfl)
/-- impl.size[int64] -/
noncomputable def fi63 : FI := fiOf Try.f63 [] [] [] false
theorem ok63 : FnOk Try.prog drawOk 63 fi63 := .of Try.func63 (by kernel_rfl) (by kernel_rfl) (by kernel_rfl)
/-- laws.eqLinkS -/
noncomputable def fi64 : FI := fiOf Try.f64 [] [] [] false 1
theorem ok64 : FnOk Try.prog drawOk 64 fi64 := .of Try.func64 (by kernel_rfl) (by kernel_rfl) (by kernel_rfl)
/-- laws.markText -/
noncomputable def fi65 : FI := fiOf Try.f65 [] [] [] false
theorem ok65 : FnOk Try.prog drawOk 65 fi65 := .of Try.func65 (by kernel_rfl) (by kernel_rfl) (by kernel_rfl)
/-- laws.szLink -/
noncomputable def fi66 : FI := fiOf Try.f66 [] [] [] false
theorem ok66 : FnOk Try.prog drawOk 66 fi66 := .of Try.func66 (by kernel_rfl) (by kernel_rfl) (by kernel_rfl)
/-- spec.l07None -/
noncomputable def fi67 : FI := fiOf Try.f67 [31, 41] [(8, 1)] [] false
theorem ok67 : FnOk Try.prog drawOk 67 fi67 := .of Try.func67 (by kernel_rfl) (by kernel_rfl) (by kernel_rfl)
/-- spec.l07Factor -/
noncomputable def fi68 : FI := fiOf Try.f68 [] [(13, 1)] [145] false
theorem ok68 : FnOk Try.prog drawOk 68 fi68 := .of Try.func68 (by kernel_rfl) (by kernel_rfl) (by kernel_rfl)
/-- laws.toLink -/
noncomputable def fi69 : FI := fiOf Try.f69 [] [(3, 1)] [] false
theorem ok69 : FnOk Try.prog drawOk 69 fi69 := .of Try.func69 (by kernel_rfl) (by kernel_rfl) (by kernel_rfl)
/-- slices.IndexFunc[[]impl.Module,impl.Module] -/
noncomputable def fi70 : FI := fiOf Try.f70 [] [] [] false
theorem ok70 : FnOk Try.prog drawOk 70 fi70 := .of Try.func70 (by kernel_rfl) (by kernel_rfl) (by kernel_rfl)
/-- slices.IndexFunc[[]impl.Link,impl.Link] -/
noncomputable def fi71 : FI := fiOf Try.f71 [] [] [] false
theorem ok71 : FnOk Try.prog drawOk 71 fi71 := .of Try.func71 (by kernel_rfl) (by kernel_rfl) (by kernel_rfl)
/-- internal/stringslite.IndexByte -/
noncomputable def fi72 : FI := fiOf Try.f72 [] [] [] false
theorem ok72 : FnOk Try.prog drawOk 72 fi72 := .of Try.func72 (by kernel_rfl) (by kernel_rfl) (by kernel_rfl)
/-- laws.eqLink -/
noncomputable def fi73 : FI := fiOf Try.f73 [] [] [] false 1
theorem ok73 : FnOk Try.prog drawOk 73 fi73 := .of Try.func73 (by kernel_rfl) (by kernel_rfl) (by kernel_rfl)
noncomputable def fnT : Tree FI := .node (.node (.node (.node (.node (.node (.node (.leaf) 3 fi3 (.leaf)) 4 fi4 (.leaf)) 5 fi5 (.node (.leaf) 6 fi6 (.leaf))) 7 fi7 (.node (.node (.leaf) 8 fi8 (.leaf)) 9 fi9 (.node (.leaf) 12 fi12 (.leaf)))) 13 fi13 (.node (.node (.node (.leaf) 14 fi14 (.leaf)) 15 fi15 (.node (.leaf) 16 fi16 (.leaf))) 17 fi17 (.node (.node (.leaf) 18 fi18 (.leaf)) 19 fi19 (.node (.leaf) 20 fi20 (.leaf))))) 21 fi21 (.node (.node (.node (.node (.node (.leaf) 22 fi22 (.leaf)) 24 fi24 (.leaf)) 25 fi25 (.node (.leaf) 26 fi26 (.leaf))) 27 fi27 (.node (.node (.leaf) 28 fi28 (.leaf)) 29 fi29 (.node (.leaf) 30 fi30 (.leaf)))) 31 fi31 (.node (.node (.node (.leaf) 32 fi32 (.leaf)) 33 fi33 (.node (.leaf) 34 fi34 (.leaf))) 35 fi35 (.node (.node (.leaf) 36 fi36 (.leaf)) 37 fi37 (.node (.leaf) 38 fi38 (.leaf)))))) 39 fi39 (.node (.node (.node (.node (.node (.node (.leaf) 40 fi40 (.leaf)) 42 fi42 (.leaf)) 43 fi43 (.node (.leaf) 44 fi44 (.leaf))) 45 fi45 (.node (.node (.leaf) 46 fi46 (.leaf)) 47 fi47 (.node (.leaf) 48 fi48 (.leaf)))) 49 fi49 (.node (.node (.node (.leaf) 50 fi50 (.leaf)) 51 fi51 (.node (.leaf) 52 fi52 (.leaf))) 53 fi53 (.node (.node (.leaf) 54 fi54 (.leaf)) 55 fi55 (.node (.leaf) 56 fi56 (.leaf))))) 57 fi57 (.node (.node (.node (.node (.node (.leaf) 58 fi58 (.leaf)) 59 fi59 (.leaf)) 60 fi60 (.node (.leaf) 61 fi61 (.leaf))) 62 fi62 (.node (.node (.leaf) 63 fi63 (.leaf)) 64 fi64 (.node (.leaf) 65 fi65 (.leaf)))) 66 fi66 (.node (.node (.node (.leaf) 67 fi67 (.leaf)) 68 fi68 (.node (.leaf) 69 fi69 (.leaf))) 70 fi70 (.node (.node (.leaf) 71 fi71 (.leaf)) 72 fi72 (.node (.leaf) 73 fi73 (.leaf))))))
theorem fnOk : fnT.Each (FnOk Try.prog drawOk) := ⟨ok39, ⟨ok21, ⟨ok13, ⟨ok7, ⟨ok5, ⟨ok4, ⟨ok3, trivial, trivial⟩, trivial⟩, ⟨ok6, trivial, trivial⟩⟩, ⟨ok9, ⟨ok8, trivial, trivial⟩, ⟨ok12, trivial, trivial⟩⟩⟩, ⟨ok17, ⟨ok15, ⟨ok14, trivial, trivial⟩, ⟨ok16, trivial, trivial⟩⟩, ⟨ok19, ⟨ok18, trivial, trivial⟩, ⟨ok20, trivial, trivial⟩⟩⟩⟩, ⟨ok31, ⟨ok27, ⟨ok25, ⟨ok24, ⟨ok22, trivial, trivial⟩, trivial⟩, ⟨ok26, trivial, trivial⟩⟩, ⟨ok29, ⟨ok28, trivial, trivial⟩, ⟨ok30, trivial, trivial⟩⟩⟩, ⟨ok35, ⟨ok33, ⟨ok32, trivial, trivial⟩, ⟨ok34, trivial, trivial⟩⟩, ⟨ok37, ⟨ok36, trivial, trivial⟩, ⟨ok38, trivial, trivial⟩⟩⟩⟩⟩, ⟨ok57, ⟨ok49, ⟨ok45, ⟨ok43, ⟨ok42, ⟨ok40, trivial, trivial⟩, trivial⟩, ⟨ok44, trivial, trivial⟩⟩, ⟨ok47, ⟨ok46, trivial, trivial⟩, ⟨ok48, trivial, trivial⟩⟩⟩, ⟨ok53, ⟨ok51, ⟨ok50, trivial, trivial⟩, ⟨ok52, trivial, trivial⟩⟩, ⟨ok55, ⟨ok54, trivial, trivial⟩, ⟨ok56, trivial, trivial⟩⟩⟩⟩, ⟨ok66, ⟨ok62, ⟨ok60, ⟨ok59, ⟨ok58, trivial, trivial⟩, trivial⟩, ⟨ok61, trivial, trivial⟩⟩, ⟨ok64, ⟨ok63, trivial, trivial⟩, ⟨ok65, trivial, trivial⟩⟩⟩, ⟨ok70, ⟨ok68, ⟨ok67, trivial, trivial⟩, ⟨ok69, trivial, trivial⟩⟩, ⟨ok72, ⟨ok71, trivial, trivial⟩, ⟨ok73, trivial, trivial⟩⟩⟩⟩⟩⟩
/-- laws.toProgram -/
noncomputable def fiK6 : FI := fiOf Try.f6 [] [(3, 1)] [] true 0 [6]
theorem okK6 : FnOk Try.prog drawOk 6 fiK6 := .of Try.func6 (by kernel_rfl) (by kernel_rfl) (by kernel_rfl)
/-- impl.RunOfWord -/
noncomputable def fiK7 : FI := fiOf Try.f7 [] [] [] true 1 [26] [] [26]
theorem okK7 : FnOk Try.prog drawOk 7 fiK7 := .of Try.func7 (by kernel_rfl) (by kernel_rfl) (by kernel_rfl)
/-- laws.markProgram -/
noncomputable def fiK10 : FI := fiOf Try.f10 [] [] [] true 0 [8]
theorem okK10 : FnOk Try.prog drawOk 10 fiK10 := .of Try.func10 (by kernel_rfl) (by kernel_rfl) (by kernel_rfl)
/-- laws.markInt64S -/
noncomputable def fiK11 : FI := fiOf Try.f11 [] [] [] true
theorem okK11 : FnOk Try.prog drawOk 11 fiK11 := .of Try.func11 (by kernel_rfl) (by kernel_rfl) (by kernel_rfl)
/-- laws.toModuleS -/
noncomputable def fiK18 : FI := fiOf Try.f18 [] [] [] true 0 [20]
theorem okK18 : FnOk Try.prog drawOk 18 fiK18 := .of Try.func18 (by kernel_rfl) (by kernel_rfl) (by kernel_rfl)
/-- (impl.Program).trail -/
noncomputable def fiK20 : FI := fiOf Try.f20 [] [] [52, 71, 73, 82] true
theorem okK20 : FnOk Try.prog drawOk 20 fiK20 := .of Try.func20 (by kernel_rfl) (by kernel_rfl) (by kernel_rfl)
/-- laws.markModuleS -/
noncomputable def fiK23 : FI := fiOf Try.f23 [] [] [] true 0 [25]
theorem okK23 : FnOk Try.prog drawOk 23 fiK23 := .of Try.func23 (by kernel_rfl) (by kernel_rfl) (by kernel_rfl)
/-- laws.toModule -/
noncomputable def fiK32 : FI := fiOf Try.f32 [] [(3, 1)] [] true 0 [9]
theorem okK32 : FnOk Try.prog drawOk 32 fiK32 := .of Try.func32 (by kernel_rfl) (by kernel_rfl) (by kernel_rfl)
/-- laws.markLinkS -/
noncomputable def fiK41 : FI := fiOf Try.f41 [] [] [] true
theorem okK41 : FnOk Try.prog drawOk 41 fiK41 := .of Try.func41 (by kernel_rfl) (by kernel_rfl) (by kernel_rfl)
/-- laws.toLinkS -/
noncomputable def fiK49 : FI := fiOf Try.f49 [] [] [] true 0 [20]
theorem okK49 : FnOk Try.prog drawOk 49 fiK49 := .of Try.func49 (by kernel_rfl) (by kernel_rfl) (by kernel_rfl)
/-- laws.toLink -/
noncomputable def fiK69 : FI := fiOf Try.f69 [] [(3, 1)] [] true
theorem okK69 : FnOk Try.prog drawOk 69 fiK69 := .of Try.func69 (by kernel_rfl) (by kernel_rfl) (by kernel_rfl)
noncomputable def fnKT : Tree FI := .node (.node (.node (.node (.leaf) 6 fiK6 (.leaf)) 7 fiK7 (.leaf)) 10 fiK10 (.node (.node (.leaf) 11 fiK11 (.leaf)) 18 fiK18 (.leaf))) 20 fiK20 (.node (.node (.node (.leaf) 23 fiK23 (.leaf)) 32 fiK32 (.leaf)) 41 fiK41 (.node (.node (.leaf) 49 fiK49 (.leaf)) 69 fiK69 (.leaf)))
theorem fnKOk : fnKT.Each (FnOk Try.prog drawOk) := ⟨okK20, ⟨okK10, ⟨okK7, ⟨okK6, trivial, trivial⟩, trivial⟩, ⟨okK18, ⟨okK11, trivial, trivial⟩, trivial⟩⟩, ⟨okK41, ⟨okK32, ⟨okK23, trivial, trivial⟩, trivial⟩, ⟨okK69, ⟨okK49, trivial, trivial⟩, trivial⟩⟩⟩
end Go.Proofs.Ythnilfmdmaebfaa.law
