/- The evaluator's tables of types and functions of this seat. -/
import Derived.Test.YtchahpmelikoaaaAe2
import Derived.Test.YtchahpmelikoaaaProg
import Derived.KernelRfl
set_option linter.unusedVariables false
set_option linter.unusedSimpArgs false
namespace Go.Proofs.Ytchahpmelikoaaa.law
open Go Go.Proofs Ae

def ty1 : TI := ⟨.func, 1, 8, .nilfn⟩
def ty2 : TI := ⟨.int .i64, 1, 8, .int .i64 0⟩
def ty3 : TI := ⟨.int .i64, 1, 8, .int .i64 0⟩
def ty4 : TI := ⟨.bool, 1, 1, .bool false⟩
def ty5 : TI := ⟨.int .u8, 1, 1, .int .u8 0⟩
def ty6 : TI := ⟨.int .u8, 1, 1, .int .u8 0⟩
def ty7 : TI := ⟨.struct [(0, 2), (1, 3), (2, 4), (3, 6)], 4, 24, .agg [.int .i64 0, .int .i64 0, .bool false, .int .u8 0]⟩
def ty8 : TI := ⟨.struct [(0, 2), (1, 3), (2, 4), (3, 6)], 4, 24, .agg [.int .i64 0, .int .i64 0, .bool false, .int .u8 0]⟩
def ty9 : TI := ⟨.str, 1, 16, .str []⟩
def ty10 : TI := ⟨.str, 1, 16, .str []⟩
def ty11 : TI := ⟨.str, 1, 16, .str []⟩
def ty12 : TI := ⟨.int .u64, 1, 8, .int .u64 0⟩
def ty13 : TI := ⟨.struct [(0, 9), (1, 12)], 2, 24, .agg [.str [], .int .u64 0]⟩
def ty14 : TI := ⟨.struct [(0, 9), (1, 12)], 2, 24, .agg [.str [], .int .u64 0]⟩
def ty15 : TI := ⟨.ptr, 1, 8, .nilp⟩
def ty16 : TI := ⟨.ptr, 1, 8, .nilp⟩
def ty17 : TI := ⟨.ptr, 1, 8, .nilp⟩
def ty18 : TI := ⟨.struct [(0, 17)], 1, 8, .agg [.nilp]⟩
def ty19 : TI := ⟨.struct [(0, 17)], 1, 8, .agg [.nilp]⟩
def ty21 : TI := ⟨.int .i32, 1, 4, .int .i32 0⟩
def ty22 : TI := ⟨.slice 4, 1, 24, .sl 0 true []⟩
def ty23 : TI := ⟨.slice 77, 1, 24, .sl 0 true []⟩
def ty24 : TI := ⟨.slice 25, 1, 24, .sl 0 true []⟩
def ty25 : TI := ⟨.slice 79, 1, 24, .sl 0 true []⟩
def ty26 : TI := ⟨.struct [(0, 2), (1, 2), (2, 22), (3, 23), (4, 24), (5, 25)], 6, 112, .agg [.int .i64 0, .int .i64 0, .sl 0 true [], .sl 0 true [], .sl 0 true [], .sl 0 true []]⟩
def ty27 : TI := ⟨.struct [(0, 2), (1, 2), (2, 22), (3, 23), (4, 24), (5, 25)], 6, 112, .agg [.int .i64 0, .int .i64 0, .sl 0 true [], .sl 0 true [], .sl 0 true [], .sl 0 true []]⟩
def ty28 : TI := ⟨.slice 51, 1, 24, .sl 0 true []⟩
def ty29 : TI := ⟨.func, 1, 8, .nilfn⟩
def ty30 : TI := ⟨.func, 1, 8, .nilfn⟩
def ty32 : TI := ⟨.func, 1, 8, .nilfn⟩
def ty33 : TI := ⟨.slice 81, 1, 24, .sl 0 true []⟩
def ty34 : TI := ⟨.struct [(0, 2), (1, 2), (2, 22), (3, 33), (4, 24), (5, 25)], 6, 112, .agg [.int .i64 0, .int .i64 0, .sl 0 true [], .sl 0 true [], .sl 0 true [], .sl 0 true []]⟩
def ty35 : TI := ⟨.struct [(0, 2), (1, 2), (2, 22), (3, 33), (4, 24), (5, 25)], 6, 112, .agg [.int .i64 0, .int .i64 0, .sl 0 true [], .sl 0 true [], .sl 0 true [], .sl 0 true []]⟩
def ty36 : TI := ⟨.func, 1, 8, .nilfn⟩
def ty37 : TI := ⟨.slice 55, 1, 24, .sl 0 true []⟩
def ty38 : TI := ⟨.func, 1, 8, .nilfn⟩
def ty39 : TI := ⟨.func, 1, 8, .nilfn⟩
def ty40 : TI := ⟨.func, 1, 8, .nilfn⟩
def ty41 : TI := ⟨.func, 1, 8, .nilfn⟩
def ty42 : TI := ⟨.func, 1, 8, .nilfn⟩
def ty43 : TI := ⟨.func, 1, 8, .nilfn⟩
def ty44 : TI := ⟨.func, 1, 8, .nilfn⟩
def ty45 : TI := ⟨.func, 1, 8, .nilfn⟩
def ty46 : TI := ⟨.func, 1, 8, .nilfn⟩
def ty47 : TI := ⟨.func, 1, 8, .nilfn⟩
def ty48 : TI := ⟨.func, 1, 8, .nilfn⟩
def ty49 : TI := ⟨.func, 1, 8, .nilfn⟩
def ty50 : TI := ⟨.struct [(0, 9), (1, 9)], 2, 32, .agg [.str [], .str []]⟩
def ty51 : TI := ⟨.struct [(0, 9), (1, 9)], 2, 32, .agg [.str [], .str []]⟩
def ty52 : TI := ⟨.func, 1, 8, .nilfn⟩
def ty53 : TI := ⟨.ptr, 1, 8, .nilp⟩
def ty54 : TI := ⟨.func, 1, 8, .nilfn⟩
def ty55 : TI := ⟨.struct [(0, 9), (1, 9)], 2, 32, .agg [.str [], .str []]⟩
def ty57 : TI := ⟨.func, 1, 8, .nilfn⟩
def ty58 : TI := ⟨.func, 1, 8, .nilfn⟩
def ty59 : TI := ⟨.func, 1, 8, .nilfn⟩
def ty60 : TI := ⟨.func, 1, 8, .nilfn⟩
def ty61 : TI := ⟨.func, 1, 8, .nilfn⟩
def ty62 : TI := ⟨.func, 1, 8, .nilfn⟩
def ty63 : TI := ⟨.func, 1, 8, .nilfn⟩
def ty64 : TI := ⟨.func, 1, 8, .nilfn⟩
def ty65 : TI := ⟨.func, 1, 8, .nilfn⟩
def ty66 : TI := ⟨.ptr, 1, 8, .nilp⟩
def ty67 : TI := ⟨.struct [(0, 35), (6, 4)], 7, 120, .agg [.int .i64 0, .int .i64 0, .sl 0 true [], .sl 0 true [], .sl 0 true [], .sl 0 true [], .bool false]⟩
def ty68 : TI := ⟨.struct [(0, 35), (6, 4)], 7, 120, .agg [.int .i64 0, .int .i64 0, .sl 0 true [], .sl 0 true [], .sl 0 true [], .sl 0 true [], .bool false]⟩
def ty69 : TI := ⟨.func, 1, 8, .nilfn⟩
def ty70 : TI := ⟨.func, 1, 8, .nilfn⟩
def ty71 : TI := ⟨.func, 1, 8, .nilfn⟩
def ty72 : TI := ⟨.func, 1, 8, .nilfn⟩
def ty73 : TI := ⟨.func, 1, 8, .nilfn⟩
def ty74 : TI := ⟨.func, 1, 8, .nilfn⟩
def ty75 : TI := ⟨.func, 1, 8, .nilfn⟩
def ty76 : TI := ⟨.func, 1, 8, .nilfn⟩
def ty77 : TI := ⟨.slice 114, 1, 24, .sl 0 true []⟩
def ty78 : TI := ⟨.func, 1, 8, .nilfn⟩
def ty79 : TI := ⟨.slice 2, 1, 24, .sl 0 true []⟩
def ty80 : TI := ⟨.func, 1, 8, .nilfn⟩
def ty81 : TI := ⟨.slice 84, 1, 24, .sl 0 true []⟩
def ty82 : TI := ⟨.func, 1, 8, .nilfn⟩
def ty83 : TI := ⟨.struct [(0, 2), (1, 2)], 2, 16, .agg [.int .i64 0, .int .i64 0]⟩
def ty84 : TI := ⟨.struct [(0, 2), (1, 2)], 2, 16, .agg [.int .i64 0, .int .i64 0]⟩
def ty85 : TI := ⟨.func, 1, 8, .nilfn⟩
def ty87 : TI := ⟨.func, 1, 8, .nilfn⟩
def ty88 : TI := ⟨.func, 1, 8, .nilfn⟩
def ty89 : TI := ⟨.func, 1, 8, .nilfn⟩
def ty90 : TI := ⟨.func, 1, 8, .nilfn⟩
def ty91 : TI := ⟨.func, 1, 8, .nilfn⟩
def ty92 : TI := ⟨.func, 1, 8, .nilfn⟩
def ty93 : TI := ⟨.func, 1, 8, .nilfn⟩
def ty94 : TI := ⟨.func, 1, 8, .nilfn⟩
def ty95 : TI := ⟨.func, 1, 8, .nilfn⟩
def ty96 : TI := ⟨.func, 1, 8, .nilfn⟩
def ty97 : TI := ⟨.func, 1, 8, .nilfn⟩
def ty98 : TI := ⟨.func, 1, 8, .nilfn⟩
def ty99 : TI := ⟨.func, 1, 8, .nilfn⟩
def ty100 : TI := ⟨.func, 1, 8, .nilfn⟩
def ty101 : TI := ⟨.struct [(0, 79), (1, 79), (2, 79), (3, 79), (4, 79)], 5, 120, .agg [.sl 0 true [], .sl 0 true [], .sl 0 true [], .sl 0 true [], .sl 0 true []]⟩
def ty102 : TI := ⟨.struct [(0, 79), (1, 79), (2, 79), (3, 79), (4, 79)], 5, 120, .agg [.sl 0 true [], .sl 0 true [], .sl 0 true [], .sl 0 true [], .sl 0 true []]⟩
def ty103 : TI := ⟨.func, 1, 8, .nilfn⟩
def ty104 : TI := ⟨.func, 1, 8, .nilfn⟩
def ty105 : TI := ⟨.func, 1, 8, .nilfn⟩
def ty106 : TI := ⟨.func, 1, 8, .nilfn⟩
def ty107 : TI := ⟨.func, 1, 8, .nilfn⟩
def ty108 : TI := ⟨.slice 5, 1, 24, .sl 0 true []⟩
def ty109 : TI := ⟨.func, 1, 8, .nilfn⟩
def ty110 : TI := ⟨.func, 1, 8, .nilfn⟩
def ty112 : TI := ⟨.func, 1, 8, .nilfn⟩
def ty113 : TI := ⟨.func, 1, 8, .nilfn⟩
def ty114 : TI := ⟨.struct [(0, 2), (1, 2)], 2, 16, .agg [.int .i64 0, .int .i64 0]⟩
def ty115 : TI := ⟨.func, 1, 8, .nilfn⟩
def ty116 : TI := ⟨.func, 1, 8, .nilfn⟩
def ty117 : TI := ⟨.slice 3, 1, 24, .sl 0 true []⟩
def ty118 : TI := ⟨.func, 1, 8, .nilfn⟩
def ty119 : TI := ⟨.func, 1, 8, .nilfn⟩
def ty120 : TI := ⟨.func, 1, 8, .nilfn⟩
def ty121 : TI := ⟨.func, 1, 8, .nilfn⟩
def ty122 : TI := ⟨.func, 1, 8, .nilfn⟩
def ty123 : TI := ⟨.func, 1, 8, .nilfn⟩
def ty124 : TI := ⟨.func, 1, 8, .nilfn⟩
def ty125 : TI := ⟨.struct [(0, 17), (1, 17), (2, 17), (3, 9)], 4, 40, .agg [.nilp, .nilp, .nilp, .str []]⟩
def ty126 : TI := ⟨.struct [(0, 17), (1, 17), (2, 17), (3, 9)], 4, 40, .agg [.nilp, .nilp, .nilp, .str []]⟩
def ty127 : TI := ⟨.array 0 16, 0, 0, .agg []⟩
def ty128 : TI := ⟨.struct [(0, 127)], 0, 0, .agg []⟩
def ty129 : TI := ⟨.struct [(0, 127)], 0, 0, .agg []⟩
def ty130 : TI := ⟨.func, 1, 8, .nilfn⟩
def ty131 : TI := ⟨.int .u32, 1, 4, .int .u32 0⟩
def ty132 : TI := ⟨.int .u8, 1, 1, .int .u8 0⟩
def ty133 : TI := ⟨.int .u8, 1, 1, .int .u8 0⟩
def ty134 : TI := ⟨.func, 1, 8, .nilfn⟩
def ty135 : TI := ⟨.ptr, 1, 8, .nilp⟩
def ty136 : TI := ⟨.int .i32, 1, 4, .int .i32 0⟩
def ty137 : TI := ⟨.int .i32, 1, 4, .int .i32 0⟩
def ty138 : TI := ⟨.struct [(0, 12), (1, 12), (2, 131), (3, 132), (4, 5), (5, 5), (6, 133), (7, 134), (8, 135), (9, 136), (10, 137)], 11, 48, .agg [.int .u64 0, .int .u64 0, .int .u32 0, .int .u8 0, .int .u8 0, .int .u8 0, .int .u8 0, .nilfn, .nilp, .int .i32 0, .int .i32 0]⟩
def ty139 : TI := ⟨.struct [(0, 12), (1, 12), (2, 131), (3, 132), (4, 5), (5, 5), (6, 133), (7, 134), (8, 135), (9, 136), (10, 137)], 11, 48, .agg [.int .u64 0, .int .u64 0, .int .u32 0, .int .u8 0, .int .u8 0, .int .u8 0, .int .u8 0, .nilfn, .nilp, .int .i32 0, .int .i32 0]⟩
def tyT : Tree TI := .node (.node (.node (.node (.node (.node (.node (.node (.leaf) 1 ty1 (.leaf)) 2 ty2 (.leaf)) 3 ty3 (.node (.leaf) 4 ty4 (.leaf))) 5 ty5 (.node (.node (.leaf) 6 ty6 (.leaf)) 7 ty7 (.node (.leaf) 8 ty8 (.leaf)))) 9 ty9 (.node (.node (.node (.leaf) 10 ty10 (.leaf)) 11 ty11 (.node (.leaf) 12 ty12 (.leaf))) 13 ty13 (.node (.node (.leaf) 14 ty14 (.leaf)) 15 ty15 (.node (.leaf) 16 ty16 (.leaf))))) 17 ty17 (.node (.node (.node (.node (.node (.leaf) 18 ty18 (.leaf)) 19 ty19 (.leaf)) 21 ty21 (.node (.leaf) 22 ty22 (.leaf))) 23 ty23 (.node (.node (.leaf) 24 ty24 (.leaf)) 25 ty25 (.node (.leaf) 26 ty26 (.leaf)))) 27 ty27 (.node (.node (.node (.leaf) 28 ty28 (.leaf)) 29 ty29 (.node (.leaf) 30 ty30 (.leaf))) 32 ty32 (.node (.node (.leaf) 33 ty33 (.leaf)) 34 ty34 (.node (.leaf) 35 ty35 (.leaf)))))) 36 ty36 (.node (.node (.node (.node (.node (.node (.leaf) 37 ty37 (.leaf)) 38 ty38 (.leaf)) 39 ty39 (.node (.leaf) 40 ty40 (.leaf))) 41 ty41 (.node (.node (.leaf) 42 ty42 (.leaf)) 43 ty43 (.node (.leaf) 44 ty44 (.leaf)))) 45 ty45 (.node (.node (.node (.leaf) 46 ty46 (.leaf)) 47 ty47 (.node (.leaf) 48 ty48 (.leaf))) 49 ty49 (.node (.node (.leaf) 50 ty50 (.leaf)) 51 ty51 (.node (.leaf) 52 ty52 (.leaf))))) 53 ty53 (.node (.node (.node (.node (.node (.leaf) 54 ty54 (.leaf)) 55 ty55 (.leaf)) 57 ty57 (.node (.leaf) 58 ty58 (.leaf))) 59 ty59 (.node (.node (.leaf) 60 ty60 (.leaf)) 61 ty61 (.node (.leaf) 62 ty62 (.leaf)))) 63 ty63 (.node (.node (.node (.leaf) 64 ty64 (.leaf)) 65 ty65 (.node (.leaf) 66 ty66 (.leaf))) 67 ty67 (.node (.node (.leaf) 68 ty68 (.leaf)) 69 ty69 (.node (.leaf) 70 ty70 (.leaf))))))) 71 ty71 (.node (.node (.node (.node (.node (.node (.node (.leaf) 72 ty72 (.leaf)) 73 ty73 (.leaf)) 74 ty74 (.node (.leaf) 75 ty75 (.leaf))) 76 ty76 (.node (.node (.leaf) 77 ty77 (.leaf)) 78 ty78 (.node (.leaf) 79 ty79 (.leaf)))) 80 ty80 (.node (.node (.node (.leaf) 81 ty81 (.leaf)) 82 ty82 (.node (.leaf) 83 ty83 (.leaf))) 84 ty84 (.node (.node (.leaf) 85 ty85 (.leaf)) 87 ty87 (.node (.leaf) 88 ty88 (.leaf))))) 89 ty89 (.node (.node (.node (.node (.node (.leaf) 90 ty90 (.leaf)) 91 ty91 (.leaf)) 92 ty92 (.node (.leaf) 93 ty93 (.leaf))) 94 ty94 (.node (.node (.leaf) 95 ty95 (.leaf)) 96 ty96 (.node (.leaf) 97 ty97 (.leaf)))) 98 ty98 (.node (.node (.node (.leaf) 99 ty99 (.leaf)) 100 ty100 (.node (.leaf) 101 ty101 (.leaf))) 102 ty102 (.node (.node (.leaf) 103 ty103 (.leaf)) 104 ty104 (.node (.leaf) 105 ty105 (.leaf)))))) 106 ty106 (.node (.node (.node (.node (.node (.node (.leaf) 107 ty107 (.leaf)) 108 ty108 (.leaf)) 109 ty109 (.node (.leaf) 110 ty110 (.leaf))) 112 ty112 (.node (.node (.leaf) 113 ty113 (.leaf)) 114 ty114 (.node (.leaf) 115 ty115 (.leaf)))) 116 ty116 (.node (.node (.node (.leaf) 117 ty117 (.leaf)) 118 ty118 (.node (.leaf) 119 ty119 (.leaf))) 120 ty120 (.node (.node (.leaf) 121 ty121 (.leaf)) 122 ty122 (.node (.leaf) 123 ty123 (.leaf))))) 124 ty124 (.node (.node (.node (.node (.leaf) 125 ty125 (.leaf)) 126 ty126 (.node (.leaf) 127 ty127 (.leaf))) 128 ty128 (.node (.node (.leaf) 129 ty129 (.leaf)) 130 ty130 (.node (.leaf) 131 ty131 (.leaf)))) 132 ty132 (.node (.node (.node (.leaf) 133 ty133 (.leaf)) 134 ty134 (.node (.leaf) 135 ty135 (.leaf))) 136 ty136 (.node (.node (.leaf) 137 ty137 (.leaf)) 138 ty138 (.node (.leaf) 139 ty139 (.leaf)))))))
theorem tyOk : tyT.all (tyB Try.prog) = true := by kernel_rfl
/-- laws.FnExactRowOf -/
noncomputable def fi3 : FI := fiOf Try.f3 [] [] [] false 0 [42, 44, 49, 73, 76, 92]
theorem ok3 : FnOk Try.prog drawOk 3 fi3 := .of Try.func3 (by kernel_rfl) (by kernel_rfl) (by kernel_rfl)
/-- laws.szChecker -/
noncomputable def fi4 : FI := fiOf Try.f4 [] [] [] false
theorem ok4 : FnOk Try.prog drawOk 4 fi4 := .of Try.func4 (by kernel_rfl) (by kernel_rfl) (by kernel_rfl)
/-- laws.szContextS -/
noncomputable def fi5 : FI := fiOf Try.f5 [] [] [] false
theorem ok5 : FnOk Try.prog drawOk 5 fi5 := .of Try.func5 (by kernel_rfl) (by kernel_rfl) (by kernel_rfl)
/-- spec.RowOf -/
noncomputable def fi6 : FI := fiOf Try.f6 [] [] [] false
theorem ok6 : FnOk Try.prog drawOk 6 fi6 := .of Try.func6 (by kernel_rfl) (by kernel_rfl) (by kernel_rfl)
/-- laws.toChecker -/
noncomputable def fi7 : FI := fiOf Try.f7 [] [(3, 1)] [] false
theorem ok7 : FnOk Try.prog drawOk 7 fi7 := .of Try.func7 (by kernel_rfl) (by kernel_rfl) (by kernel_rfl)
/-- laws.toContextS -/
noncomputable def fi8 : FI := fiOf Try.f8 [] [] [] false
theorem ok8 : FnOk Try.prog drawOk 8 fi8 := .of Try.func8 (by kernel_rfl) (by kernel_rfl) (by kernel_rfl)
/-- impl.RowOf -/
noncomputable def fi9 : FI := fiOf Try.f9 [] [(33, 1)] [] false
theorem ok9 : FnOk Try.prog drawOk 9 fi9 := .of Try.func9 (by kernel_rfl) (by kernel_rfl) (by kernel_rfl)
/-- laws.eqBoolS -/
noncomputable def fi10 : FI := fiOf Try.f10 [] [] [] false 1 []
theorem ok10 : FnOk Try.prog drawOk 10 fi10 := .of Try.func10 (by kernel_rfl) (by kernel_rfl) (by kernel_rfl)
/-- laws.eqChecker -/
noncomputable def fi11 : FI := fiOf Try.f11 [] [] [] false 1 []
theorem ok11 : FnOk Try.prog drawOk 11 fi11 := .of Try.func11 (by kernel_rfl) (by kernel_rfl) (by kernel_rfl)
/-- laws.eqContextS -/
noncomputable def fi12 : FI := fiOf Try.f12 [] [] [] false 1 []
theorem ok12 : FnOk Try.prog drawOk 12 fi12 := .of Try.func12 (by kernel_rfl) (by kernel_rfl) (by kernel_rfl)
/-- laws.heldBoolS -/
noncomputable def fi16 : FI := fiOf Try.f16 [] [] [] false 1 []
theorem ok16 : FnOk Try.prog drawOk 16 fi16 := .of Try.func16 (by kernel_rfl) (by kernel_rfl) (by kernel_rfl)
/-- laws.szBoolS -/
noncomputable def fi17 : FI := fiOf Try.f17 [] [] [] false
theorem ok17 : FnOk Try.prog drawOk 17 fi17 := .of Try.func17 (by kernel_rfl) (by kernel_rfl) (by kernel_rfl)
/-- laws.szPushSS -/
noncomputable def fi18 : FI := fiOf Try.f18 [] [] [] false
theorem ok18 : FnOk Try.prog drawOk 18 fi18 := .of Try.func18 (by kernel_rfl) (by kernel_rfl) (by kernel_rfl)
/-- laws.szInt64SSS -/
noncomputable def fi19 : FI := fiOf Try.f19 [] [] [] false
theorem ok19 : FnOk Try.prog drawOk 19 fi19 := .of Try.func19 (by kernel_rfl) (by kernel_rfl) (by kernel_rfl)
/-- laws.szInt64SS -/
noncomputable def fi20 : FI := fiOf Try.f20 [] [] [] false
theorem ok20 : FnOk Try.prog drawOk 20 fi20 := .of Try.func20 (by kernel_rfl) (by kernel_rfl) (by kernel_rfl)
/-- laws.szContext -/
noncomputable def fi21 : FI := fiOf Try.f21 [] [] [] false
theorem ok21 : FnOk Try.prog drawOk 21 fi21 := .of Try.func21 (by kernel_rfl) (by kernel_rfl) (by kernel_rfl)
/-- spec.l02Ok -/
noncomputable def fi22 : FI := fiOf Try.f22 [] [] [] false
theorem ok22 : FnOk Try.prog drawOk 22 fi22 := .of Try.func22 (by kernel_rfl) (by kernel_rfl) (by kernel_rfl)
/-- spec.l01Ok -/
noncomputable def fi23 : FI := fiOf Try.f23 [] [] [] false
theorem ok23 : FnOk Try.prog drawOk 23 fi23 := .of Try.func23 (by kernel_rfl) (by kernel_rfl) (by kernel_rfl)
/-- spec.l01Matched -/
noncomputable def fi24 : FI := fiOf Try.f24 [] [] [] false
theorem ok24 : FnOk Try.prog drawOk 24 fi24 := .of Try.func24 (by kernel_rfl) (by kernel_rfl) (by kernel_rfl)
/-- spec.l04Row -/
noncomputable def fi25 : FI := fiOf Try.f25 [35] [] [] false
theorem ok25 : FnOk Try.prog drawOk 25 fi25 := .of Try.func25 (by kernel_rfl) (by kernel_rfl) (by kernel_rfl)
/-- laws.toBoolS -/
noncomputable def fi26 : FI := fiOf Try.f26 [] [] [] false
theorem ok26 : FnOk Try.prog drawOk 26 fi26 := .of Try.func26 (by kernel_rfl) (by kernel_rfl) (by kernel_rfl)
/-- laws.toPushSS -/
noncomputable def fi27 : FI := fiOf Try.f27 [] [] [] false
theorem ok27 : FnOk Try.prog drawOk 27 fi27 := .of Try.func27 (by kernel_rfl) (by kernel_rfl) (by kernel_rfl)
/-- laws.toInt64SSS -/
noncomputable def fi28 : FI := fiOf Try.f28 [] [] [] false
theorem ok28 : FnOk Try.prog drawOk 28 fi28 := .of Try.func28 (by kernel_rfl) (by kernel_rfl) (by kernel_rfl)
/-- laws.toInt64SS -/
noncomputable def fi29 : FI := fiOf Try.f29 [] [] [] false
theorem ok29 : FnOk Try.prog drawOk 29 fi29 := .of Try.func29 (by kernel_rfl) (by kernel_rfl) (by kernel_rfl)
/-- laws.toContext -/
noncomputable def fi30 : FI := fiOf Try.f30 [] [(3, 1)] [] false
theorem ok30 : FnOk Try.prog drawOk 30 fi30 := .of Try.func30 (by kernel_rfl) (by kernel_rfl) (by kernel_rfl)
/-- impl.ValidChecker -/
noncomputable def fi31 : FI := fiOf Try.f31 [] [] [] false
theorem ok31 : FnOk Try.prog drawOk 31 fi31 := .of Try.func31 (by kernel_rfl) (by kernel_rfl) (by kernel_rfl)
/-- impl.ValidWord -/
noncomputable def fi32 : FI := fiOf Try.f32 [] [] [] false
theorem ok32 : FnOk Try.prog drawOk 32 fi32 := .of Try.func32 (by kernel_rfl) (by kernel_rfl) (by kernel_rfl)
/-- slices.ContainsFunc[[]impl.Context,impl.Context] -/
noncomputable def fi33 : FI := fiOf Try.f33 [] [] [] false
theorem ok33 : FnOk Try.prog drawOk 33 fi33 := .of Try.func33 (by kernel_rfl) (by kernel_rfl) (by kernel_rfl)
/-- impl.RowOf$1 -/
noncomputable def fi34 : FI := fiOf Try.f34 [] [] [] false
theorem ok34 : FnOk Try.prog drawOk 34 fi34 := .of Try.func34 (by kernel_rfl) (by kernel_rfl) (by kernel_rfl)
/-- impl.isMatched -/
noncomputable def fi35 : FI := fiOf Try.f35 [] [] [] false
theorem ok35 : FnOk Try.prog drawOk 35 fi35 := .of Try.func35 (by kernel_rfl) (by kernel_rfl) (by kernel_rfl)
/-- (*impl.asker).row -/
noncomputable def fi36 : FI := fiOf Try.f36 [17] [] [] false
theorem ok36 : FnOk Try.prog drawOk 36 fi36 := .of Try.func36 (by kernel_rfl) (by kernel_rfl) (by kernel_rfl)
/-- laws.eqPushSS -/
noncomputable def fi37 : FI := fiOf Try.f37 [] [] [] false 1 []
theorem ok37 : FnOk Try.prog drawOk 37 fi37 := .of Try.func37 (by kernel_rfl) (by kernel_rfl) (by kernel_rfl)
/-- laws.eqInt64SSS -/
noncomputable def fi38 : FI := fiOf Try.f38 [] [] [] false 1 []
theorem ok38 : FnOk Try.prog drawOk 38 fi38 := .of Try.func38 (by kernel_rfl) (by kernel_rfl) (by kernel_rfl)
/-- laws.eqInt64SS -/
noncomputable def fi39 : FI := fiOf Try.f39 [] [] [] false 1 []
theorem ok39 : FnOk Try.prog drawOk 39 fi39 := .of Try.func39 (by kernel_rfl) (by kernel_rfl) (by kernel_rfl)
/-- laws.eqContext -/
noncomputable def fi40 : FI := fiOf Try.f40 [] [] [] false
theorem ok40 : FnOk Try.prog drawOk 40 fi40 := .of Try.func40 (by kernel_rfl) (by kernel_rfl) (by kernel_rfl)
/-- laws.markText -/
noncomputable def fi44 : FI := fiOf Try.f44 [] [] [] false
theorem ok44 : FnOk Try.prog drawOk 44 fi44 := .of Try.func44 (by kernel_rfl) (by kernel_rfl) (by kernel_rfl)
/-- laws.szPushS -/
noncomputable def fi45 : FI := fiOf Try.f45 [] [] [] false
theorem ok45 : FnOk Try.prog drawOk 45 fi45 := .of Try.func45 (by kernel_rfl) (by kernel_rfl) (by kernel_rfl)
/-- laws.szInt64S -/
noncomputable def fi46 : FI := fiOf Try.f46 [] [] [] false
theorem ok46 : FnOk Try.prog drawOk 46 fi46 := .of Try.func46 (by kernel_rfl) (by kernel_rfl) (by kernel_rfl)
/-- spec.l00In -/
noncomputable def fi47 : FI := fiOf Try.f47 [] [] [] false
theorem ok47 : FnOk Try.prog drawOk 47 fi47 := .of Try.func47 (by kernel_rfl) (by kernel_rfl) (by kernel_rfl)
/-- spec.l02List -/
noncomputable def fi48 : FI := fiOf Try.f48 [] [] [] false
theorem ok48 : FnOk Try.prog drawOk 48 fi48 := .of Try.func48 (by kernel_rfl) (by kernel_rfl) (by kernel_rfl)
/-- spec.l01Symbol -/
noncomputable def fi49 : FI := fiOf Try.f49 [] [] [] false
theorem ok49 : FnOk Try.prog drawOk 49 fi49 := .of Try.func49 (by kernel_rfl) (by kernel_rfl) (by kernel_rfl)
/-- spec.l01Pending -/
noncomputable def fi50 : FI := fiOf Try.f50 [] [] [] false
theorem ok50 : FnOk Try.prog drawOk 50 fi50 := .of Try.func50 (by kernel_rfl) (by kernel_rfl) (by kernel_rfl)
/-- spec.l02Takes -/
noncomputable def fi51 : FI := fiOf Try.f51 [] [] [] false
theorem ok51 : FnOk Try.prog drawOk 51 fi51 := .of Try.func51 (by kernel_rfl) (by kernel_rfl) (by kernel_rfl)
/-- laws.toPushS -/
noncomputable def fi52 : FI := fiOf Try.f52 [] [] [] false
theorem ok52 : FnOk Try.prog drawOk 52 fi52 := .of Try.func52 (by kernel_rfl) (by kernel_rfl) (by kernel_rfl)
/-- laws.toInt64S -/
noncomputable def fi53 : FI := fiOf Try.f53 [] [] [] false
theorem ok53 : FnOk Try.prog drawOk 53 fi53 := .of Try.func53 (by kernel_rfl) (by kernel_rfl) (by kernel_rfl)
/-- impl.size[bool] -/
noncomputable def fi54 : FI := fiOf Try.f54 [] [] [] false
theorem ok54 : FnOk Try.prog drawOk 54 fi54 := .of Try.func54 (by kernel_rfl) (by kernel_rfl) (by kernel_rfl)
/-- impl.within -/
noncomputable def fi55 : FI := fiOf Try.f55 [] [] [] false
theorem ok55 : FnOk Try.prog drawOk 55 fi55 := .of Try.func55 (by kernel_rfl) (by kernel_rfl) (by kernel_rfl)
/-- (impl.Checker).isState -/
noncomputable def fi56 : FI := fiOf Try.f56 [] [] [] false
theorem ok56 : FnOk Try.prog drawOk 56 fi56 := .of Try.func56 (by kernel_rfl) (by kernel_rfl) (by kernel_rfl)
/-- impl.size[[]impl.Push] -/
noncomputable def fi57 : FI := fiOf Try.f57 [] [] [] false
theorem ok57 : FnOk Try.prog drawOk 57 fi57 := .of Try.func57 (by kernel_rfl) (by kernel_rfl) (by kernel_rfl)
/-- impl.size[[][]int64] -/
noncomputable def fi58 : FI := fiOf Try.f58 [] [] [] false
theorem ok58 : FnOk Try.prog drawOk 58 fi58 := .of Try.func58 (by kernel_rfl) (by kernel_rfl) (by kernel_rfl)
/-- impl.size[[]int64] -/
noncomputable def fi59 : FI := fiOf Try.f59 [] [] [] false
theorem ok59 : FnOk Try.prog drawOk 59 fi59 := .of Try.func59 (by kernel_rfl) (by kernel_rfl) (by kernel_rfl)
/-- impl.ValidChecker$1 -/
noncomputable def fi60 : FI := fiOf Try.f60 [] [] [] false
theorem ok60 : FnOk Try.prog drawOk 60 fi60 := .of Try.func60 (by kernel_rfl) (by kernel_rfl) (by kernel_rfl)
/-- impl.size[int64] -/
noncomputable def fi61 : FI := fiOf Try.f61 [] [] [] false
theorem ok61 : FnOk Try.prog drawOk 61 fi61 := .of Try.func61 (by kernel_rfl) (by kernel_rfl) (by kernel_rfl)
/-- slices.ContainsFunc[[]int64,int64] -/
noncomputable def fi62 : FI := fiOf Try.f62 [] [] [] false
theorem ok62 : FnOk Try.prog drawOk 62 fi62 := .of Try.func62 (by kernel_rfl) (by kernel_rfl) (by kernel_rfl)
/-- impl.ValidChecker$1$1 -/
noncomputable def fi63 : FI := fiOf Try.f63 [] [] [] false
theorem ok63 : FnOk Try.prog drawOk 63 fi63 := .of Try.func63 (by kernel_rfl) (by kernel_rfl) (by kernel_rfl)
/-- (impl.Checker).isMark -/
noncomputable def fi64 : FI := fiOf Try.f64 [] [] [] false
theorem ok64 : FnOk Try.prog drawOk 64 fi64 := .of Try.func64 (by kernel_rfl) (by kernel_rfl) (by kernel_rfl)
/-- strings.IndexByte -/
noncomputable def fi65 : FI := fiOf Try.f65 [] [] [] false
theorem ok65 : FnOk Try.prog drawOk 65 fi65 := .of Try.func65 (by kernel_rfl) (by kernel_rfl) (by kernel_rfl)
/-- slices.IndexFunc[[]impl.Context,impl.Context] -/
noncomputable def fi66 : FI := fiOf Try.f66 [] [] [] false
theorem ok66 : FnOk Try.prog drawOk 66 fi66 := .of Try.func66 (by kernel_rfl) (by kernel_rfl) (by kernel_rfl)
/-- impl.match -/
noncomputable def fi67 : FI := fiOf Try.f67 [31, 85, 92] [(3, 1)] [77, 83] false
theorem ok67 : FnOk Try.prog drawOk 67 fi67 := .of Try.func67 (by kernel_rfl) (by kernel_rfl) (by kernel_rfl)
/-- (*impl.asker).takes -/
noncomputable def fi68 : FI := fiOf Try.f68 [] [] [] false
theorem ok68 : FnOk Try.prog drawOk 68 fi68 := .of Try.func68 (by kernel_rfl) (by kernel_rfl) (by kernel_rfl)
/-- (impl.Context).around -/
noncomputable def fi69 : FI := fiOf Try.f69 [] [] [] false
theorem ok69 : FnOk Try.prog drawOk 69 fi69 := .of Try.func69 (by kernel_rfl) (by kernel_rfl) (by kernel_rfl)
/-- laws.eqPushS -/
noncomputable def fi70 : FI := fiOf Try.f70 [] [] [] false 1 []
theorem ok70 : FnOk Try.prog drawOk 70 fi70 := .of Try.func70 (by kernel_rfl) (by kernel_rfl) (by kernel_rfl)
/-- laws.eqInt64S -/
noncomputable def fi71 : FI := fiOf Try.f71 [] [] [] false 1 []
theorem ok71 : FnOk Try.prog drawOk 71 fi71 := .of Try.func71 (by kernel_rfl) (by kernel_rfl) (by kernel_rfl)
/-- spec.l01Partners -/
noncomputable def fi74 : FI := fiOf Try.f74 [] [] [17, 25, 29, 58, 66] false
theorem ok74 : FnOk Try.prog drawOk 74 fi74 := .of Try.func74 (by kernel_rfl) (by kernel_rfl) (by kernel_rfl)
/-- spec.l01Return -/
noncomputable def fi75 : FI := fiOf Try.f75 [] [] [] false
theorem ok75 : FnOk Try.prog drawOk 75 fi75 := .of Try.func75 (by kernel_rfl) (by kernel_rfl) (by kernel_rfl)
/-- spec.l01Call -/
noncomputable def fi76 : FI := fiOf Try.f76 [] [] [] false
theorem ok76 : FnOk Try.prog drawOk 76 fi76 := .of Try.func76 (by kernel_rfl) (by kernel_rfl) (by kernel_rfl)
/-- spec.l02Go -/
noncomputable def fi77 : FI := fiOf Try.f77 [] [] [] false
theorem ok77 : FnOk Try.prog drawOk 77 fi77 := .of Try.func77 (by kernel_rfl) (by kernel_rfl) (by kernel_rfl)
/-- laws.toPush -/
noncomputable def fi78 : FI := fiOf Try.f78 [] [(3, 1)] [] false
theorem ok78 : FnOk Try.prog drawOk 78 fi78 := .of Try.func78 (by kernel_rfl) (by kernel_rfl) (by kernel_rfl)
/-- slices.IndexFunc[[]int64,int64] -/
noncomputable def fi79 : FI := fiOf Try.f79 [] [] [] false
theorem ok79 : FnOk Try.prog drawOk 79 fi79 := .of Try.func79 (by kernel_rfl) (by kernel_rfl) (by kernel_rfl)
/-- internal/stringslite.IndexByte -/
noncomputable def fi80 : FI := fiOf Try.f80 [] [] [] false
theorem ok80 : FnOk Try.prog drawOk 80 fi80 := .of Try.func80 (by kernel_rfl) (by kernel_rfl) (by kernel_rfl)
/-- impl.isReturn -/
noncomputable def fi81 : FI := fiOf Try.f81 [] [] [] false
theorem ok81 : FnOk Try.prog drawOk 81 fi81 := .of Try.func81 (by kernel_rfl) (by kernel_rfl) (by kernel_rfl)
/-- impl.isCall -/
noncomputable def fi82 : FI := fiOf Try.f82 [] [] [] false
theorem ok82 : FnOk Try.prog drawOk 82 fi82 := .of Try.func82 (by kernel_rfl) (by kernel_rfl) (by kernel_rfl)
/-- (impl.Checker).takes -/
noncomputable def fi83 : FI := fiOf Try.f83 [] [] [] false
theorem ok83 : FnOk Try.prog drawOk 83 fi83 := .of Try.func83 (by kernel_rfl) (by kernel_rfl) (by kernel_rfl)
/-- laws.eqPush -/
noncomputable def fi84 : FI := fiOf Try.f84 [] [] [] false
theorem ok84 : FnOk Try.prog drawOk 84 fi84 := .of Try.func84 (by kernel_rfl) (by kernel_rfl) (by kernel_rfl)
/-- spec.l02Step -/
noncomputable def fi85 : FI := fiOf Try.f85 [] [] [] false
theorem ok85 : FnOk Try.prog drawOk 85 fi85 := .of Try.func85 (by kernel_rfl) (by kernel_rfl) (by kernel_rfl)
/-- (impl.Checker).end -/
noncomputable def fi87 : FI := fiOf Try.f87 [] [(5, 1), (6, 1)] [] false
theorem ok87 : FnOk Try.prog drawOk 87 fi87 := .of Try.func87 (by kernel_rfl) (by kernel_rfl) (by kernel_rfl)
/-- spec.l00Own -/
noncomputable def fi88 : FI := fiOf Try.f88 [] [] [] false
theorem ok88 : FnOk Try.prog drawOk 88 fi88 := .of Try.func88 (by kernel_rfl) (by kernel_rfl) (by kernel_rfl)
/-- (impl.Checker).run -/
noncomputable def fi89 : FI := fiOf Try.f89 [] [] [] false
theorem ok89 : FnOk Try.prog drawOk 89 fi89 := .of Try.func89 (by kernel_rfl) (by kernel_rfl) (by kernel_rfl)
/-- (impl.Checker).end$1 -/
noncomputable def fi90 : FI := fiOf Try.f90 [] [] [] false
theorem ok90 : FnOk Try.prog drawOk 90 fi90 := .of Try.func90 (by kernel_rfl) (by kernel_rfl) (by kernel_rfl)
/-- (impl.Checker).step -/
noncomputable def fi91 : FI := fiOf Try.f91 [] [] [] false
theorem ok91 : FnOk Try.prog drawOk 91 fi91 := .of Try.func91 (by kernel_rfl) (by kernel_rfl) (by kernel_rfl)
/-- impl.kindOf -/
noncomputable def fi92 : FI := fiOf Try.f92 [] [] [] false
theorem ok92 : FnOk Try.prog drawOk 92 fi92 := .of Try.func92 (by kernel_rfl) (by kernel_rfl) (by kernel_rfl)
/-- impl.isInner -/
noncomputable def fi94 : FI := fiOf Try.f94 [] [] [] false
theorem ok94 : FnOk Try.prog drawOk 94 fi94 := .of Try.func94 (by kernel_rfl) (by kernel_rfl) (by kernel_rfl)
noncomputable def fnT : Tree FI := .node (.node (.node (.node (.node (.node (.node (.leaf) 3 fi3 (.leaf)) 4 fi4 (.leaf)) 5 fi5 (.node (.node (.leaf) 6 fi6 (.leaf)) 7 fi7 (.leaf))) 8 fi8 (.node (.node (.node (.leaf) 9 fi9 (.leaf)) 10 fi10 (.leaf)) 11 fi11 (.node (.leaf) 12 fi12 (.leaf)))) 16 fi16 (.node (.node (.node (.node (.leaf) 17 fi17 (.leaf)) 18 fi18 (.leaf)) 19 fi19 (.node (.leaf) 20 fi20 (.leaf))) 21 fi21 (.node (.node (.node (.leaf) 22 fi22 (.leaf)) 23 fi23 (.leaf)) 24 fi24 (.node (.leaf) 25 fi25 (.leaf))))) 26 fi26 (.node (.node (.node (.node (.node (.leaf) 27 fi27 (.leaf)) 28 fi28 (.leaf)) 29 fi29 (.node (.node (.leaf) 30 fi30 (.leaf)) 31 fi31 (.leaf))) 32 fi32 (.node (.node (.node (.leaf) 33 fi33 (.leaf)) 34 fi34 (.leaf)) 35 fi35 (.node (.leaf) 36 fi36 (.leaf)))) 37 fi37 (.node (.node (.node (.node (.leaf) 38 fi38 (.leaf)) 39 fi39 (.leaf)) 40 fi40 (.node (.leaf) 44 fi44 (.leaf))) 45 fi45 (.node (.node (.node (.leaf) 46 fi46 (.leaf)) 47 fi47 (.leaf)) 48 fi48 (.node (.leaf) 49 fi49 (.leaf)))))) 50 fi50 (.node (.node (.node (.node (.node (.node (.leaf) 51 fi51 (.leaf)) 52 fi52 (.leaf)) 53 fi53 (.node (.node (.leaf) 54 fi54 (.leaf)) 55 fi55 (.leaf))) 56 fi56 (.node (.node (.node (.leaf) 57 fi57 (.leaf)) 58 fi58 (.leaf)) 59 fi59 (.node (.leaf) 60 fi60 (.leaf)))) 61 fi61 (.node (.node (.node (.node (.leaf) 62 fi62 (.leaf)) 63 fi63 (.leaf)) 64 fi64 (.node (.leaf) 65 fi65 (.leaf))) 66 fi66 (.node (.node (.node (.leaf) 67 fi67 (.leaf)) 68 fi68 (.leaf)) 69 fi69 (.node (.leaf) 70 fi70 (.leaf))))) 71 fi71 (.node (.node (.node (.node (.node (.leaf) 74 fi74 (.leaf)) 75 fi75 (.leaf)) 76 fi76 (.node (.leaf) 77 fi77 (.leaf))) 78 fi78 (.node (.node (.node (.leaf) 79 fi79 (.leaf)) 80 fi80 (.leaf)) 81 fi81 (.node (.leaf) 82 fi82 (.leaf)))) 83 fi83 (.node (.node (.node (.node (.leaf) 84 fi84 (.leaf)) 85 fi85 (.leaf)) 87 fi87 (.node (.leaf) 88 fi88 (.leaf))) 89 fi89 (.node (.node (.node (.leaf) 90 fi90 (.leaf)) 91 fi91 (.leaf)) 92 fi92 (.node (.leaf) 94 fi94 (.leaf))))))
theorem fnOk : fnT.Each (FnOk Try.prog drawOk) := ⟨ok50, ⟨ok26, ⟨ok16, ⟨ok8, ⟨ok5, ⟨ok4, ⟨ok3, trivial, trivial⟩, trivial⟩, ⟨ok7, ⟨ok6, trivial, trivial⟩, trivial⟩⟩, ⟨ok11, ⟨ok10, ⟨ok9, trivial, trivial⟩, trivial⟩, ⟨ok12, trivial, trivial⟩⟩⟩, ⟨ok21, ⟨ok19, ⟨ok18, ⟨ok17, trivial, trivial⟩, trivial⟩, ⟨ok20, trivial, trivial⟩⟩, ⟨ok24, ⟨ok23, ⟨ok22, trivial, trivial⟩, trivial⟩, ⟨ok25, trivial, trivial⟩⟩⟩⟩, ⟨ok37, ⟨ok32, ⟨ok29, ⟨ok28, ⟨ok27, trivial, trivial⟩, trivial⟩, ⟨ok31, ⟨ok30, trivial, trivial⟩, trivial⟩⟩, ⟨ok35, ⟨ok34, ⟨ok33, trivial, trivial⟩, trivial⟩, ⟨ok36, trivial, trivial⟩⟩⟩, ⟨ok45, ⟨ok40, ⟨ok39, ⟨ok38, trivial, trivial⟩, trivial⟩, ⟨ok44, trivial, trivial⟩⟩, ⟨ok48, ⟨ok47, ⟨ok46, trivial, trivial⟩, trivial⟩, ⟨ok49, trivial, trivial⟩⟩⟩⟩⟩, ⟨ok71, ⟨ok61, ⟨ok56, ⟨ok53, ⟨ok52, ⟨ok51, trivial, trivial⟩, trivial⟩, ⟨ok55, ⟨ok54, trivial, trivial⟩, trivial⟩⟩, ⟨ok59, ⟨ok58, ⟨ok57, trivial, trivial⟩, trivial⟩, ⟨ok60, trivial, trivial⟩⟩⟩, ⟨ok66, ⟨ok64, ⟨ok63, ⟨ok62, trivial, trivial⟩, trivial⟩, ⟨ok65, trivial, trivial⟩⟩, ⟨ok69, ⟨ok68, ⟨ok67, trivial, trivial⟩, trivial⟩, ⟨ok70, trivial, trivial⟩⟩⟩⟩, ⟨ok83, ⟨ok78, ⟨ok76, ⟨ok75, ⟨ok74, trivial, trivial⟩, trivial⟩, ⟨ok77, trivial, trivial⟩⟩, ⟨ok81, ⟨ok80, ⟨ok79, trivial, trivial⟩, trivial⟩, ⟨ok82, trivial, trivial⟩⟩⟩, ⟨ok89, ⟨ok87, ⟨ok85, ⟨ok84, trivial, trivial⟩, trivial⟩, ⟨ok88, trivial, trivial⟩⟩, ⟨ok92, ⟨ok91, ⟨ok90, trivial, trivial⟩, trivial⟩, ⟨ok94, trivial, trivial⟩⟩⟩⟩⟩⟩
/-- laws.toChecker -/
noncomputable def fiK7 : FI := fiOf Try.f7 [] [(3, 1)] [] true 0 [12, 16, 20, 24]
theorem okK7 : FnOk Try.prog drawOk 7 fiK7 := .of Try.func7 (by kernel_rfl) (by kernel_rfl) (by kernel_rfl)
/-- laws.toContextS -/
noncomputable def fiK8 : FI := fiOf Try.f8 [] [] [] true
theorem okK8 : FnOk Try.prog drawOk 8 fiK8 := .of Try.func8 (by kernel_rfl) (by kernel_rfl) (by kernel_rfl)
/-- impl.RowOf -/
noncomputable def fiK9 : FI := fiOf Try.f9 [] [(33, 1)] [] true 1 [37]
theorem okK9 : FnOk Try.prog drawOk 9 fiK9 := .of Try.func9 (by kernel_rfl) (by kernel_rfl) (by kernel_rfl)
/-- laws.markChecker -/
noncomputable def fiK13 : FI := fiOf Try.f13 [] [] [] true 0 [8, 12, 16, 20]
theorem okK13 : FnOk Try.prog drawOk 13 fiK13 := .of Try.func13 (by kernel_rfl) (by kernel_rfl) (by kernel_rfl)
/-- laws.markContextS -/
noncomputable def fiK14 : FI := fiOf Try.f14 [] [] [] true
theorem okK14 : FnOk Try.prog drawOk 14 fiK14 := .of Try.func14 (by kernel_rfl) (by kernel_rfl) (by kernel_rfl)
/-- laws.markBoolS -/
noncomputable def fiK15 : FI := fiOf Try.f15 [] [] [] true
theorem okK15 : FnOk Try.prog drawOk 15 fiK15 := .of Try.func15 (by kernel_rfl) (by kernel_rfl) (by kernel_rfl)
/-- laws.toBoolS -/
noncomputable def fiK26 : FI := fiOf Try.f26 [] [] [] true
theorem okK26 : FnOk Try.prog drawOk 26 fiK26 := .of Try.func26 (by kernel_rfl) (by kernel_rfl) (by kernel_rfl)
/-- laws.toPushSS -/
noncomputable def fiK27 : FI := fiOf Try.f27 [] [] [] true 0 [20]
theorem okK27 : FnOk Try.prog drawOk 27 fiK27 := .of Try.func27 (by kernel_rfl) (by kernel_rfl) (by kernel_rfl)
/-- laws.toInt64SSS -/
noncomputable def fiK28 : FI := fiOf Try.f28 [] [] [] true 0 [20]
theorem okK28 : FnOk Try.prog drawOk 28 fiK28 := .of Try.func28 (by kernel_rfl) (by kernel_rfl) (by kernel_rfl)
/-- laws.toInt64SS -/
noncomputable def fiK29 : FI := fiOf Try.f29 [] [] [] true 0 [20]
theorem okK29 : FnOk Try.prog drawOk 29 fiK29 := .of Try.func29 (by kernel_rfl) (by kernel_rfl) (by kernel_rfl)
/-- (*impl.asker).row -/
noncomputable def fiK36 : FI := fiOf Try.f36 [] [] [24] true
theorem okK36 : FnOk Try.prog drawOk 36 fiK36 := .of Try.func36 (by kernel_rfl) (by kernel_rfl) (by kernel_rfl)
/-- laws.markPushSS -/
noncomputable def fiK41 : FI := fiOf Try.f41 [] [] [] true 0 [17]
theorem okK41 : FnOk Try.prog drawOk 41 fiK41 := .of Try.func41 (by kernel_rfl) (by kernel_rfl) (by kernel_rfl)
/-- laws.markInt64SSS -/
noncomputable def fiK42 : FI := fiOf Try.f42 [] [] [] true 0 [17]
theorem okK42 : FnOk Try.prog drawOk 42 fiK42 := .of Try.func42 (by kernel_rfl) (by kernel_rfl) (by kernel_rfl)
/-- laws.markInt64SS -/
noncomputable def fiK43 : FI := fiOf Try.f43 [] [] [] true 0 [17]
theorem okK43 : FnOk Try.prog drawOk 43 fiK43 := .of Try.func43 (by kernel_rfl) (by kernel_rfl) (by kernel_rfl)
/-- laws.toPushS -/
noncomputable def fiK52 : FI := fiOf Try.f52 [] [] [] true
theorem okK52 : FnOk Try.prog drawOk 52 fiK52 := .of Try.func52 (by kernel_rfl) (by kernel_rfl) (by kernel_rfl)
/-- laws.toInt64S -/
noncomputable def fiK53 : FI := fiOf Try.f53 [] [] [] true
theorem okK53 : FnOk Try.prog drawOk 53 fiK53 := .of Try.func53 (by kernel_rfl) (by kernel_rfl) (by kernel_rfl)
/-- laws.markPushS -/
noncomputable def fiK72 : FI := fiOf Try.f72 [] [] [] true
theorem okK72 : FnOk Try.prog drawOk 72 fiK72 := .of Try.func72 (by kernel_rfl) (by kernel_rfl) (by kernel_rfl)
/-- laws.markInt64S -/
noncomputable def fiK73 : FI := fiOf Try.f73 [] [] [] true
theorem okK73 : FnOk Try.prog drawOk 73 fiK73 := .of Try.func73 (by kernel_rfl) (by kernel_rfl) (by kernel_rfl)
noncomputable def fnKT : Tree FI := .node (.node (.node (.node (.node (.leaf) 7 fiK7 (.leaf)) 8 fiK8 (.leaf)) 9 fiK9 (.node (.leaf) 13 fiK13 (.leaf))) 14 fiK14 (.node (.node (.node (.leaf) 15 fiK15 (.leaf)) 26 fiK26 (.leaf)) 27 fiK27 (.node (.leaf) 28 fiK28 (.leaf)))) 29 fiK29 (.node (.node (.node (.node (.leaf) 36 fiK36 (.leaf)) 41 fiK41 (.leaf)) 42 fiK42 (.node (.leaf) 43 fiK43 (.leaf))) 52 fiK52 (.node (.node (.leaf) 53 fiK53 (.leaf)) 72 fiK72 (.node (.leaf) 73 fiK73 (.leaf))))
theorem fnKOk : fnKT.Each (FnOk Try.prog drawOk) := ⟨okK29, ⟨okK14, ⟨okK9, ⟨okK8, ⟨okK7, trivial, trivial⟩, trivial⟩, ⟨okK13, trivial, trivial⟩⟩, ⟨okK27, ⟨okK26, ⟨okK15, trivial, trivial⟩, trivial⟩, ⟨okK28, trivial, trivial⟩⟩⟩, ⟨okK52, ⟨okK42, ⟨okK41, ⟨okK36, trivial, trivial⟩, trivial⟩, ⟨okK43, trivial, trivial⟩⟩, ⟨okK72, ⟨okK53, trivial, trivial⟩, ⟨okK73, trivial, trivial⟩⟩⟩⟩
end Go.Proofs.Ytchahpmelikoaaa.law
