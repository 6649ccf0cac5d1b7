/- The evaluator's tables of types and functions of this seat. -/
import Derived.Test.YtolbkojnnofnaaaDoorAe2
import Derived.Test.YtolbkojnnofnaaaDoorProg
import Derived.KernelRfl
set_option linter.unusedVariables false
set_option linter.unusedSimpArgs false
namespace Go.Proofs.YtolbkojnnofnaaaDoor.law
open Go Go.Proofs Ae

def ty1 : TI := ⟨.func, 1, 8, .nilfn⟩
def ty2 : TI := ⟨.int .i64, 1, 8, .int .i64 0⟩
def ty3 : TI := ⟨.int .i64, 1, 8, .int .i64 0⟩
def ty4 : TI := ⟨.bool, 1, 1, .bool false⟩
def ty5 : TI := ⟨.int .u8, 1, 1, .int .u8 0⟩
def ty6 : TI := ⟨.int .u8, 1, 1, .int .u8 0⟩
def ty7 : TI := ⟨.struct [(0, 2), (1, 3), (2, 4), (3, 6)], 4, 24, .agg [.int .i64 0, .int .i64 0, .bool false, .int .u8 0]⟩
def ty8 : TI := ⟨.struct [(0, 2), (1, 3), (2, 4), (3, 6)], 4, 24, .agg [.int .i64 0, .int .i64 0, .bool false, .int .u8 0]⟩
def ty9 : TI := ⟨.str, 1, 16, .str []⟩
def ty10 : TI := ⟨.str, 1, 16, .str []⟩
def ty11 : TI := ⟨.str, 1, 16, .str []⟩
def ty12 : TI := ⟨.int .u64, 1, 8, .int .u64 0⟩
def ty13 : TI := ⟨.struct [(0, 9), (1, 12)], 2, 24, .agg [.str [], .int .u64 0]⟩
def ty14 : TI := ⟨.struct [(0, 9), (1, 12)], 2, 24, .agg [.str [], .int .u64 0]⟩
def ty15 : TI := ⟨.ptr, 1, 8, .nilp⟩
def ty16 : TI := ⟨.ptr, 1, 8, .nilp⟩
def ty17 : TI := ⟨.ptr, 1, 8, .nilp⟩
def ty18 : TI := ⟨.struct [(0, 17)], 1, 8, .agg [.nilp]⟩
def ty19 : TI := ⟨.struct [(0, 17)], 1, 8, .agg [.nilp]⟩
def ty21 : TI := ⟨.int .i32, 1, 4, .int .i32 0⟩
def ty22 : TI := ⟨.struct [(0, 2), (1, 2), (2, 2)], 3, 24, .agg [.int .i64 0, .int .i64 0, .int .i64 0]⟩
def ty23 : TI := ⟨.struct [(0, 2), (1, 2), (2, 2)], 3, 24, .agg [.int .i64 0, .int .i64 0, .int .i64 0]⟩
def ty24 : TI := ⟨.func, 1, 8, .nilfn⟩
def ty25 : TI := ⟨.struct [(0, 2), (1, 2), (2, 2)], 3, 24, .agg [.int .i64 0, .int .i64 0, .int .i64 0]⟩
def ty26 : TI := ⟨.func, 1, 8, .nilfn⟩
def ty27 : TI := ⟨.func, 1, 8, .nilfn⟩
def ty28 : TI := ⟨.func, 1, 8, .nilfn⟩
def ty29 : TI := ⟨.slice 9, 1, 24, .sl 0 true []⟩
def ty30 : TI := ⟨.slice 3, 1, 24, .sl 0 true []⟩
def ty32 : TI := ⟨.func, 1, 8, .nilfn⟩
def ty33 : TI := ⟨.func, 1, 8, .nilfn⟩
def ty34 : TI := ⟨.slice 2, 1, 24, .sl 0 true []⟩
def ty36 : TI := ⟨.func, 1, 8, .nilfn⟩
def ty37 : TI := ⟨.func, 1, 8, .nilfn⟩
def ty38 : TI := ⟨.func, 1, 8, .nilfn⟩
def ty39 : TI := ⟨.func, 1, 8, .nilfn⟩
def ty40 : TI := ⟨.slice 5, 1, 24, .sl 0 true []⟩
def ty41 : TI := ⟨.func, 1, 8, .nilfn⟩
def ty42 : TI := ⟨.array 24 5, 24, 24, .agg [.int .u8 0, .int .u8 0, .int .u8 0, .int .u8 0, .int .u8 0, .int .u8 0, .int .u8 0, .int .u8 0, .int .u8 0, .int .u8 0, .int .u8 0, .int .u8 0, .int .u8 0, .int .u8 0, .int .u8 0, .int .u8 0, .int .u8 0, .int .u8 0, .int .u8 0, .int .u8 0, .int .u8 0, .int .u8 0, .int .u8 0, .int .u8 0]⟩
def ty43 : TI := ⟨.int .u64, 1, 8, .int .u64 0⟩
def ty44 : TI := ⟨.func, 1, 8, .nilfn⟩
def ty45 : TI := ⟨.func, 1, 8, .nilfn⟩
def ty47 : TI := ⟨.func, 1, 8, .nilfn⟩
def ty48 : TI := ⟨.func, 1, 8, .nilfn⟩
def ty49 : TI := ⟨.func, 1, 8, .nilfn⟩
def ty50 : TI := ⟨.array 20 43, 20, 160, .agg [.int .u64 0, .int .u64 0, .int .u64 0, .int .u64 0, .int .u64 0, .int .u64 0, .int .u64 0, .int .u64 0, .int .u64 0, .int .u64 0, .int .u64 0, .int .u64 0, .int .u64 0, .int .u64 0, .int .u64 0, .int .u64 0, .int .u64 0, .int .u64 0, .int .u64 0, .int .u64 0]⟩
def ty51 : TI := ⟨.int .u32, 1, 4, .int .u32 0⟩
def ty52 : TI := ⟨.array 65 5, 65, 65, .agg [.int .u8 0, .int .u8 0, .int .u8 0, .int .u8 0, .int .u8 0, .int .u8 0, .int .u8 0, .int .u8 0, .int .u8 0, .int .u8 0, .int .u8 0, .int .u8 0, .int .u8 0, .int .u8 0, .int .u8 0, .int .u8 0, .int .u8 0, .int .u8 0, .int .u8 0, .int .u8 0, .int .u8 0, .int .u8 0, .int .u8 0, .int .u8 0, .int .u8 0, .int .u8 0, .int .u8 0, .int .u8 0, .int .u8 0, .int .u8 0, .int .u8 0, .int .u8 0, .int .u8 0, .int .u8 0, .int .u8 0, .int .u8 0, .int .u8 0, .int .u8 0, .int .u8 0, .int .u8 0, .int .u8 0, .int .u8 0, .int .u8 0, .int .u8 0, .int .u8 0, .int .u8 0, .int .u8 0, .int .u8 0, .int .u8 0, .int .u8 0, .int .u8 0, .int .u8 0, .int .u8 0, .int .u8 0, .int .u8 0, .int .u8 0, .int .u8 0, .int .u8 0, .int .u8 0, .int .u8 0, .int .u8 0, .int .u8 0, .int .u8 0, .int .u8 0, .int .u8 0]⟩
def ty53 : TI := ⟨.func, 1, 8, .nilfn⟩
def ty54 : TI := ⟨.int .u64, 1, 8, .int .u64 0⟩
def ty55 : TI := ⟨.func, 1, 8, .nilfn⟩
def ty56 : TI := ⟨.func, 1, 8, .nilfn⟩
def ty57 : TI := ⟨.array 32 5, 32, 32, .agg [.int .u8 0, .int .u8 0, .int .u8 0, .int .u8 0, .int .u8 0, .int .u8 0, .int .u8 0, .int .u8 0, .int .u8 0, .int .u8 0, .int .u8 0, .int .u8 0, .int .u8 0, .int .u8 0, .int .u8 0, .int .u8 0, .int .u8 0, .int .u8 0, .int .u8 0, .int .u8 0, .int .u8 0, .int .u8 0, .int .u8 0, .int .u8 0, .int .u8 0, .int .u8 0, .int .u8 0, .int .u8 0, .int .u8 0, .int .u8 0, .int .u8 0, .int .u8 0]⟩
def ty58 : TI := ⟨.array 64 5, 64, 64, .agg [.int .u8 0, .int .u8 0, .int .u8 0, .int .u8 0, .int .u8 0, .int .u8 0, .int .u8 0, .int .u8 0, .int .u8 0, .int .u8 0, .int .u8 0, .int .u8 0, .int .u8 0, .int .u8 0, .int .u8 0, .int .u8 0, .int .u8 0, .int .u8 0, .int .u8 0, .int .u8 0, .int .u8 0, .int .u8 0, .int .u8 0, .int .u8 0, .int .u8 0, .int .u8 0, .int .u8 0, .int .u8 0, .int .u8 0, .int .u8 0, .int .u8 0, .int .u8 0, .int .u8 0, .int .u8 0, .int .u8 0, .int .u8 0, .int .u8 0, .int .u8 0, .int .u8 0, .int .u8 0, .int .u8 0, .int .u8 0, .int .u8 0, .int .u8 0, .int .u8 0, .int .u8 0, .int .u8 0, .int .u8 0, .int .u8 0, .int .u8 0, .int .u8 0, .int .u8 0, .int .u8 0, .int .u8 0, .int .u8 0, .int .u8 0, .int .u8 0, .int .u8 0, .int .u8 0, .int .u8 0, .int .u8 0, .int .u8 0, .int .u8 0, .int .u8 0]⟩
def ty59 : TI := ⟨.func, 1, 8, .nilfn⟩
def ty60 : TI := ⟨.struct [(0, 17), (1, 17), (2, 17), (3, 9)], 4, 40, .agg [.nilp, .nilp, .nilp, .str []]⟩
def ty61 : TI := ⟨.struct [(0, 17), (1, 17), (2, 17), (3, 9)], 4, 40, .agg [.nilp, .nilp, .nilp, .str []]⟩
def ty62 : TI := ⟨.array 0 16, 0, 0, .agg []⟩
def ty63 : TI := ⟨.struct [(0, 62)], 0, 0, .agg []⟩
def ty64 : TI := ⟨.struct [(0, 62)], 0, 0, .agg []⟩
def ty65 : TI := ⟨.func, 1, 8, .nilfn⟩
def ty66 : TI := ⟨.int .u8, 1, 1, .int .u8 0⟩
def ty67 : TI := ⟨.int .u8, 1, 1, .int .u8 0⟩
def ty68 : TI := ⟨.func, 1, 8, .nilfn⟩
def ty69 : TI := ⟨.ptr, 1, 8, .nilp⟩
def ty70 : TI := ⟨.int .i32, 1, 4, .int .i32 0⟩
def ty71 : TI := ⟨.int .i32, 1, 4, .int .i32 0⟩
def ty72 : TI := ⟨.struct [(0, 12), (1, 12), (2, 51), (3, 66), (4, 5), (5, 5), (6, 67), (7, 68), (8, 69), (9, 70), (10, 71)], 11, 48, .agg [.int .u64 0, .int .u64 0, .int .u32 0, .int .u8 0, .int .u8 0, .int .u8 0, .int .u8 0, .nilfn, .nilp, .int .i32 0, .int .i32 0]⟩
def ty73 : TI := ⟨.struct [(0, 12), (1, 12), (2, 51), (3, 66), (4, 5), (5, 5), (6, 67), (7, 68), (8, 69), (9, 70), (10, 71)], 11, 48, .agg [.int .u64 0, .int .u64 0, .int .u32 0, .int .u8 0, .int .u8 0, .int .u8 0, .int .u8 0, .nilfn, .nilp, .int .i32 0, .int .i32 0]⟩
def tyT : Tree TI := .node (.node (.node (.node (.node (.node (.node (.leaf) 1 ty1 (.leaf)) 2 ty2 (.leaf)) 3 ty3 (.node (.leaf) 4 ty4 (.leaf))) 5 ty5 (.node (.node (.leaf) 6 ty6 (.leaf)) 7 ty7 (.node (.leaf) 8 ty8 (.leaf)))) 9 ty9 (.node (.node (.node (.node (.leaf) 10 ty10 (.leaf)) 11 ty11 (.leaf)) 12 ty12 (.node (.leaf) 13 ty13 (.leaf))) 14 ty14 (.node (.node (.leaf) 15 ty15 (.leaf)) 16 ty16 (.node (.leaf) 17 ty17 (.leaf))))) 18 ty18 (.node (.node (.node (.node (.node (.leaf) 19 ty19 (.leaf)) 21 ty21 (.leaf)) 22 ty22 (.node (.leaf) 23 ty23 (.leaf))) 24 ty24 (.node (.node (.leaf) 25 ty25 (.leaf)) 26 ty26 (.node (.leaf) 27 ty27 (.leaf)))) 28 ty28 (.node (.node (.node (.leaf) 29 ty29 (.leaf)) 30 ty30 (.node (.leaf) 32 ty32 (.leaf))) 33 ty33 (.node (.node (.leaf) 34 ty34 (.leaf)) 36 ty36 (.node (.leaf) 37 ty37 (.leaf)))))) 38 ty38 (.node (.node (.node (.node (.node (.node (.leaf) 39 ty39 (.leaf)) 40 ty40 (.leaf)) 41 ty41 (.node (.leaf) 42 ty42 (.leaf))) 43 ty43 (.node (.node (.leaf) 44 ty44 (.leaf)) 45 ty45 (.node (.leaf) 47 ty47 (.leaf)))) 48 ty48 (.node (.node (.node (.node (.leaf) 49 ty49 (.leaf)) 50 ty50 (.leaf)) 51 ty51 (.node (.leaf) 52 ty52 (.leaf))) 53 ty53 (.node (.node (.leaf) 54 ty54 (.leaf)) 55 ty55 (.node (.leaf) 56 ty56 (.leaf))))) 57 ty57 (.node (.node (.node (.node (.node (.leaf) 58 ty58 (.leaf)) 59 ty59 (.leaf)) 60 ty60 (.node (.leaf) 61 ty61 (.leaf))) 62 ty62 (.node (.node (.leaf) 63 ty63 (.leaf)) 64 ty64 (.node (.leaf) 65 ty65 (.leaf)))) 66 ty66 (.node (.node (.node (.leaf) 67 ty67 (.leaf)) 68 ty68 (.node (.leaf) 69 ty69 (.leaf))) 70 ty70 (.node (.node (.leaf) 71 ty71 (.leaf)) 72 ty72 (.node (.leaf) 73 ty73 (.leaf))))))
theorem tyOk : tyT.all (tyB Tryd.prog) = true := by kernel_rfl
/-- laws.FnExactDeedText -/
noncomputable def fi3 : FI := fiOf Tryd.f3 [] [] [] false
theorem ok3 : FnOk Tryd.prog drawOk 3 fi3 := .of Tryd.func3 (by kernel_rfl) (by kernel_rfl) (by kernel_rfl)
/-- spec.DeedText -/
noncomputable def fi4 : FI := fiOf Tryd.f4 [] [] [] false
theorem ok4 : FnOk Tryd.prog drawOk 4 fi4 := .of Tryd.func4 (by kernel_rfl) (by kernel_rfl) (by kernel_rfl)
/-- laws.toDeed -/
noncomputable def fi5 : FI := fiOf Tryd.f5 [] [(3, 1)] [] false
theorem ok5 : FnOk Tryd.prog drawOk 5 fi5 := .of Tryd.func5 (by kernel_rfl) (by kernel_rfl) (by kernel_rfl)
/-- impl.DeedText -/
noncomputable def fi6 : FI := fiOf Tryd.f6 [] [] [] false
theorem ok6 : FnOk Tryd.prog drawOk 6 fi6 := .of Tryd.func6 (by kernel_rfl) (by kernel_rfl) (by kernel_rfl)
/-- spec.l08Deed -/
noncomputable def fi7 : FI := fiOf Tryd.f7 [] [] [] false
theorem ok7 : FnOk Tryd.prog drawOk 7 fi7 := .of Tryd.func7 (by kernel_rfl) (by kernel_rfl) (by kernel_rfl)
/-- spec.l08Words -/
noncomputable def fi8 : FI := fiOf Tryd.f8 [] [] [] false
theorem ok8 : FnOk Tryd.prog drawOk 8 fi8 := .of Tryd.func8 (by kernel_rfl) (by kernel_rfl) (by kernel_rfl)
/-- spec.l02Row -/
noncomputable def fi9 : FI := fiOf Tryd.f9 [] [] [] false
theorem ok9 : FnOk Tryd.prog drawOk 9 fi9 := .of Tryd.func9 (by kernel_rfl) (by kernel_rfl) (by kernel_rfl)
/-- impl.ValidDeed -/
noncomputable def fi10 : FI := fiOf Tryd.f10 [] [] [] false
theorem ok10 : FnOk Tryd.prog drawOk 10 fi10 := .of Tryd.func10 (by kernel_rfl) (by kernel_rfl) (by kernel_rfl)
/-- impl.deedWord -/
noncomputable def fi11 : FI := fiOf Tryd.f11 [] [] [] false
theorem ok11 : FnOk Tryd.prog drawOk 11 fi11 := .of Tryd.func11 (by kernel_rfl) (by kernel_rfl) (by kernel_rfl)
/-- impl.decimal -/
noncomputable def fi12 : FI := fiOf Tryd.f12 [] [] [] false
theorem ok12 : FnOk Tryd.prog drawOk 12 fi12 := .of Tryd.func12 (by kernel_rfl) (by kernel_rfl) (by kernel_rfl)
/-- spec.l00In -/
noncomputable def fi13 : FI := fiOf Tryd.f13 [] [] [] false
theorem ok13 : FnOk Tryd.prog drawOk 13 fi13 := .of Tryd.func13 (by kernel_rfl) (by kernel_rfl) (by kernel_rfl)
/-- spec.Decimal -/
noncomputable def fi14 : FI := fiOf Tryd.f14 [] [] [] false
theorem ok14 : FnOk Tryd.prog drawOk 14 fi14 := .of Tryd.func14 (by kernel_rfl) (by kernel_rfl) (by kernel_rfl)
/-- impl.within -/
noncomputable def fi15 : FI := fiOf Tryd.f15 [] [] [] false
theorem ok15 : FnOk Tryd.prog drawOk 15 fi15 := .of Tryd.func15 (by kernel_rfl) (by kernel_rfl) (by kernel_rfl)
/-- strconv.FormatInt -/
noncomputable def fi16 : FI := fiOf Tryd.f16 [] [] [] false
theorem ok16 : FnOk Tryd.prog drawOk 16 fi16 := .of Tryd.func16 (by kernel_rfl) (by kernel_rfl) (by kernel_rfl)
/-- internal/strconv.FormatInt -/
noncomputable def fi17 : FI := fiOf Tryd.f17 [] [(5, 1)] [] false
theorem ok17 : FnOk Tryd.prog drawOk 17 fi17 := .of Tryd.func17 (by kernel_rfl) (by kernel_rfl) (by kernel_rfl)
/-- internal/strconv.small -/
noncomputable def fi18 : FI := fiOf Tryd.f18 [] [] [] false
theorem ok18 : FnOk Tryd.prog drawOk 18 fi18 := .of Tryd.func18 (by kernel_rfl) (by kernel_rfl) (by kernel_rfl)
/-- internal/strconv.numDigits -/
noncomputable def fi19 : FI := fiOf Tryd.f19 [] [] [] false
theorem ok19 : FnOk Tryd.prog drawOk 19 fi19 := .of Tryd.func19 (by kernel_rfl) (by kernel_rfl) (by kernel_rfl)
/-- internal/strconv.formatBase10 -/
noncomputable def fi20 : FI := fiOf Tryd.f20 [] [] [] false
theorem ok20 : FnOk Tryd.prog drawOk 20 fi20 := .of Tryd.func20 (by kernel_rfl) (by kernel_rfl) (by kernel_rfl)
/-- internal/strconv.formatBits -/
noncomputable def fi21 : FI := fiOf Tryd.f21 [95] [(12, 1)] [] false
theorem ok21 : FnOk Tryd.prog drawOk 21 fi21 := .of Tryd.func21 (by kernel_rfl) (by kernel_rfl) (by kernel_rfl)
/-- internal/strconv.log10Pow2 -/
noncomputable def fi22 : FI := fiOf Tryd.f22 [] [] [] false
theorem ok22 : FnOk Tryd.prog drawOk 22 fi22 := .of Tryd.func22 (by kernel_rfl) (by kernel_rfl) (by kernel_rfl)
/-- math/bits.Len64 -/
noncomputable def fi23 : FI := fiOf Tryd.f23 [] [] [] false
theorem ok23 : FnOk Tryd.prog drawOk 23 fi23 := .of Tryd.func23 (by kernel_rfl) (by kernel_rfl) (by kernel_rfl)
/-- internal/strconv.bool2[int] -/
noncomputable def fi24 : FI := fiOf Tryd.f24 [] [] [] false
theorem ok24 : FnOk Tryd.prog drawOk 24 fi24 := .of Tryd.func24 (by kernel_rfl) (by kernel_rfl) (by kernel_rfl)
/-- internal/strconv.isPowerOfTwo -/
noncomputable def fi25 : FI := fiOf Tryd.f25 [] [] [] false
theorem ok25 : FnOk Tryd.prog drawOk 25 fi25 := .of Tryd.func25 (by kernel_rfl) (by kernel_rfl) (by kernel_rfl)
/-- math/bits.TrailingZeros -/
noncomputable def fi26 : FI := fiOf Tryd.f26 [] [] [] false
theorem ok26 : FnOk Tryd.prog drawOk 26 fi26 := .of Tryd.func26 (by kernel_rfl) (by kernel_rfl) (by kernel_rfl)
/-- math/bits.TrailingZeros32 -/
noncomputable def fi27 : FI := fiOf Tryd.f27 [] [] [] false
theorem ok27 : FnOk Tryd.prog drawOk 27 fi27 := .of Tryd.func27 (by kernel_rfl) (by kernel_rfl) (by kernel_rfl)
/-- math/bits.TrailingZeros64 -/
noncomputable def fi28 : FI := fiOf Tryd.f28 [] [] [] false
theorem ok28 : FnOk Tryd.prog drawOk 28 fi28 := .of Tryd.func28 (by kernel_rfl) (by kernel_rfl) (by kernel_rfl)
noncomputable def fnT : Tree FI := .node (.node (.node (.node (.node (.leaf) 3 fi3 (.leaf)) 4 fi4 (.node (.leaf) 5 fi5 (.leaf))) 6 fi6 (.node (.node (.leaf) 7 fi7 (.leaf)) 8 fi8 (.leaf))) 9 fi9 (.node (.node (.node (.leaf) 10 fi10 (.leaf)) 11 fi11 (.node (.leaf) 12 fi12 (.leaf))) 13 fi13 (.node (.node (.leaf) 14 fi14 (.leaf)) 15 fi15 (.leaf)))) 16 fi16 (.node (.node (.node (.node (.leaf) 17 fi17 (.leaf)) 18 fi18 (.node (.leaf) 19 fi19 (.leaf))) 20 fi20 (.node (.node (.leaf) 21 fi21 (.leaf)) 22 fi22 (.leaf))) 23 fi23 (.node (.node (.node (.leaf) 24 fi24 (.leaf)) 25 fi25 (.leaf)) 26 fi26 (.node (.node (.leaf) 27 fi27 (.leaf)) 28 fi28 (.leaf))))
theorem fnOk : fnT.Each (FnOk Tryd.prog drawOk) := ⟨ok16, ⟨ok9, ⟨ok6, ⟨ok4, ⟨ok3, trivial, trivial⟩, ⟨ok5, trivial, trivial⟩⟩, ⟨ok8, ⟨ok7, trivial, trivial⟩, trivial⟩⟩, ⟨ok13, ⟨ok11, ⟨ok10, trivial, trivial⟩, ⟨ok12, trivial, trivial⟩⟩, ⟨ok15, ⟨ok14, trivial, trivial⟩, trivial⟩⟩⟩, ⟨ok23, ⟨ok20, ⟨ok18, ⟨ok17, trivial, trivial⟩, ⟨ok19, trivial, trivial⟩⟩, ⟨ok22, ⟨ok21, trivial, trivial⟩, trivial⟩⟩, ⟨ok26, ⟨ok25, ⟨ok24, trivial, trivial⟩, trivial⟩, ⟨ok28, ⟨ok27, trivial, trivial⟩, trivial⟩⟩⟩⟩
noncomputable def fnKT : Tree FI := .leaf
theorem fnKOk : fnKT.Each (FnOk Tryd.prog drawOk) := trivial
end Go.Proofs.YtolbkojnnofnaaaDoor.law
