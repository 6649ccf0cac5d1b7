/- The evaluator's tables of types and functions of this seat. -/
import Derived.Test.YtolbkojnnofnaaaAe2
import Derived.Test.YtolbkojnnofnaaaProg
import Derived.KernelRfl
set_option linter.unusedVariables false
namespace Go.Proofs.Ytolbkojnnofnaaa.law
open Go Go.Proofs Ae

def ty1 : TI := ⟨.func, 1, 8, .nilfn⟩
def ty2 : TI := ⟨.int .i64, 1, 8, .int .i64 0⟩
def ty3 : TI := ⟨.int .i64, 1, 8, .int .i64 0⟩
def ty4 : TI := ⟨.bool, 1, 1, .bool false⟩
def ty5 : TI := ⟨.int .u8, 1, 1, .int .u8 0⟩
def ty6 : TI := ⟨.int .u8, 1, 1, .int .u8 0⟩
def ty7 : TI := ⟨.struct [(0, 2), (1, 3), (2, 4), (3, 6)], 4, 24, .agg [.int .i64 0, .int .i64 0, .bool false, .int .u8 0]⟩
def ty8 : TI := ⟨.struct [(0, 2), (1, 3), (2, 4), (3, 6)], 4, 24, .agg [.int .i64 0, .int .i64 0, .bool false, .int .u8 0]⟩
def ty9 : TI := ⟨.str, 1, 16, .str []⟩
def ty10 : TI := ⟨.str, 1, 16, .str []⟩
def ty11 : TI := ⟨.str, 1, 16, .str []⟩
def ty12 : TI := ⟨.int .u64, 1, 8, .int .u64 0⟩
def ty13 : TI := ⟨.struct [(0, 9), (1, 12)], 2, 24, .agg [.str [], .int .u64 0]⟩
def ty14 : TI := ⟨.struct [(0, 9), (1, 12)], 2, 24, .agg [.str [], .int .u64 0]⟩
def ty15 : TI := ⟨.ptr, 1, 8, .nilp⟩
def ty16 : TI := ⟨.ptr, 1, 8, .nilp⟩
def ty17 : TI := ⟨.ptr, 1, 8, .nilp⟩
def ty18 : TI := ⟨.struct [(0, 17)], 1, 8, .agg [.nilp]⟩
def ty19 : TI := ⟨.struct [(0, 17)], 1, 8, .agg [.nilp]⟩
def ty21 : TI := ⟨.int .i32, 1, 4, .int .i32 0⟩
def ty22 : TI := ⟨.struct [(0, 2), (1, 2), (2, 2)], 3, 24, .agg [.int .i64 0, .int .i64 0, .int .i64 0]⟩
def ty23 : TI := ⟨.struct [(0, 2), (1, 2), (2, 2)], 3, 24, .agg [.int .i64 0, .int .i64 0, .int .i64 0]⟩
def ty24 : TI := ⟨.func, 1, 8, .nilfn⟩
def ty25 : TI := ⟨.struct [(0, 2), (1, 2), (2, 2)], 3, 24, .agg [.int .i64 0, .int .i64 0, .int .i64 0]⟩
def ty26 : TI := ⟨.func, 1, 8, .nilfn⟩
def ty27 : TI := ⟨.func, 1, 8, .nilfn⟩
def ty28 : TI := ⟨.slice 98, 1, 24, .sl 0 true []⟩
def ty29 : TI := ⟨.struct [(0, 28)], 1, 24, .agg [.sl 0 true []]⟩
def ty30 : TI := ⟨.struct [(0, 28)], 1, 24, .agg [.sl 0 true []]⟩
def ty31 : TI := ⟨.func, 1, 8, .nilfn⟩
def ty33 : TI := ⟨.func, 1, 8, .nilfn⟩
def ty34 : TI := ⟨.slice 102, 1, 24, .sl 0 true []⟩
def ty35 : TI := ⟨.struct [(0, 34)], 1, 24, .agg [.sl 0 true []]⟩
def ty36 : TI := ⟨.struct [(0, 34)], 1, 24, .agg [.sl 0 true []]⟩
def ty37 : TI := ⟨.func, 1, 8, .nilfn⟩
def ty38 : TI := ⟨.func, 1, 8, .nilfn⟩
def ty39 : TI := ⟨.func, 1, 8, .nilfn⟩
def ty40 : TI := ⟨.slice 4, 1, 24, .sl 0 true []⟩
def ty41 : TI := ⟨.slice 182, 1, 24, .sl 0 true []⟩
def ty42 : TI := ⟨.slice 43, 1, 24, .sl 0 true []⟩
def ty43 : TI := ⟨.slice 116, 1, 24, .sl 0 true []⟩
def ty44 : TI := ⟨.struct [(0, 2), (1, 2), (2, 40), (3, 41), (4, 42), (5, 43)], 6, 112, .agg [.int .i64 0, .int .i64 0, .sl 0 true [], .sl 0 true [], .sl 0 true [], .sl 0 true []]⟩
def ty45 : TI := ⟨.struct [(0, 2), (1, 2), (2, 40), (3, 41), (4, 42), (5, 43)], 6, 112, .agg [.int .i64 0, .int .i64 0, .sl 0 true [], .sl 0 true [], .sl 0 true [], .sl 0 true []]⟩
def ty46 : TI := ⟨.slice 9, 1, 24, .sl 0 true []⟩
def ty47 : TI := ⟨.struct [(0, 45), (6, 46)], 7, 136, .agg [.int .i64 0, .int .i64 0, .sl 0 true [], .sl 0 true [], .sl 0 true [], .sl 0 true [], .sl 0 true []]⟩
def ty48 : TI := ⟨.struct [(0, 45), (6, 46)], 7, 136, .agg [.int .i64 0, .int .i64 0, .sl 0 true [], .sl 0 true [], .sl 0 true [], .sl 0 true [], .sl 0 true []]⟩
def ty49 : TI := ⟨.func, 1, 8, .nilfn⟩
def ty50 : TI := ⟨.func, 1, 8, .nilfn⟩
def ty51 : TI := ⟨.slice 137, 1, 24, .sl 0 true []⟩
def ty52 : TI := ⟨.struct [(0, 2), (1, 2), (2, 40), (3, 51), (4, 42), (5, 43)], 6, 112, .agg [.int .i64 0, .int .i64 0, .sl 0 true [], .sl 0 true [], .sl 0 true [], .sl 0 true []]⟩
def ty53 : TI := ⟨.struct [(0, 2), (1, 2), (2, 40), (3, 51), (4, 42), (5, 43)], 6, 112, .agg [.int .i64 0, .int .i64 0, .sl 0 true [], .sl 0 true [], .sl 0 true [], .sl 0 true []]⟩
def ty54 : TI := ⟨.struct [(0, 53), (6, 46)], 7, 136, .agg [.int .i64 0, .int .i64 0, .sl 0 true [], .sl 0 true [], .sl 0 true [], .sl 0 true [], .sl 0 true []]⟩
def ty55 : TI := ⟨.struct [(0, 53), (6, 46)], 7, 136, .agg [.int .i64 0, .int .i64 0, .sl 0 true [], .sl 0 true [], .sl 0 true [], .sl 0 true [], .sl 0 true []]⟩
def ty56 : TI := ⟨.func, 1, 8, .nilfn⟩
def ty57 : TI := ⟨.func, 1, 8, .nilfn⟩
def ty58 : TI := ⟨.func, 1, 8, .nilfn⟩
def ty60 : TI := ⟨.func, 1, 8, .nilfn⟩
def ty62 : TI := ⟨.func, 1, 8, .nilfn⟩
def ty63 : TI := ⟨.func, 1, 8, .nilfn⟩
def ty65 : TI := ⟨.func, 1, 8, .nilfn⟩
def ty66 : TI := ⟨.func, 1, 8, .nilfn⟩
def ty67 : TI := ⟨.func, 1, 8, .nilfn⟩
def ty68 : TI := ⟨.func, 1, 8, .nilfn⟩
def ty69 : TI := ⟨.ptr, 1, 8, .nilp⟩
def ty70 : TI := ⟨.func, 1, 8, .nilfn⟩
def ty71 : TI := ⟨.func, 1, 8, .nilfn⟩
def ty72 : TI := ⟨.func, 1, 8, .nilfn⟩
def ty73 : TI := ⟨.func, 1, 8, .nilfn⟩
def ty74 : TI := ⟨.func, 1, 8, .nilfn⟩
def ty75 : TI := ⟨.func, 1, 8, .nilfn⟩
def ty76 : TI := ⟨.func, 1, 8, .nilfn⟩
def ty77 : TI := ⟨.func, 1, 8, .nilfn⟩
def ty78 : TI := ⟨.func, 1, 8, .nilfn⟩
def ty79 : TI := ⟨.func, 1, 8, .nilfn⟩
def ty80 : TI := ⟨.ptr, 1, 8, .nilp⟩
def ty81 : TI := ⟨.func, 1, 8, .nilfn⟩
def ty82 : TI := ⟨.func, 1, 8, .nilfn⟩
def ty83 : TI := ⟨.func, 1, 8, .nilfn⟩
def ty84 : TI := ⟨.func, 1, 8, .nilfn⟩
def ty85 : TI := ⟨.func, 1, 8, .nilfn⟩
def ty86 : TI := ⟨.func, 1, 8, .nilfn⟩
def ty87 : TI := ⟨.func, 1, 8, .nilfn⟩
def ty88 : TI := ⟨.func, 1, 8, .nilfn⟩
def ty89 : TI := ⟨.func, 1, 8, .nilfn⟩
def ty90 : TI := ⟨.func, 1, 8, .nilfn⟩
def ty91 : TI := ⟨.func, 1, 8, .nilfn⟩
def ty92 : TI := ⟨.slice 3, 1, 24, .sl 0 true []⟩
def ty94 : TI := ⟨.func, 1, 8, .nilfn⟩
def ty95 : TI := ⟨.func, 1, 8, .nilfn⟩
def ty96 : TI := ⟨.slice 192, 1, 24, .sl 0 true []⟩
def ty97 : TI := ⟨.struct [(0, 2), (1, 96)], 2, 32, .agg [.int .i64 0, .sl 0 true []]⟩
def ty98 : TI := ⟨.struct [(0, 2), (1, 96)], 2, 32, .agg [.int .i64 0, .sl 0 true []]⟩
def ty99 : TI := ⟨.ptr, 1, 8, .nilp⟩
def ty100 : TI := ⟨.slice 105, 1, 24, .sl 0 true []⟩
def ty101 : TI := ⟨.struct [(0, 2), (1, 100)], 2, 32, .agg [.int .i64 0, .sl 0 true []]⟩
def ty102 : TI := ⟨.struct [(0, 2), (1, 100)], 2, 32, .agg [.int .i64 0, .sl 0 true []]⟩
def ty103 : TI := ⟨.ptr, 1, 8, .nilp⟩
def ty104 : TI := ⟨.struct [(0, 2), (1, 2), (2, 9), (3, 2)], 4, 40, .agg [.int .i64 0, .int .i64 0, .str [], .int .i64 0]⟩
def ty105 : TI := ⟨.struct [(0, 2), (1, 2), (2, 9), (3, 2)], 4, 40, .agg [.int .i64 0, .int .i64 0, .str [], .int .i64 0]⟩
def ty106 : TI := ⟨.func, 1, 8, .nilfn⟩
def ty107 : TI := ⟨.func, 1, 8, .nilfn⟩
def ty108 : TI := ⟨.func, 1, 8, .nilfn⟩
def ty109 : TI := ⟨.func, 1, 8, .nilfn⟩
def ty110 : TI := ⟨.func, 1, 8, .nilfn⟩
def ty111 : TI := ⟨.func, 1, 8, .nilfn⟩
def ty112 : TI := ⟨.func, 1, 8, .nilfn⟩
def ty113 : TI := ⟨.func, 1, 8, .nilfn⟩
def ty114 : TI := ⟨.func, 1, 8, .nilfn⟩
def ty115 : TI := ⟨.func, 1, 8, .nilfn⟩
def ty116 : TI := ⟨.slice 2, 1, 24, .sl 0 true []⟩
def ty117 : TI := ⟨.struct [(0, 116), (1, 116), (2, 116), (3, 116), (4, 116)], 5, 120, .agg [.sl 0 true [], .sl 0 true [], .sl 0 true [], .sl 0 true [], .sl 0 true []]⟩
def ty118 : TI := ⟨.struct [(0, 116), (1, 116), (2, 116), (3, 116), (4, 116)], 5, 120, .agg [.sl 0 true [], .sl 0 true [], .sl 0 true [], .sl 0 true [], .sl 0 true []]⟩
def ty119 : TI := ⟨.func, 1, 8, .nilfn⟩
def ty120 : TI := ⟨.int .u64, 1, 8, .int .u64 0⟩
def ty121 : TI := ⟨.func, 1, 8, .nilfn⟩
def ty122 : TI := ⟨.func, 1, 8, .nilfn⟩
def ty123 : TI := ⟨.func, 1, 8, .nilfn⟩
def ty124 : TI := ⟨.func, 1, 8, .nilfn⟩
def ty125 : TI := ⟨.func, 1, 8, .nilfn⟩
def ty126 : TI := ⟨.func, 1, 8, .nilfn⟩
def ty127 : TI := ⟨.func, 1, 8, .nilfn⟩
def ty128 : TI := ⟨.func, 1, 8, .nilfn⟩
def ty129 : TI := ⟨.ptr, 1, 8, .nilp⟩
def ty130 : TI := ⟨.func, 1, 8, .nilfn⟩
def ty131 : TI := ⟨.func, 1, 8, .nilfn⟩
def ty132 : TI := ⟨.func, 1, 8, .nilfn⟩
def ty133 : TI := ⟨.func, 1, 8, .nilfn⟩
def ty134 : TI := ⟨.func, 1, 8, .nilfn⟩
def ty135 : TI := ⟨.func, 1, 8, .nilfn⟩
def ty136 : TI := ⟨.func, 1, 8, .nilfn⟩
def ty137 : TI := ⟨.slice 144, 1, 24, .sl 0 true []⟩
def ty138 : TI := ⟨.func, 1, 8, .nilfn⟩
def ty139 : TI := ⟨.func, 1, 8, .nilfn⟩
def ty140 : TI := ⟨.func, 1, 8, .nilfn⟩
def ty141 : TI := ⟨.func, 1, 8, .nilfn⟩
def ty142 : TI := ⟨.func, 1, 8, .nilfn⟩
def ty143 : TI := ⟨.struct [(0, 2), (1, 2)], 2, 16, .agg [.int .i64 0, .int .i64 0]⟩
def ty144 : TI := ⟨.struct [(0, 2), (1, 2)], 2, 16, .agg [.int .i64 0, .int .i64 0]⟩
def ty145 : TI := ⟨.func, 1, 8, .nilfn⟩
def ty146 : TI := ⟨.ptr, 1, 8, .nilp⟩
def ty147 : TI := ⟨.slice 5, 1, 24, .sl 0 true []⟩
def ty148 : TI := ⟨.struct [(0, 146), (1, 147)], 2, 32, .agg [.nilp, .sl 0 true []]⟩
def ty149 : TI := ⟨.struct [(0, 146), (1, 147)], 2, 32, .agg [.nilp, .sl 0 true []]⟩
def ty150 : TI := ⟨.func, 1, 8, .nilfn⟩
def ty154 : TI := ⟨.func, 1, 8, .nilfn⟩
def ty155 : TI := ⟨.func, 1, 8, .nilfn⟩
def ty156 : TI := ⟨.func, 1, 8, .nilfn⟩
def ty157 : TI := ⟨.func, 1, 8, .nilfn⟩
def ty158 : TI := ⟨.func, 1, 8, .nilfn⟩
def ty159 : TI := ⟨.func, 1, 8, .nilfn⟩
def ty160 : TI := ⟨.func, 1, 8, .nilfn⟩
def ty161 : TI := ⟨.func, 1, 8, .nilfn⟩
def ty162 : TI := ⟨.array 22 2, 22, 176, .agg [.int .i64 0, .int .i64 0, .int .i64 0, .int .i64 0, .int .i64 0, .int .i64 0, .int .i64 0, .int .i64 0, .int .i64 0, .int .i64 0, .int .i64 0, .int .i64 0, .int .i64 0, .int .i64 0, .int .i64 0, .int .i64 0, .int .i64 0, .int .i64 0, .int .i64 0, .int .i64 0, .int .i64 0, .int .i64 0]⟩
def ty163 : TI := ⟨.array 21 162, 462, 3696, .agg [.int .i64 0, .int .i64 0, .int .i64 0, .int .i64 0, .int .i64 0, .int .i64 0, .int .i64 0, .int .i64 0, .int .i64 0, .int .i64 0, .int .i64 0, .int .i64 0, .int .i64 0, .int .i64 0, .int .i64 0, .int .i64 0, .int .i64 0, .int .i64 0, .int .i64 0, .int .i64 0, .int .i64 0, .int .i64 0, .int .i64 0, .int .i64 0, .int .i64 0, .int .i64 0, .int .i64 0, .int .i64 0, .int .i64 0, .int .i64 0, .int .i64 0, .int .i64 0, .int .i64 0, .int .i64 0, .int .i64 0, .int .i64 0, .int .i64 0, .int .i64 0, .int .i64 0, .int .i64 0, .int .i64 0, .int .i64 0, .int .i64 0, .int .i64 0, .int .i64 0, .int .i64 0, .int .i64 0, .int .i64 0, .int .i64 0, .int .i64 0, .int .i64 0, .int .i64 0, .int .i64 0, .int .i64 0, .int .i64 0, .int .i64 0, .int .i64 0, .int .i64 0, .int .i64 0, .int .i64 0, .int .i64 0, .int .i64 0, .int .i64 0, .int .i64 0, .int .i64 0, .int .i64 0, .int .i64 0, .int .i64 0, .int .i64 0, .int .i64 0, .int .i64 0, .int .i64 0, .int .i64 0, .int .i64 0, .int .i64 0, .int .i64 0, .int .i64 0, .int .i64 0, .int .i64 0, .int .i64 0, .int .i64 0, .int .i64 0, .int .i64 0, .int .i64 0, .int .i64 0, .int .i64 0, .int .i64 0, .int .i64 0, .int .i64 0, .int .i64 0, .int .i64 0, .int .i64 0, .int .i64 0, .int .i64 0, .int .i64 0, .int .i64 0, .int .i64 0, .int .i64 0, .int .i64 0, .int .i64 0, .int .i64 0, .int .i64 0, .int .i64 0, .int .i64 0, .int .i64 0, .int .i64 0, .int .i64 0, .int .i64 0, .int .i64 0, .int .i64 0, .int .i64 0, .int .i64 0, .int .i64 0, .int .i64 0, .int .i64 0, .int .i64 0, .int .i64 0, .int .i64 0, .int .i64 0, .int .i64 0, .int .i64 0, .int .i64 0, .int .i64 0, .int .i64 0, .int .i64 0, .int .i64 0, .int .i64 0, .int .i64 0, .int .i64 0, .int .i64 0, .int .i64 0, .int .i64 0, .int .i64 0, .int .i64 0, .int .i64 0, .int .i64 0, .int .i64 0, .int .i64 0, .int .i64 0, .int .i64 0, .int .i64 0, .int .i64 0, .int .i64 0, .int .i64 0, .int .i64 0, .int .i64 0, .int .i64 0, .int .i64 0, .int .i64 0, .int .i64 0, .int .i64 0, .int .i64 0, .int .i64 0, .int .i64 0, .int .i64 0, .int .i64 0, .int .i64 0, .int .i64 0, .int .i64 0, .int .i64 0, .int .i64 0, .int .i64 0, .int .i64 0, .int .i64 0, .int .i64 0, .int .i64 0, .int .i64 0, .int .i64 0, .int .i64 0, .int .i64 0, .int .i64 0, .int .i64 0, .int .i64 0, .int .i64 0, .int .i64 0, .int .i64 0, .int .i64 0, .int .i64 0, .int .i64 0, .int .i64 0, .int .i64 0, .int .i64 0, .int .i64 0, .int .i64 0, .int .i64 0, .int .i64 0, .int .i64 0, .int .i64 0, .int .i64 0, .int .i64 0, .int .i64 0, .int .i64 0, .int .i64 0, .int .i64 0, .int .i64 0, .int .i64 0, .int .i64 0, .int .i64 0, .int .i64 0, .int .i64 0, .int .i64 0, .int .i64 0, .int .i64 0, .int .i64 0, .int .i64 0, .int .i64 0, .int .i64 0, .int .i64 0, .int .i64 0, .int .i64 0, .int .i64 0, .int .i64 0, .int .i64 0, .int .i64 0, .int .i64 0, .int .i64 0, .int .i64 0, .int .i64 0, .int .i64 0, .int .i64 0, .int .i64 0, .int .i64 0, .int .i64 0, .int .i64 0, .int .i64 0, .int .i64 0, .int .i64 0, .int .i64 0, .int .i64 0, .int .i64 0, .int .i64 0, .int .i64 0, .int .i64 0, .int .i64 0, .int .i64 0, .int .i64 0, .int .i64 0, .int .i64 0, .int .i64 0, .int .i64 0, .int .i64 0, .int .i64 0, .int .i64 0, .int .i64 0, .int .i64 0, .int .i64 0, .int .i64 0, .int .i64 0, .int .i64 0, .int .i64 0, .int .i64 0, .int .i64 0, .int .i64 0, .int .i64 0, .int .i64 0, .int .i64 0, .int .i64 0, .int .i64 0, .int .i64 0, .int .i64 0, .int .i64 0, .int .i64 0, .int .i64 0, .int .i64 0, .int .i64 0, .int .i64 0, .int .i64 0, .int .i64 0, .int .i64 0, .int .i64 0, .int .i64 0, .int .i64 0, .int .i64 0, .int .i64 0, .int .i64 0, .int .i64 0, .int .i64 0, .int .i64 0, .int .i64 0, .int .i64 0, .int .i64 0, .int .i64 0, .int .i64 0, .int .i64 0, .int .i64 0, .int .i64 0, .int .i64 0, .int .i64 0, .int .i64 0, .int .i64 0, .int .i64 0, .int .i64 0, .int .i64 0, .int .i64 0, .int .i64 0, .int .i64 0, .int .i64 0, .int .i64 0, .int .i64 0, .int .i64 0, .int .i64 0, .int .i64 0, .int .i64 0, .int .i64 0, .int .i64 0, .int .i64 0, .int .i64 0, .int .i64 0, .int .i64 0, .int .i64 0, .int .i64 0, .int .i64 0, .int .i64 0, .int .i64 0, .int .i64 0, .int .i64 0, .int .i64 0, .int .i64 0, .int .i64 0, .int .i64 0, .int .i64 0, .int .i64 0, .int .i64 0, .int .i64 0, .int .i64 0, .int .i64 0, .int .i64 0, .int .i64 0, .int .i64 0, .int .i64 0, .int .i64 0, .int .i64 0, .int .i64 0, .int .i64 0, .int .i64 0, .int .i64 0, .int .i64 0, .int .i64 0, .int .i64 0, .int .i64 0, .int .i64 0, .int .i64 0, .int .i64 0, .int .i64 0, .int .i64 0, .int .i64 0, .int .i64 0, .int .i64 0, .int .i64 0, .int .i64 0, .int .i64 0, .int .i64 0, .int .i64 0, .int .i64 0, .int .i64 0, .int .i64 0, .int .i64 0, .int .i64 0, .int .i64 0, .int .i64 0, .int .i64 0, .int .i64 0, .int .i64 0, .int .i64 0, .int .i64 0, .int .i64 0, .int .i64 0, .int .i64 0, .int .i64 0, .int .i64 0, .int .i64 0, .int .i64 0, .int .i64 0, .int .i64 0, .int .i64 0, .int .i64 0, .int .i64 0, .int .i64 0, .int .i64 0, .int .i64 0, .int .i64 0, .int .i64 0, .int .i64 0, .int .i64 0, .int .i64 0, .int .i64 0, .int .i64 0, .int .i64 0, .int .i64 0, .int .i64 0, .int .i64 0, .int .i64 0, .int .i64 0, .int .i64 0, .int .i64 0, .int .i64 0, .int .i64 0, .int .i64 0, .int .i64 0, .int .i64 0, .int .i64 0, .int .i64 0, .int .i64 0, .int .i64 0, .int .i64 0, .int .i64 0, .int .i64 0, .int .i64 0, .int .i64 0, .int .i64 0, .int .i64 0, .int .i64 0, .int .i64 0, .int .i64 0, .int .i64 0, .int .i64 0, .int .i64 0, .int .i64 0, .int .i64 0, .int .i64 0, .int .i64 0, .int .i64 0, .int .i64 0, .int .i64 0, .int .i64 0, .int .i64 0, .int .i64 0, .int .i64 0, .int .i64 0, .int .i64 0, .int .i64 0, .int .i64 0, .int .i64 0, .int .i64 0, .int .i64 0, .int .i64 0, .int .i64 0, .int .i64 0, .int .i64 0, .int .i64 0, .int .i64 0, .int .i64 0, .int .i64 0, .int .i64 0, .int .i64 0, .int .i64 0, .int .i64 0, .int .i64 0, .int .i64 0, .int .i64 0, .int .i64 0, .int .i64 0, .int .i64 0, .int .i64 0, .int .i64 0, .int .i64 0, .int .i64 0, .int .i64 0, .int .i64 0, .int .i64 0, .int .i64 0, .int .i64 0]⟩
def ty164 : TI := ⟨.func, 1, 8, .nilfn⟩
def ty165 : TI := ⟨.func, 1, 8, .nilfn⟩
def ty166 : TI := ⟨.ptr, 1, 8, .nilp⟩
def ty167 : TI := ⟨.func, 1, 8, .nilfn⟩
def ty168 : TI := ⟨.func, 1, 8, .nilfn⟩
def ty169 : TI := ⟨.func, 1, 8, .nilfn⟩
def ty170 : TI := ⟨.func, 1, 8, .nilfn⟩
def ty171 : TI := ⟨.struct [(0, 43)], 1, 24, .agg [.sl 0 true []]⟩
def ty172 : TI := ⟨.struct [(0, 43)], 1, 24, .agg [.sl 0 true []]⟩
def ty173 : TI := ⟨.ptr, 1, 8, .nilp⟩
def ty174 : TI := ⟨.func, 1, 8, .nilfn⟩
def ty175 : TI := ⟨.func, 1, 8, .nilfn⟩
def ty176 : TI := ⟨.func, 1, 8, .nilfn⟩
def ty177 : TI := ⟨.func, 1, 8, .nilfn⟩
def ty178 : TI := ⟨.func, 1, 8, .nilfn⟩
def ty179 : TI := ⟨.func, 1, 8, .nilfn⟩
def ty180 : TI := ⟨.func, 1, 8, .nilfn⟩
def ty181 : TI := ⟨.func, 1, 8, .nilfn⟩
def ty182 : TI := ⟨.slice 199, 1, 24, .sl 0 true []⟩
def ty183 : TI := ⟨.func, 1, 8, .nilfn⟩
def ty184 : TI := ⟨.func, 1, 8, .nilfn⟩
def ty185 : TI := ⟨.func, 1, 8, .nilfn⟩
def ty186 : TI := ⟨.func, 1, 8, .nilfn⟩
def ty187 : TI := ⟨.func, 1, 8, .nilfn⟩
def ty188 : TI := ⟨.ptr, 1, 8, .nilp⟩
def ty189 : TI := ⟨.func, 1, 8, .nilfn⟩
def ty190 : TI := ⟨.func, 1, 8, .nilfn⟩
def ty191 : TI := ⟨.func, 1, 8, .nilfn⟩
def ty192 : TI := ⟨.struct [(0, 2), (1, 2), (2, 9), (3, 2)], 4, 40, .agg [.int .i64 0, .int .i64 0, .str [], .int .i64 0]⟩
def ty193 : TI := ⟨.func, 1, 8, .nilfn⟩
def ty194 : TI := ⟨.func, 1, 8, .nilfn⟩
def ty195 : TI := ⟨.func, 1, 8, .nilfn⟩
def ty196 : TI := ⟨.func, 1, 8, .nilfn⟩
def ty197 : TI := ⟨.func, 1, 8, .nilfn⟩
def ty198 : TI := ⟨.func, 1, 8, .nilfn⟩
def ty199 : TI := ⟨.struct [(0, 2), (1, 2)], 2, 16, .agg [.int .i64 0, .int .i64 0]⟩
def ty201 : TI := ⟨.func, 1, 8, .nilfn⟩
def ty202 : TI := ⟨.func, 1, 8, .nilfn⟩
def ty203 : TI := ⟨.func, 1, 8, .nilfn⟩
def ty204 : TI := ⟨.struct [(0, 17), (1, 17), (2, 17), (3, 9)], 4, 40, .agg [.nilp, .nilp, .nilp, .str []]⟩
def ty205 : TI := ⟨.struct [(0, 17), (1, 17), (2, 17), (3, 9)], 4, 40, .agg [.nilp, .nilp, .nilp, .str []]⟩
def ty206 : TI := ⟨.array 0 16, 0, 0, .agg []⟩
def ty207 : TI := ⟨.struct [(0, 206)], 0, 0, .agg []⟩
def ty208 : TI := ⟨.struct [(0, 206)], 0, 0, .agg []⟩
def ty209 : TI := ⟨.func, 1, 8, .nilfn⟩
def ty210 : TI := ⟨.int .u32, 1, 4, .int .u32 0⟩
def ty211 : TI := ⟨.int .u8, 1, 1, .int .u8 0⟩
def ty212 : TI := ⟨.int .u8, 1, 1, .int .u8 0⟩
def ty213 : TI := ⟨.func, 1, 8, .nilfn⟩
def ty214 : TI := ⟨.int .i32, 1, 4, .int .i32 0⟩
def ty215 : TI := ⟨.int .i32, 1, 4, .int .i32 0⟩
def ty216 : TI := ⟨.struct [(0, 12), (1, 12), (2, 210), (3, 211), (4, 5), (5, 5), (6, 212), (7, 213), (8, 188), (9, 214), (10, 215)], 11, 48, .agg [.int .u64 0, .int .u64 0, .int .u32 0, .int .u8 0, .int .u8 0, .int .u8 0, .int .u8 0, .nilfn, .nilp, .int .i32 0, .int .i32 0]⟩
def ty217 : TI := ⟨.struct [(0, 12), (1, 12), (2, 210), (3, 211), (4, 5), (5, 5), (6, 212), (7, 213), (8, 188), (9, 214), (10, 215)], 11, 48, .agg [.int .u64 0, .int .u64 0, .int .u32 0, .int .u8 0, .int .u8 0, .int .u8 0, .int .u8 0, .nilfn, .nilp, .int .i32 0, .int .i32 0]⟩
def tyT : Tree TI := .node (.node (.node (.node (.node (.node (.node (.node (.leaf) 1 ty1 (.leaf)) 2 ty2 (.node (.leaf) 3 ty3 (.leaf))) 4 ty4 (.node (.node (.leaf) 5 ty5 (.leaf)) 6 ty6 (.leaf))) 7 ty7 (.node (.node (.node (.leaf) 8 ty8 (.leaf)) 9 ty9 (.leaf)) 10 ty10 (.node (.node (.leaf) 11 ty11 (.leaf)) 12 ty12 (.leaf)))) 13 ty13 (.node (.node (.node (.node (.leaf) 14 ty14 (.leaf)) 15 ty15 (.node (.leaf) 16 ty16 (.leaf))) 17 ty17 (.node (.node (.leaf) 18 ty18 (.leaf)) 19 ty19 (.leaf))) 21 ty21 (.node (.node (.node (.leaf) 22 ty22 (.leaf)) 23 ty23 (.leaf)) 24 ty24 (.node (.node (.leaf) 25 ty25 (.leaf)) 26 ty26 (.leaf))))) 27 ty27 (.node (.node (.node (.node (.node (.leaf) 28 ty28 (.leaf)) 29 ty29 (.node (.leaf) 30 ty30 (.leaf))) 31 ty31 (.node (.node (.leaf) 33 ty33 (.leaf)) 34 ty34 (.leaf))) 35 ty35 (.node (.node (.node (.leaf) 36 ty36 (.leaf)) 37 ty37 (.leaf)) 38 ty38 (.node (.node (.leaf) 39 ty39 (.leaf)) 40 ty40 (.leaf)))) 41 ty41 (.node (.node (.node (.node (.leaf) 42 ty42 (.leaf)) 43 ty43 (.node (.leaf) 44 ty44 (.leaf))) 45 ty45 (.node (.node (.leaf) 46 ty46 (.leaf)) 47 ty47 (.leaf))) 48 ty48 (.node (.node (.node (.leaf) 49 ty49 (.leaf)) 50 ty50 (.leaf)) 51 ty51 (.node (.node (.leaf) 52 ty52 (.leaf)) 53 ty53 (.leaf)))))) 54 ty54 (.node (.node (.node (.node (.node (.node (.leaf) 55 ty55 (.leaf)) 56 ty56 (.node (.leaf) 57 ty57 (.leaf))) 58 ty58 (.node (.node (.leaf) 60 ty60 (.leaf)) 62 ty62 (.leaf))) 63 ty63 (.node (.node (.node (.leaf) 65 ty65 (.leaf)) 66 ty66 (.leaf)) 67 ty67 (.node (.node (.leaf) 68 ty68 (.leaf)) 69 ty69 (.leaf)))) 70 ty70 (.node (.node (.node (.node (.leaf) 71 ty71 (.leaf)) 72 ty72 (.node (.leaf) 73 ty73 (.leaf))) 74 ty74 (.node (.node (.leaf) 75 ty75 (.leaf)) 76 ty76 (.leaf))) 77 ty77 (.node (.node (.node (.leaf) 78 ty78 (.leaf)) 79 ty79 (.leaf)) 80 ty80 (.node (.node (.leaf) 81 ty81 (.leaf)) 82 ty82 (.leaf))))) 83 ty83 (.node (.node (.node (.node (.node (.leaf) 84 ty84 (.leaf)) 85 ty85 (.node (.leaf) 86 ty86 (.leaf))) 87 ty87 (.node (.node (.leaf) 88 ty88 (.leaf)) 89 ty89 (.leaf))) 90 ty90 (.node (.node (.node (.leaf) 91 ty91 (.leaf)) 92 ty92 (.leaf)) 94 ty94 (.node (.node (.leaf) 95 ty95 (.leaf)) 96 ty96 (.leaf)))) 97 ty97 (.node (.node (.node (.node (.leaf) 98 ty98 (.leaf)) 99 ty99 (.node (.leaf) 100 ty100 (.leaf))) 101 ty101 (.node (.node (.leaf) 102 ty102 (.leaf)) 103 ty103 (.leaf))) 104 ty104 (.node (.node (.node (.leaf) 105 ty105 (.leaf)) 106 ty106 (.leaf)) 107 ty107 (.node (.node (.leaf) 108 ty108 (.leaf)) 109 ty109 (.leaf))))))) 110 ty110 (.node (.node (.node (.node (.node (.node (.node (.leaf) 111 ty111 (.leaf)) 112 ty112 (.node (.leaf) 113 ty113 (.leaf))) 114 ty114 (.node (.node (.leaf) 115 ty115 (.leaf)) 116 ty116 (.leaf))) 117 ty117 (.node (.node (.node (.leaf) 118 ty118 (.leaf)) 119 ty119 (.leaf)) 120 ty120 (.node (.node (.leaf) 121 ty121 (.leaf)) 122 ty122 (.leaf)))) 123 ty123 (.node (.node (.node (.node (.leaf) 124 ty124 (.leaf)) 125 ty125 (.node (.leaf) 126 ty126 (.leaf))) 127 ty127 (.node (.node (.leaf) 128 ty128 (.leaf)) 129 ty129 (.leaf))) 130 ty130 (.node (.node (.node (.leaf) 131 ty131 (.leaf)) 132 ty132 (.leaf)) 133 ty133 (.node (.node (.leaf) 134 ty134 (.leaf)) 135 ty135 (.leaf))))) 136 ty136 (.node (.node (.node (.node (.node (.leaf) 137 ty137 (.leaf)) 138 ty138 (.node (.leaf) 139 ty139 (.leaf))) 140 ty140 (.node (.node (.leaf) 141 ty141 (.leaf)) 142 ty142 (.leaf))) 143 ty143 (.node (.node (.node (.leaf) 144 ty144 (.leaf)) 145 ty145 (.leaf)) 146 ty146 (.node (.node (.leaf) 147 ty147 (.leaf)) 148 ty148 (.leaf)))) 149 ty149 (.node (.node (.node (.node (.leaf) 150 ty150 (.leaf)) 154 ty154 (.node (.leaf) 155 ty155 (.leaf))) 156 ty156 (.node (.node (.leaf) 157 ty157 (.leaf)) 158 ty158 (.leaf))) 159 ty159 (.node (.node (.node (.leaf) 160 ty160 (.leaf)) 161 ty161 (.leaf)) 162 ty162 (.node (.node (.leaf) 163 ty163 (.leaf)) 164 ty164 (.leaf)))))) 165 ty165 (.node (.node (.node (.node (.node (.node (.leaf) 166 ty166 (.leaf)) 167 ty167 (.node (.leaf) 168 ty168 (.leaf))) 169 ty169 (.node (.node (.leaf) 170 ty170 (.leaf)) 171 ty171 (.leaf))) 172 ty172 (.node (.node (.node (.leaf) 173 ty173 (.leaf)) 174 ty174 (.leaf)) 175 ty175 (.node (.node (.leaf) 176 ty176 (.leaf)) 177 ty177 (.leaf)))) 178 ty178 (.node (.node (.node (.node (.leaf) 179 ty179 (.leaf)) 180 ty180 (.node (.leaf) 181 ty181 (.leaf))) 182 ty182 (.node (.node (.leaf) 183 ty183 (.leaf)) 184 ty184 (.leaf))) 185 ty185 (.node (.node (.node (.leaf) 186 ty186 (.leaf)) 187 ty187 (.leaf)) 188 ty188 (.node (.node (.leaf) 189 ty189 (.leaf)) 190 ty190 (.leaf))))) 191 ty191 (.node (.node (.node (.node (.node (.leaf) 192 ty192 (.leaf)) 193 ty193 (.node (.leaf) 194 ty194 (.leaf))) 195 ty195 (.node (.node (.leaf) 196 ty196 (.leaf)) 197 ty197 (.leaf))) 198 ty198 (.node (.node (.node (.leaf) 199 ty199 (.leaf)) 201 ty201 (.leaf)) 202 ty202 (.node (.node (.leaf) 203 ty203 (.leaf)) 204 ty204 (.leaf)))) 205 ty205 (.node (.node (.node (.node (.leaf) 206 ty206 (.leaf)) 207 ty207 (.node (.leaf) 208 ty208 (.leaf))) 209 ty209 (.node (.node (.leaf) 210 ty210 (.leaf)) 211 ty211 (.leaf))) 212 ty212 (.node (.node (.node (.leaf) 213 ty213 (.leaf)) 214 ty214 (.leaf)) 215 ty215 (.node (.node (.leaf) 216 ty216 (.leaf)) 217 ty217 (.leaf)))))))
theorem tyOk : tyT.all (tyB Try.prog) = true := by kernel_rfl
/-- laws.FnExactValidStream -/
noncomputable def fi5 : FI := fiOf Try.f5 [] [] [] false
theorem ok5 : FnOk Try.prog drawOk 5 fi5 := .of Try.func5 (by kernel_rfl) (by kernel_rfl) (by kernel_rfl)
/-- laws.FnExactWholeOf -/
noncomputable def fi6 : FI := fiOf Try.f6 [] [] [] false
theorem ok6 : FnOk Try.prog drawOk 6 fi6 := .of Try.func6 (by kernel_rfl) (by kernel_rfl) (by kernel_rfl)
/-- laws.szStream -/
noncomputable def fi16 : FI := fiOf Try.f16 [] [] [] false
theorem ok16 : FnOk Try.prog drawOk 16 fi16 := .of Try.func16 (by kernel_rfl) (by kernel_rfl) (by kernel_rfl)
/-- spec.ValidStream -/
noncomputable def fi17 : FI := fiOf Try.f17 [] [] [] false
theorem ok17 : FnOk Try.prog drawOk 17 fi17 := .of Try.func17 (by kernel_rfl) (by kernel_rfl) (by kernel_rfl)
/-- laws.toStream -/
noncomputable def fi18 : FI := fiOf Try.f18 [] [(3, 1)] [] false
theorem ok18 : FnOk Try.prog drawOk 18 fi18 := .of Try.func18 (by kernel_rfl) (by kernel_rfl) (by kernel_rfl)
/-- impl.ValidStream -/
noncomputable def fi19 : FI := fiOf Try.f19 [] [] [] false
theorem ok19 : FnOk Try.prog drawOk 19 fi19 := .of Try.func19 (by kernel_rfl) (by kernel_rfl) (by kernel_rfl)
/-- laws.eqStream -/
noncomputable def fi20 : FI := fiOf Try.f20 [] [] [] false
theorem ok20 : FnOk Try.prog drawOk 20 fi20 := .of Try.func20 (by kernel_rfl) (by kernel_rfl) (by kernel_rfl)
/-- spec.WholeOf -/
noncomputable def fi21 : FI := fiOf Try.f21 [] [] [] false
theorem ok21 : FnOk Try.prog drawOk 21 fi21 := .of Try.func21 (by kernel_rfl) (by kernel_rfl) (by kernel_rfl)
/-- impl.WholeOf -/
noncomputable def fi22 : FI := fiOf Try.f22 [] [] [] false
theorem ok22 : FnOk Try.prog drawOk 22 fi22 := .of Try.func22 (by kernel_rfl) (by kernel_rfl) (by kernel_rfl)
/-- impl.within -/
noncomputable def fi27 : FI := fiOf Try.f27 [] [] [] false
theorem ok27 : FnOk Try.prog drawOk 27 fi27 := .of Try.func27 (by kernel_rfl) (by kernel_rfl) (by kernel_rfl)
/-- spec.l01Ok -/
noncomputable def fi30 : FI := fiOf Try.f30 [] [] [] false
theorem ok30 : FnOk Try.prog drawOk 30 fi30 := .of Try.func30 (by kernel_rfl) (by kernel_rfl) (by kernel_rfl)
/-- impl.ValidWord -/
noncomputable def fi34 : FI := fiOf Try.f34 [] [] [] false
theorem ok34 : FnOk Try.prog drawOk 34 fi34 := .of Try.func34 (by kernel_rfl) (by kernel_rfl) (by kernel_rfl)
/-- laws.szChecker -/
noncomputable def fi39 : FI := fiOf Try.f39 [] [] [] false
theorem ok39 : FnOk Try.prog drawOk 39 fi39 := .of Try.func39 (by kernel_rfl) (by kernel_rfl) (by kernel_rfl)
/-- laws.szStringS -/
noncomputable def fi40 : FI := fiOf Try.f40 [] [] [] false
theorem ok40 : FnOk Try.prog drawOk 40 fi40 := .of Try.func40 (by kernel_rfl) (by kernel_rfl) (by kernel_rfl)
/-- spec.l08Ok -/
noncomputable def fi41 : FI := fiOf Try.f41 [] [] [] false
theorem ok41 : FnOk Try.prog drawOk 41 fi41 := .of Try.func41 (by kernel_rfl) (by kernel_rfl) (by kernel_rfl)
/-- laws.toChecker -/
noncomputable def fi42 : FI := fiOf Try.f42 [] [(3, 1)] [] false
theorem ok42 : FnOk Try.prog drawOk 42 fi42 := .of Try.func42 (by kernel_rfl) (by kernel_rfl) (by kernel_rfl)
/-- laws.toStringS -/
noncomputable def fi43 : FI := fiOf Try.f43 [] [] [] false
theorem ok43 : FnOk Try.prog drawOk 43 fi43 := .of Try.func43 (by kernel_rfl) (by kernel_rfl) (by kernel_rfl)
/-- impl.ValidChecker -/
noncomputable def fi44 : FI := fiOf Try.f44 [] [] [] false
theorem ok44 : FnOk Try.prog drawOk 44 fi44 := .of Try.func44 (by kernel_rfl) (by kernel_rfl) (by kernel_rfl)
/-- impl.size[string] -/
noncomputable def fi45 : FI := fiOf Try.f45 [] [] [] false
theorem ok45 : FnOk Try.prog drawOk 45 fi45 := .of Try.func45 (by kernel_rfl) (by kernel_rfl) (by kernel_rfl)
/-- slices.ContainsFunc[[]string,string] -/
noncomputable def fi46 : FI := fiOf Try.f46 [] [] [] false
theorem ok46 : FnOk Try.prog drawOk 46 fi46 := .of Try.func46 (by kernel_rfl) (by kernel_rfl) (by kernel_rfl)
/-- impl.ValidStream$1 -/
noncomputable def fi47 : FI := fiOf Try.f47 [] [] [] false
theorem ok47 : FnOk Try.prog drawOk 47 fi47 := .of Try.func47 (by kernel_rfl) (by kernel_rfl) (by kernel_rfl)
/-- laws.eqChecker -/
noncomputable def fi49 : FI := fiOf Try.f49 [] [] [] false
theorem ok49 : FnOk Try.prog drawOk 49 fi49 := .of Try.func49 (by kernel_rfl) (by kernel_rfl) (by kernel_rfl)
/-- laws.eqStringS -/
noncomputable def fi50 : FI := fiOf Try.f50 [] [] [] false
theorem ok50 : FnOk Try.prog drawOk 50 fi50 := .of Try.func50 (by kernel_rfl) (by kernel_rfl) (by kernel_rfl)
/-- spec.l08Whole -/
noncomputable def fi51 : FI := fiOf Try.f51 [] [] [] false
theorem ok51 : FnOk Try.prog drawOk 51 fi51 := .of Try.func51 (by kernel_rfl) (by kernel_rfl) (by kernel_rfl)
/-- spec.l00In -/
noncomputable def fi52 : FI := fiOf Try.f52 [] [] [] false
theorem ok52 : FnOk Try.prog drawOk 52 fi52 := .of Try.func52 (by kernel_rfl) (by kernel_rfl) (by kernel_rfl)
/-- spec.l01Symbol -/
noncomputable def fi61 : FI := fiOf Try.f61 [] [] [] false
theorem ok61 : FnOk Try.prog drawOk 61 fi61 := .of Try.func61 (by kernel_rfl) (by kernel_rfl) (by kernel_rfl)
/-- strings.IndexByte -/
noncomputable def fi72 : FI := fiOf Try.f72 [] [] [] false
theorem ok72 : FnOk Try.prog drawOk 72 fi72 := .of Try.func72 (by kernel_rfl) (by kernel_rfl) (by kernel_rfl)
/-- laws.szBoolS -/
noncomputable def fi77 : FI := fiOf Try.f77 [] [] [] false
theorem ok77 : FnOk Try.prog drawOk 77 fi77 := .of Try.func77 (by kernel_rfl) (by kernel_rfl) (by kernel_rfl)
/-- laws.szPushSS -/
noncomputable def fi78 : FI := fiOf Try.f78 [] [] [] false
theorem ok78 : FnOk Try.prog drawOk 78 fi78 := .of Try.func78 (by kernel_rfl) (by kernel_rfl) (by kernel_rfl)
/-- laws.szInt64SSS -/
noncomputable def fi79 : FI := fiOf Try.f79 [] [] [] false
theorem ok79 : FnOk Try.prog drawOk 79 fi79 := .of Try.func79 (by kernel_rfl) (by kernel_rfl) (by kernel_rfl)
/-- laws.szInt64SS -/
noncomputable def fi80 : FI := fiOf Try.f80 [] [] [] false
theorem ok80 : FnOk Try.prog drawOk 80 fi80 := .of Try.func80 (by kernel_rfl) (by kernel_rfl) (by kernel_rfl)
/-- spec.l02Ok -/
noncomputable def fi81 : FI := fiOf Try.f81 [] [] [] false
theorem ok81 : FnOk Try.prog drawOk 81 fi81 := .of Try.func81 (by kernel_rfl) (by kernel_rfl) (by kernel_rfl)
/-- laws.toBoolS -/
noncomputable def fi82 : FI := fiOf Try.f82 [] [] [] false
theorem ok82 : FnOk Try.prog drawOk 82 fi82 := .of Try.func82 (by kernel_rfl) (by kernel_rfl) (by kernel_rfl)
/-- laws.toPushSS -/
noncomputable def fi83 : FI := fiOf Try.f83 [] [] [] false
theorem ok83 : FnOk Try.prog drawOk 83 fi83 := .of Try.func83 (by kernel_rfl) (by kernel_rfl) (by kernel_rfl)
/-- laws.toInt64SSS -/
noncomputable def fi84 : FI := fiOf Try.f84 [] [] [] false
theorem ok84 : FnOk Try.prog drawOk 84 fi84 := .of Try.func84 (by kernel_rfl) (by kernel_rfl) (by kernel_rfl)
/-- laws.toInt64SS -/
noncomputable def fi85 : FI := fiOf Try.f85 [] [] [] false
theorem ok85 : FnOk Try.prog drawOk 85 fi85 := .of Try.func85 (by kernel_rfl) (by kernel_rfl) (by kernel_rfl)
/-- impl.size[bool] -/
noncomputable def fi86 : FI := fiOf Try.f86 [] [] [] false
theorem ok86 : FnOk Try.prog drawOk 86 fi86 := .of Try.func86 (by kernel_rfl) (by kernel_rfl) (by kernel_rfl)
/-- (impl.Checker).isState -/
noncomputable def fi87 : FI := fiOf Try.f87 [] [] [] false
theorem ok87 : FnOk Try.prog drawOk 87 fi87 := .of Try.func87 (by kernel_rfl) (by kernel_rfl) (by kernel_rfl)
/-- impl.size[[]impl.Push] -/
noncomputable def fi88 : FI := fiOf Try.f88 [] [] [] false
theorem ok88 : FnOk Try.prog drawOk 88 fi88 := .of Try.func88 (by kernel_rfl) (by kernel_rfl) (by kernel_rfl)
/-- impl.size[[][]int64] -/
noncomputable def fi89 : FI := fiOf Try.f89 [] [] [] false
theorem ok89 : FnOk Try.prog drawOk 89 fi89 := .of Try.func89 (by kernel_rfl) (by kernel_rfl) (by kernel_rfl)
/-- impl.size[[]int64] -/
noncomputable def fi90 : FI := fiOf Try.f90 [] [] [] false
theorem ok90 : FnOk Try.prog drawOk 90 fi90 := .of Try.func90 (by kernel_rfl) (by kernel_rfl) (by kernel_rfl)
/-- impl.ValidChecker$1 -/
noncomputable def fi91 : FI := fiOf Try.f91 [] [] [] false
theorem ok91 : FnOk Try.prog drawOk 91 fi91 := .of Try.func91 (by kernel_rfl) (by kernel_rfl) (by kernel_rfl)
/-- impl.size[int64] -/
noncomputable def fi92 : FI := fiOf Try.f92 [] [] [] false
theorem ok92 : FnOk Try.prog drawOk 92 fi92 := .of Try.func92 (by kernel_rfl) (by kernel_rfl) (by kernel_rfl)
/-- slices.ContainsFunc[[]int64,int64] -/
noncomputable def fi93 : FI := fiOf Try.f93 [] [] [] false
theorem ok93 : FnOk Try.prog drawOk 93 fi93 := .of Try.func93 (by kernel_rfl) (by kernel_rfl) (by kernel_rfl)
/-- impl.ValidChecker$1$1 -/
noncomputable def fi94 : FI := fiOf Try.f94 [] [] [] false
theorem ok94 : FnOk Try.prog drawOk 94 fi94 := .of Try.func94 (by kernel_rfl) (by kernel_rfl) (by kernel_rfl)
/-- (impl.Checker).isMark -/
noncomputable def fi95 : FI := fiOf Try.f95 [] [] [] false
theorem ok95 : FnOk Try.prog drawOk 95 fi95 := .of Try.func95 (by kernel_rfl) (by kernel_rfl) (by kernel_rfl)
/-- slices.IndexFunc[[]string,string] -/
noncomputable def fi96 : FI := fiOf Try.f96 [] [] [] false
theorem ok96 : FnOk Try.prog drawOk 96 fi96 := .of Try.func96 (by kernel_rfl) (by kernel_rfl) (by kernel_rfl)
/-- laws.eqBoolS -/
noncomputable def fi100 : FI := fiOf Try.f100 [] [] [] false
theorem ok100 : FnOk Try.prog drawOk 100 fi100 := .of Try.func100 (by kernel_rfl) (by kernel_rfl) (by kernel_rfl)
/-- laws.eqPushSS -/
noncomputable def fi101 : FI := fiOf Try.f101 [] [] [] false
theorem ok101 : FnOk Try.prog drawOk 101 fi101 := .of Try.func101 (by kernel_rfl) (by kernel_rfl) (by kernel_rfl)
/-- laws.eqInt64SSS -/
noncomputable def fi102 : FI := fiOf Try.f102 [] [] [] false
theorem ok102 : FnOk Try.prog drawOk 102 fi102 := .of Try.func102 (by kernel_rfl) (by kernel_rfl) (by kernel_rfl)
/-- laws.eqInt64SS -/
noncomputable def fi103 : FI := fiOf Try.f103 [] [] [] false
theorem ok103 : FnOk Try.prog drawOk 103 fi103 := .of Try.func103 (by kernel_rfl) (by kernel_rfl) (by kernel_rfl)
/-- internal/stringslite.IndexByte -/
noncomputable def fi120 : FI := fiOf Try.f120 [] [] [] false
theorem ok120 : FnOk Try.prog drawOk 120 fi120 := .of Try.func120 (by kernel_rfl) (by kernel_rfl) (by kernel_rfl)
/-- laws.szPushS -/
noncomputable def fi123 : FI := fiOf Try.f123 [] [] [] false
theorem ok123 : FnOk Try.prog drawOk 123 fi123 := .of Try.func123 (by kernel_rfl) (by kernel_rfl) (by kernel_rfl)
/-- laws.szInt64S -/
noncomputable def fi124 : FI := fiOf Try.f124 [] [] [] false
theorem ok124 : FnOk Try.prog drawOk 124 fi124 := .of Try.func124 (by kernel_rfl) (by kernel_rfl) (by kernel_rfl)
/-- spec.l02List -/
noncomputable def fi125 : FI := fiOf Try.f125 [] [] [] false
theorem ok125 : FnOk Try.prog drawOk 125 fi125 := .of Try.func125 (by kernel_rfl) (by kernel_rfl) (by kernel_rfl)
/-- laws.toPushS -/
noncomputable def fi126 : FI := fiOf Try.f126 [] [] [] false
theorem ok126 : FnOk Try.prog drawOk 126 fi126 := .of Try.func126 (by kernel_rfl) (by kernel_rfl) (by kernel_rfl)
/-- laws.toInt64S -/
noncomputable def fi127 : FI := fiOf Try.f127 [] [] [] false
theorem ok127 : FnOk Try.prog drawOk 127 fi127 := .of Try.func127 (by kernel_rfl) (by kernel_rfl) (by kernel_rfl)
/-- slices.IndexFunc[[]int64,int64] -/
noncomputable def fi128 : FI := fiOf Try.f128 [] [] [] false
theorem ok128 : FnOk Try.prog drawOk 128 fi128 := .of Try.func128 (by kernel_rfl) (by kernel_rfl) (by kernel_rfl)
/-- laws.eqPushS -/
noncomputable def fi131 : FI := fiOf Try.f131 [] [] [] false
theorem ok131 : FnOk Try.prog drawOk 131 fi131 := .of Try.func131 (by kernel_rfl) (by kernel_rfl) (by kernel_rfl)
/-- laws.eqInt64S -/
noncomputable def fi132 : FI := fiOf Try.f132 [] [] [] false
theorem ok132 : FnOk Try.prog drawOk 132 fi132 := .of Try.func132 (by kernel_rfl) (by kernel_rfl) (by kernel_rfl)
/-- laws.toPush -/
noncomputable def fi142 : FI := fiOf Try.f142 [] [(3, 1)] [] false
theorem ok142 : FnOk Try.prog drawOk 142 fi142 := .of Try.func142 (by kernel_rfl) (by kernel_rfl) (by kernel_rfl)
/-- laws.eqPush -/
noncomputable def fi145 : FI := fiOf Try.f145 [] [] [] false
theorem ok145 : FnOk Try.prog drawOk 145 fi145 := .of Try.func145 (by kernel_rfl) (by kernel_rfl) (by kernel_rfl)
noncomputable def fnT : Tree FI := .node (.node (.node (.node (.node (.node (.leaf) 5 fi5 (.leaf)) 6 fi6 (.node (.leaf) 16 fi16 (.leaf))) 17 fi17 (.node (.node (.leaf) 18 fi18 (.leaf)) 19 fi19 (.node (.leaf) 20 fi20 (.leaf)))) 21 fi21 (.node (.node (.node (.leaf) 22 fi22 (.leaf)) 27 fi27 (.node (.leaf) 30 fi30 (.leaf))) 34 fi34 (.node (.node (.leaf) 39 fi39 (.leaf)) 40 fi40 (.node (.leaf) 41 fi41 (.leaf))))) 42 fi42 (.node (.node (.node (.node (.leaf) 43 fi43 (.leaf)) 44 fi44 (.node (.leaf) 45 fi45 (.leaf))) 46 fi46 (.node (.node (.leaf) 47 fi47 (.leaf)) 49 fi49 (.node (.leaf) 50 fi50 (.leaf)))) 51 fi51 (.node (.node (.node (.leaf) 52 fi52 (.leaf)) 61 fi61 (.node (.leaf) 72 fi72 (.leaf))) 77 fi77 (.node (.node (.leaf) 78 fi78 (.leaf)) 79 fi79 (.node (.leaf) 80 fi80 (.leaf)))))) 81 fi81 (.node (.node (.node (.node (.node (.leaf) 82 fi82 (.leaf)) 83 fi83 (.node (.leaf) 84 fi84 (.leaf))) 85 fi85 (.node (.node (.leaf) 86 fi86 (.leaf)) 87 fi87 (.node (.leaf) 88 fi88 (.leaf)))) 89 fi89 (.node (.node (.node (.leaf) 90 fi90 (.leaf)) 91 fi91 (.node (.leaf) 92 fi92 (.leaf))) 93 fi93 (.node (.node (.leaf) 94 fi94 (.leaf)) 95 fi95 (.node (.leaf) 96 fi96 (.leaf))))) 100 fi100 (.node (.node (.node (.node (.leaf) 101 fi101 (.leaf)) 102 fi102 (.node (.leaf) 103 fi103 (.leaf))) 120 fi120 (.node (.node (.leaf) 123 fi123 (.leaf)) 124 fi124 (.node (.leaf) 125 fi125 (.leaf)))) 126 fi126 (.node (.node (.node (.leaf) 127 fi127 (.leaf)) 128 fi128 (.node (.leaf) 131 fi131 (.leaf))) 132 fi132 (.node (.node (.leaf) 142 fi142 (.leaf)) 145 fi145 (.leaf)))))
theorem fnOk : fnT.Each (FnOk Try.prog drawOk) := ⟨ok81, ⟨ok42, ⟨ok21, ⟨ok17, ⟨ok6, ⟨ok5, trivial, trivial⟩, ⟨ok16, trivial, trivial⟩⟩, ⟨ok19, ⟨ok18, trivial, trivial⟩, ⟨ok20, trivial, trivial⟩⟩⟩, ⟨ok34, ⟨ok27, ⟨ok22, trivial, trivial⟩, ⟨ok30, trivial, trivial⟩⟩, ⟨ok40, ⟨ok39, trivial, trivial⟩, ⟨ok41, trivial, trivial⟩⟩⟩⟩, ⟨ok51, ⟨ok46, ⟨ok44, ⟨ok43, trivial, trivial⟩, ⟨ok45, trivial, trivial⟩⟩, ⟨ok49, ⟨ok47, trivial, trivial⟩, ⟨ok50, trivial, trivial⟩⟩⟩, ⟨ok77, ⟨ok61, ⟨ok52, trivial, trivial⟩, ⟨ok72, trivial, trivial⟩⟩, ⟨ok79, ⟨ok78, trivial, trivial⟩, ⟨ok80, trivial, trivial⟩⟩⟩⟩⟩, ⟨ok100, ⟨ok89, ⟨ok85, ⟨ok83, ⟨ok82, trivial, trivial⟩, ⟨ok84, trivial, trivial⟩⟩, ⟨ok87, ⟨ok86, trivial, trivial⟩, ⟨ok88, trivial, trivial⟩⟩⟩, ⟨ok93, ⟨ok91, ⟨ok90, trivial, trivial⟩, ⟨ok92, trivial, trivial⟩⟩, ⟨ok95, ⟨ok94, trivial, trivial⟩, ⟨ok96, trivial, trivial⟩⟩⟩⟩, ⟨ok126, ⟨ok120, ⟨ok102, ⟨ok101, trivial, trivial⟩, ⟨ok103, trivial, trivial⟩⟩, ⟨ok124, ⟨ok123, trivial, trivial⟩, ⟨ok125, trivial, trivial⟩⟩⟩, ⟨ok132, ⟨ok128, ⟨ok127, trivial, trivial⟩, ⟨ok131, trivial, trivial⟩⟩, ⟨ok145, ⟨ok142, trivial, trivial⟩, trivial⟩⟩⟩⟩⟩
end Go.Proofs.Ytolbkojnnofnaaa.law
