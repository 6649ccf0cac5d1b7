/- The evaluator's tables of types and functions of this seat. -/
import Derived.Test.YtdjbgfdippdfkaaGreatAe2
import Derived.Test.YtdjbgfdippdfkaaGreatProg
import Derived.KernelRfl
set_option linter.unusedVariables false
set_option linter.unusedSimpArgs false
namespace Go.Proofs.YtdjbgfdippdfkaaGreat.law
open Go Go.Proofs Ae

def ty1 : TI := ⟨.func, 1, 8, .nilfn⟩
def ty2 : TI := ⟨.int .i64, 1, 8, .int .i64 0⟩
def ty3 : TI := ⟨.int .i64, 1, 8, .int .i64 0⟩
def ty4 : TI := ⟨.bool, 1, 1, .bool false⟩
def ty5 : TI := ⟨.int .u8, 1, 1, .int .u8 0⟩
def ty6 : TI := ⟨.int .u8, 1, 1, .int .u8 0⟩
def ty7 : TI := ⟨.struct [(0, 2), (1, 3), (2, 4), (3, 6)], 4, 24, .agg [.int .i64 0, .int .i64 0, .bool false, .int .u8 0]⟩
def ty8 : TI := ⟨.struct [(0, 2), (1, 3), (2, 4), (3, 6)], 4, 24, .agg [.int .i64 0, .int .i64 0, .bool false, .int .u8 0]⟩
def ty9 : TI := ⟨.str, 1, 16, .str []⟩
def ty10 : TI := ⟨.str, 1, 16, .str []⟩
def ty11 : TI := ⟨.str, 1, 16, .str []⟩
def ty12 : TI := ⟨.int .u64, 1, 8, .int .u64 0⟩
def ty13 : TI := ⟨.struct [(0, 9), (1, 12)], 2, 24, .agg [.str [], .int .u64 0]⟩
def ty14 : TI := ⟨.struct [(0, 9), (1, 12)], 2, 24, .agg [.str [], .int .u64 0]⟩
def ty15 : TI := ⟨.ptr, 1, 8, .nilp⟩
def ty16 : TI := ⟨.ptr, 1, 8, .nilp⟩
def ty17 : TI := ⟨.ptr, 1, 8, .nilp⟩
def ty18 : TI := ⟨.struct [(0, 17)], 1, 8, .agg [.nilp]⟩
def ty19 : TI := ⟨.struct [(0, 17)], 1, 8, .agg [.nilp]⟩
def ty21 : TI := ⟨.int .i32, 1, 4, .int .i32 0⟩
def ty22 : TI := ⟨.slice 4, 1, 24, .sl 0 true []⟩
def ty23 : TI := ⟨.slice 100, 1, 24, .sl 0 true []⟩
def ty24 : TI := ⟨.slice 25, 1, 24, .sl 0 true []⟩
def ty25 : TI := ⟨.slice 52, 1, 24, .sl 0 true []⟩
def ty26 : TI := ⟨.struct [(0, 2), (1, 2), (2, 22), (3, 23), (4, 24), (5, 25)], 6, 112, .agg [.int .i64 0, .int .i64 0, .sl 0 true [], .sl 0 true [], .sl 0 true [], .sl 0 true []]⟩
def ty27 : TI := ⟨.struct [(0, 2), (1, 2), (2, 22), (3, 23), (4, 24), (5, 25)], 6, 112, .agg [.int .i64 0, .int .i64 0, .sl 0 true [], .sl 0 true [], .sl 0 true [], .sl 0 true []]⟩
def ty28 : TI := ⟨.slice 9, 1, 24, .sl 0 true []⟩
def ty29 : TI := ⟨.struct [(0, 27), (6, 28)], 7, 136, .agg [.int .i64 0, .int .i64 0, .sl 0 true [], .sl 0 true [], .sl 0 true [], .sl 0 true [], .sl 0 true []]⟩
def ty30 : TI := ⟨.struct [(0, 27), (6, 28)], 7, 136, .agg [.int .i64 0, .int .i64 0, .sl 0 true [], .sl 0 true [], .sl 0 true [], .sl 0 true [], .sl 0 true []]⟩
def ty31 : TI := ⟨.slice 60, 1, 24, .sl 0 true []⟩
def ty32 : TI := ⟨.func, 1, 8, .nilfn⟩
def ty33 : TI := ⟨.func, 1, 8, .nilfn⟩
def ty35 : TI := ⟨.func, 1, 8, .nilfn⟩
def ty36 : TI := ⟨.slice 114, 1, 24, .sl 0 true []⟩
def ty37 : TI := ⟨.struct [(0, 2), (1, 2), (2, 22), (3, 36), (4, 24), (5, 25)], 6, 112, .agg [.int .i64 0, .int .i64 0, .sl 0 true [], .sl 0 true [], .sl 0 true [], .sl 0 true []]⟩
def ty38 : TI := ⟨.struct [(0, 2), (1, 2), (2, 22), (3, 36), (4, 24), (5, 25)], 6, 112, .agg [.int .i64 0, .int .i64 0, .sl 0 true [], .sl 0 true [], .sl 0 true [], .sl 0 true []]⟩
def ty39 : TI := ⟨.struct [(0, 38), (6, 28)], 7, 136, .agg [.int .i64 0, .int .i64 0, .sl 0 true [], .sl 0 true [], .sl 0 true [], .sl 0 true [], .sl 0 true []]⟩
def ty40 : TI := ⟨.struct [(0, 38), (6, 28)], 7, 136, .agg [.int .i64 0, .int .i64 0, .sl 0 true [], .sl 0 true [], .sl 0 true [], .sl 0 true [], .sl 0 true []]⟩
def ty41 : TI := ⟨.func, 1, 8, .nilfn⟩
def ty42 : TI := ⟨.slice 58, 1, 24, .sl 0 true []⟩
def ty43 : TI := ⟨.func, 1, 8, .nilfn⟩
def ty44 : TI := ⟨.func, 1, 8, .nilfn⟩
def ty45 : TI := ⟨.func, 1, 8, .nilfn⟩
def ty46 : TI := ⟨.func, 1, 8, .nilfn⟩
def ty47 : TI := ⟨.func, 1, 8, .nilfn⟩
def ty48 : TI := ⟨.func, 1, 8, .nilfn⟩
def ty49 : TI := ⟨.func, 1, 8, .nilfn⟩
def ty50 : TI := ⟨.ptr, 1, 8, .nilp⟩
def ty51 : TI := ⟨.ptr, 1, 8, .nilp⟩
def ty52 : TI := ⟨.slice 2, 1, 24, .sl 0 true []⟩
def ty54 : TI := ⟨.func, 1, 8, .nilfn⟩
def ty55 : TI := ⟨.func, 1, 8, .nilfn⟩
def ty56 : TI := ⟨.func, 1, 8, .nilfn⟩
def ty57 : TI := ⟨.struct [(0, 2), (1, 2), (2, 2)], 3, 24, .agg [.int .i64 0, .int .i64 0, .int .i64 0]⟩
def ty58 : TI := ⟨.struct [(0, 2), (1, 2), (2, 2)], 3, 24, .agg [.int .i64 0, .int .i64 0, .int .i64 0]⟩
def ty59 : TI := ⟨.func, 1, 8, .nilfn⟩
def ty60 : TI := ⟨.struct [(0, 2), (1, 2), (2, 2)], 3, 24, .agg [.int .i64 0, .int .i64 0, .int .i64 0]⟩
def ty61 : TI := ⟨.func, 1, 8, .nilfn⟩
def ty62 : TI := ⟨.ptr, 1, 8, .nilp⟩
def ty63 : TI := ⟨.func, 1, 8, .nilfn⟩
def ty64 : TI := ⟨.func, 1, 8, .nilfn⟩
def ty65 : TI := ⟨.func, 1, 8, .nilfn⟩
def ty66 : TI := ⟨.func, 1, 8, .nilfn⟩
def ty67 : TI := ⟨.func, 1, 8, .nilfn⟩
def ty68 : TI := ⟨.func, 1, 8, .nilfn⟩
def ty69 : TI := ⟨.func, 1, 8, .nilfn⟩
def ty70 : TI := ⟨.func, 1, 8, .nilfn⟩
def ty71 : TI := ⟨.func, 1, 8, .nilfn⟩
def ty72 : TI := ⟨.func, 1, 8, .nilfn⟩
def ty73 : TI := ⟨.func, 1, 8, .nilfn⟩
def ty74 : TI := ⟨.func, 1, 8, .nilfn⟩
def ty75 : TI := ⟨.func, 1, 8, .nilfn⟩
def ty76 : TI := ⟨.func, 1, 8, .nilfn⟩
def ty77 : TI := ⟨.func, 1, 8, .nilfn⟩
def ty78 : TI := ⟨.func, 1, 8, .nilfn⟩
def ty79 : TI := ⟨.func, 1, 8, .nilfn⟩
def ty80 : TI := ⟨.func, 1, 8, .nilfn⟩
def ty81 : TI := ⟨.struct [(0, 2), (1, 2), (2, 52), (3, 52)], 4, 64, .agg [.int .i64 0, .int .i64 0, .sl 0 true [], .sl 0 true []]⟩
def ty82 : TI := ⟨.struct [(0, 2), (1, 2), (2, 52), (3, 52)], 4, 64, .agg [.int .i64 0, .int .i64 0, .sl 0 true [], .sl 0 true []]⟩
def ty83 : TI := ⟨.slice 90, 1, 24, .sl 0 true []⟩
def ty84 : TI := ⟨.struct [(0, 82), (4, 82), (8, 83)], 9, 152, .agg [.int .i64 0, .int .i64 0, .sl 0 true [], .sl 0 true [], .int .i64 0, .int .i64 0, .sl 0 true [], .sl 0 true [], .sl 0 true []]⟩
def ty85 : TI := ⟨.struct [(0, 82), (4, 82), (8, 83)], 9, 152, .agg [.int .i64 0, .int .i64 0, .sl 0 true [], .sl 0 true [], .int .i64 0, .int .i64 0, .sl 0 true [], .sl 0 true [], .sl 0 true []]⟩
def ty86 : TI := ⟨.struct [(0, 85), (9, 40)], 16, 288, .agg [.int .i64 0, .int .i64 0, .sl 0 true [], .sl 0 true [], .int .i64 0, .int .i64 0, .sl 0 true [], .sl 0 true [], .sl 0 true [], .int .i64 0, .int .i64 0, .sl 0 true [], .sl 0 true [], .sl 0 true [], .sl 0 true [], .sl 0 true []]⟩
def ty87 : TI := ⟨.struct [(0, 85), (9, 40)], 16, 288, .agg [.int .i64 0, .int .i64 0, .sl 0 true [], .sl 0 true [], .int .i64 0, .int .i64 0, .sl 0 true [], .sl 0 true [], .sl 0 true [], .int .i64 0, .int .i64 0, .sl 0 true [], .sl 0 true [], .sl 0 true [], .sl 0 true [], .sl 0 true []]⟩
def ty88 : TI := ⟨.func, 1, 8, .nilfn⟩
def ty89 : TI := ⟨.struct [(0, 2), (1, 28)], 2, 32, .agg [.int .i64 0, .sl 0 true []]⟩
def ty90 : TI := ⟨.struct [(0, 2), (1, 28)], 2, 32, .agg [.int .i64 0, .sl 0 true []]⟩
def ty91 : TI := ⟨.func, 1, 8, .nilfn⟩
def ty92 : TI := ⟨.func, 1, 8, .nilfn⟩
def ty93 : TI := ⟨.func, 1, 8, .nilfn⟩
def ty94 : TI := ⟨.func, 1, 8, .nilfn⟩
def ty95 : TI := ⟨.func, 1, 8, .nilfn⟩
def ty96 : TI := ⟨.func, 1, 8, .nilfn⟩
def ty97 : TI := ⟨.func, 1, 8, .nilfn⟩
def ty98 : TI := ⟨.func, 1, 8, .nilfn⟩
def ty99 : TI := ⟨.func, 1, 8, .nilfn⟩
def ty100 : TI := ⟨.slice 136, 1, 24, .sl 0 true []⟩
def ty101 : TI := ⟨.func, 1, 8, .nilfn⟩
def ty102 : TI := ⟨.func, 1, 8, .nilfn⟩
def ty103 : TI := ⟨.ptr, 1, 8, .nilp⟩
def ty104 : TI := ⟨.func, 1, 8, .nilfn⟩
def ty105 : TI := ⟨.func, 1, 8, .nilfn⟩
def ty106 : TI := ⟨.func, 1, 8, .nilfn⟩
def ty107 : TI := ⟨.slice 3, 1, 24, .sl 0 true []⟩
def ty109 : TI := ⟨.func, 1, 8, .nilfn⟩
def ty110 : TI := ⟨.struct [(0, 50), (1, 85)], 10, 160, .agg [.nilp, .int .i64 0, .int .i64 0, .sl 0 true [], .sl 0 true [], .int .i64 0, .int .i64 0, .sl 0 true [], .sl 0 true [], .sl 0 true []]⟩
def ty111 : TI := ⟨.struct [(0, 50), (1, 85)], 10, 160, .agg [.nilp, .int .i64 0, .int .i64 0, .sl 0 true [], .sl 0 true [], .int .i64 0, .int .i64 0, .sl 0 true [], .sl 0 true [], .sl 0 true []]⟩
def ty112 : TI := ⟨.func, 1, 8, .nilfn⟩
def ty113 : TI := ⟨.ptr, 1, 8, .nilp⟩
def ty114 : TI := ⟨.slice 131, 1, 24, .sl 0 true []⟩
def ty115 : TI := ⟨.func, 1, 8, .nilfn⟩
def ty116 : TI := ⟨.func, 1, 8, .nilfn⟩
def ty117 : TI := ⟨.func, 1, 8, .nilfn⟩
def ty118 : TI := ⟨.func, 1, 8, .nilfn⟩
def ty119 : TI := ⟨.func, 1, 8, .nilfn⟩
def ty120 : TI := ⟨.func, 1, 8, .nilfn⟩
def ty122 : TI := ⟨.func, 1, 8, .nilfn⟩
def ty123 : TI := ⟨.func, 1, 8, .nilfn⟩
def ty124 : TI := ⟨.func, 1, 8, .nilfn⟩
def ty126 : TI := ⟨.func, 1, 8, .nilfn⟩
def ty127 : TI := ⟨.func, 1, 8, .nilfn⟩
def ty128 : TI := ⟨.func, 1, 8, .nilfn⟩
def ty129 : TI := ⟨.func, 1, 8, .nilfn⟩
def ty130 : TI := ⟨.struct [(0, 2), (1, 2)], 2, 16, .agg [.int .i64 0, .int .i64 0]⟩
def ty131 : TI := ⟨.struct [(0, 2), (1, 2)], 2, 16, .agg [.int .i64 0, .int .i64 0]⟩
def ty132 : TI := ⟨.func, 1, 8, .nilfn⟩
def ty133 : TI := ⟨.func, 1, 8, .nilfn⟩
def ty134 : TI := ⟨.ptr, 1, 8, .nilp⟩
def ty135 : TI := ⟨.func, 1, 8, .nilfn⟩
def ty136 : TI := ⟨.struct [(0, 2), (1, 2)], 2, 16, .agg [.int .i64 0, .int .i64 0]⟩
def ty137 : TI := ⟨.func, 1, 8, .nilfn⟩
def ty138 : TI := ⟨.func, 1, 8, .nilfn⟩
def ty139 : TI := ⟨.func, 1, 8, .nilfn⟩
def ty140 : TI := ⟨.func, 1, 8, .nilfn⟩
def ty141 : TI := ⟨.func, 1, 8, .nilfn⟩
def ty142 : TI := ⟨.func, 1, 8, .nilfn⟩
def ty143 : TI := ⟨.func, 1, 8, .nilfn⟩
def ty144 : TI := ⟨.func, 1, 8, .nilfn⟩
def ty145 : TI := ⟨.func, 1, 8, .nilfn⟩
def ty146 : TI := ⟨.ptr, 1, 8, .nilp⟩
def ty147 : TI := ⟨.slice 5, 1, 24, .sl 0 true []⟩
def ty148 : TI := ⟨.struct [(0, 146), (1, 147)], 2, 32, .agg [.nilp, .sl 0 true []]⟩
def ty149 : TI := ⟨.struct [(0, 146), (1, 147)], 2, 32, .agg [.nilp, .sl 0 true []]⟩
def ty150 : TI := ⟨.func, 1, 8, .nilfn⟩
def ty154 : TI := ⟨.func, 1, 8, .nilfn⟩
def ty155 : TI := ⟨.func, 1, 8, .nilfn⟩
def ty156 : TI := ⟨.func, 1, 8, .nilfn⟩
def ty157 : TI := ⟨.func, 1, 8, .nilfn⟩
def ty158 : TI := ⟨.func, 1, 8, .nilfn⟩
def ty159 : TI := ⟨.int .u64, 1, 8, .int .u64 0⟩
def ty160 : TI := ⟨.func, 1, 8, .nilfn⟩
def ty161 : TI := ⟨.func, 1, 8, .nilfn⟩
def ty162 : TI := ⟨.func, 1, 8, .nilfn⟩
def ty163 : TI := ⟨.func, 1, 8, .nilfn⟩
def ty164 : TI := ⟨.func, 1, 8, .nilfn⟩
def ty165 : TI := ⟨.func, 1, 8, .nilfn⟩
def ty166 : TI := ⟨.ptr, 1, 8, .nilp⟩
def ty167 : TI := ⟨.func, 1, 8, .nilfn⟩
def ty168 : TI := ⟨.int .i64, 1, 8, .int .i64 0⟩
def ty170 : TI := ⟨.func, 1, 8, .nilfn⟩
def ty171 : TI := ⟨.func, 1, 8, .nilfn⟩
def ty172 : TI := ⟨.func, 1, 8, .nilfn⟩
def ty173 : TI := ⟨.func, 1, 8, .nilfn⟩
def ty175 : TI := ⟨.func, 1, 8, .nilfn⟩
def ty176 : TI := ⟨.func, 1, 8, .nilfn⟩
def ty177 : TI := ⟨.int .u32, 1, 4, .int .u32 0⟩
def ty178 : TI := ⟨.func, 1, 8, .nilfn⟩
def ty179 : TI := ⟨.int .u64, 1, 8, .int .u64 0⟩
def ty180 : TI := ⟨.func, 1, 8, .nilfn⟩
def ty181 : TI := ⟨.func, 1, 8, .nilfn⟩
def ty183 : TI := ⟨.func, 1, 8, .nilfn⟩
def ty184 : TI := ⟨.func, 1, 8, .nilfn⟩
def ty185 : TI := ⟨.int .u64, 1, 8, .int .u64 0⟩
def ty186 : TI := ⟨.func, 1, 8, .nilfn⟩
def ty187 : TI := ⟨.func, 1, 8, .nilfn⟩
def ty188 : TI := ⟨.func, 1, 8, .nilfn⟩
def ty189 : TI := ⟨.ptr, 1, 8, .nilp⟩
def ty190 : TI := ⟨.func, 1, 8, .nilfn⟩
def ty191 : TI := ⟨.func, 1, 8, .nilfn⟩
def ty192 : TI := ⟨.func, 1, 8, .nilfn⟩
def ty193 : TI := ⟨.ptr, 1, 8, .nilp⟩
def ty195 : TI := ⟨.func, 1, 8, .nilfn⟩
def ty196 : TI := ⟨.struct [(0, 17), (1, 17), (2, 17), (3, 9)], 4, 40, .agg [.nilp, .nilp, .nilp, .str []]⟩
def ty197 : TI := ⟨.struct [(0, 17), (1, 17), (2, 17), (3, 9)], 4, 40, .agg [.nilp, .nilp, .nilp, .str []]⟩
def ty198 : TI := ⟨.array 0 16, 0, 0, .agg []⟩
def ty199 : TI := ⟨.struct [(0, 198)], 0, 0, .agg []⟩
def ty200 : TI := ⟨.struct [(0, 198)], 0, 0, .agg []⟩
def ty201 : TI := ⟨.func, 1, 8, .nilfn⟩
def ty202 : TI := ⟨.int .u8, 1, 1, .int .u8 0⟩
def ty203 : TI := ⟨.int .u8, 1, 1, .int .u8 0⟩
def ty204 : TI := ⟨.func, 1, 8, .nilfn⟩
def ty205 : TI := ⟨.int .i32, 1, 4, .int .i32 0⟩
def ty206 : TI := ⟨.int .i32, 1, 4, .int .i32 0⟩
def ty207 : TI := ⟨.struct [(0, 12), (1, 12), (2, 177), (3, 202), (4, 5), (5, 5), (6, 203), (7, 204), (8, 166), (9, 205), (10, 206)], 11, 48, .agg [.int .u64 0, .int .u64 0, .int .u32 0, .int .u8 0, .int .u8 0, .int .u8 0, .int .u8 0, .nilfn, .nilp, .int .i32 0, .int .i32 0]⟩
def ty208 : TI := ⟨.struct [(0, 12), (1, 12), (2, 177), (3, 202), (4, 5), (5, 5), (6, 203), (7, 204), (8, 166), (9, 205), (10, 206)], 11, 48, .agg [.int .u64 0, .int .u64 0, .int .u32 0, .int .u8 0, .int .u8 0, .int .u8 0, .int .u8 0, .nilfn, .nilp, .int .i32 0, .int .i32 0]⟩
def ty209 : TI := ⟨.func, 1, 8, .nilfn⟩
def tyT : Tree TI := .node (.node (.node (.node (.node (.node (.node (.node (.leaf) 1 ty1 (.leaf)) 2 ty2 (.node (.leaf) 3 ty3 (.leaf))) 4 ty4 (.node (.node (.leaf) 5 ty5 (.leaf)) 6 ty6 (.leaf))) 7 ty7 (.node (.node (.node (.leaf) 8 ty8 (.leaf)) 9 ty9 (.leaf)) 10 ty10 (.node (.node (.leaf) 11 ty11 (.leaf)) 12 ty12 (.leaf)))) 13 ty13 (.node (.node (.node (.node (.leaf) 14 ty14 (.leaf)) 15 ty15 (.leaf)) 16 ty16 (.node (.node (.leaf) 17 ty17 (.leaf)) 18 ty18 (.leaf))) 19 ty19 (.node (.node (.node (.leaf) 21 ty21 (.leaf)) 22 ty22 (.leaf)) 23 ty23 (.node (.node (.leaf) 24 ty24 (.leaf)) 25 ty25 (.leaf))))) 26 ty26 (.node (.node (.node (.node (.node (.leaf) 27 ty27 (.leaf)) 28 ty28 (.node (.leaf) 29 ty29 (.leaf))) 30 ty30 (.node (.node (.leaf) 31 ty31 (.leaf)) 32 ty32 (.leaf))) 33 ty33 (.node (.node (.node (.leaf) 35 ty35 (.leaf)) 36 ty36 (.leaf)) 37 ty37 (.node (.node (.leaf) 38 ty38 (.leaf)) 39 ty39 (.leaf)))) 40 ty40 (.node (.node (.node (.node (.leaf) 41 ty41 (.leaf)) 42 ty42 (.leaf)) 43 ty43 (.node (.node (.leaf) 44 ty44 (.leaf)) 45 ty45 (.leaf))) 46 ty46 (.node (.node (.node (.leaf) 47 ty47 (.leaf)) 48 ty48 (.leaf)) 49 ty49 (.node (.node (.leaf) 50 ty50 (.leaf)) 51 ty51 (.leaf)))))) 52 ty52 (.node (.node (.node (.node (.node (.node (.leaf) 54 ty54 (.leaf)) 55 ty55 (.node (.leaf) 56 ty56 (.leaf))) 57 ty57 (.node (.node (.leaf) 58 ty58 (.leaf)) 59 ty59 (.leaf))) 60 ty60 (.node (.node (.node (.leaf) 61 ty61 (.leaf)) 62 ty62 (.leaf)) 63 ty63 (.node (.node (.leaf) 64 ty64 (.leaf)) 65 ty65 (.leaf)))) 66 ty66 (.node (.node (.node (.node (.leaf) 67 ty67 (.leaf)) 68 ty68 (.leaf)) 69 ty69 (.node (.node (.leaf) 70 ty70 (.leaf)) 71 ty71 (.leaf))) 72 ty72 (.node (.node (.node (.leaf) 73 ty73 (.leaf)) 74 ty74 (.leaf)) 75 ty75 (.node (.node (.leaf) 76 ty76 (.leaf)) 77 ty77 (.leaf))))) 78 ty78 (.node (.node (.node (.node (.node (.leaf) 79 ty79 (.leaf)) 80 ty80 (.leaf)) 81 ty81 (.node (.node (.leaf) 82 ty82 (.leaf)) 83 ty83 (.leaf))) 84 ty84 (.node (.node (.node (.leaf) 85 ty85 (.leaf)) 86 ty86 (.leaf)) 87 ty87 (.node (.node (.leaf) 88 ty88 (.leaf)) 89 ty89 (.leaf)))) 90 ty90 (.node (.node (.node (.node (.leaf) 91 ty91 (.leaf)) 92 ty92 (.leaf)) 93 ty93 (.node (.node (.leaf) 94 ty94 (.leaf)) 95 ty95 (.leaf))) 96 ty96 (.node (.node (.node (.leaf) 97 ty97 (.leaf)) 98 ty98 (.leaf)) 99 ty99 (.node (.node (.leaf) 100 ty100 (.leaf)) 101 ty101 (.leaf))))))) 102 ty102 (.node (.node (.node (.node (.node (.node (.node (.leaf) 103 ty103 (.leaf)) 104 ty104 (.node (.leaf) 105 ty105 (.leaf))) 106 ty106 (.node (.node (.leaf) 107 ty107 (.leaf)) 109 ty109 (.leaf))) 110 ty110 (.node (.node (.node (.leaf) 111 ty111 (.leaf)) 112 ty112 (.leaf)) 113 ty113 (.node (.node (.leaf) 114 ty114 (.leaf)) 115 ty115 (.leaf)))) 116 ty116 (.node (.node (.node (.node (.leaf) 117 ty117 (.leaf)) 118 ty118 (.leaf)) 119 ty119 (.node (.node (.leaf) 120 ty120 (.leaf)) 122 ty122 (.leaf))) 123 ty123 (.node (.node (.node (.leaf) 124 ty124 (.leaf)) 126 ty126 (.leaf)) 127 ty127 (.node (.node (.leaf) 128 ty128 (.leaf)) 129 ty129 (.leaf))))) 130 ty130 (.node (.node (.node (.node (.node (.leaf) 131 ty131 (.leaf)) 132 ty132 (.leaf)) 133 ty133 (.node (.node (.leaf) 134 ty134 (.leaf)) 135 ty135 (.leaf))) 136 ty136 (.node (.node (.node (.leaf) 137 ty137 (.leaf)) 138 ty138 (.leaf)) 139 ty139 (.node (.node (.leaf) 140 ty140 (.leaf)) 141 ty141 (.leaf)))) 142 ty142 (.node (.node (.node (.node (.leaf) 143 ty143 (.leaf)) 144 ty144 (.leaf)) 145 ty145 (.node (.node (.leaf) 146 ty146 (.leaf)) 147 ty147 (.leaf))) 148 ty148 (.node (.node (.node (.leaf) 149 ty149 (.leaf)) 150 ty150 (.leaf)) 154 ty154 (.node (.node (.leaf) 155 ty155 (.leaf)) 156 ty156 (.leaf)))))) 157 ty157 (.node (.node (.node (.node (.node (.node (.leaf) 158 ty158 (.leaf)) 159 ty159 (.node (.leaf) 160 ty160 (.leaf))) 161 ty161 (.node (.node (.leaf) 162 ty162 (.leaf)) 163 ty163 (.leaf))) 164 ty164 (.node (.node (.node (.leaf) 165 ty165 (.leaf)) 166 ty166 (.leaf)) 167 ty167 (.node (.node (.leaf) 168 ty168 (.leaf)) 170 ty170 (.leaf)))) 171 ty171 (.node (.node (.node (.node (.leaf) 172 ty172 (.leaf)) 173 ty173 (.leaf)) 175 ty175 (.node (.node (.leaf) 176 ty176 (.leaf)) 177 ty177 (.leaf))) 178 ty178 (.node (.node (.node (.leaf) 179 ty179 (.leaf)) 180 ty180 (.leaf)) 181 ty181 (.node (.node (.leaf) 183 ty183 (.leaf)) 184 ty184 (.leaf))))) 185 ty185 (.node (.node (.node (.node (.node (.leaf) 186 ty186 (.leaf)) 187 ty187 (.leaf)) 188 ty188 (.node (.node (.leaf) 189 ty189 (.leaf)) 190 ty190 (.leaf))) 191 ty191 (.node (.node (.node (.leaf) 192 ty192 (.leaf)) 193 ty193 (.leaf)) 195 ty195 (.node (.node (.leaf) 196 ty196 (.leaf)) 197 ty197 (.leaf)))) 198 ty198 (.node (.node (.node (.node (.leaf) 199 ty199 (.leaf)) 200 ty200 (.leaf)) 201 ty201 (.node (.node (.leaf) 202 ty202 (.leaf)) 203 ty203 (.leaf))) 204 ty204 (.node (.node (.node (.leaf) 205 ty205 (.leaf)) 206 ty206 (.leaf)) 207 ty207 (.node (.node (.leaf) 208 ty208 (.leaf)) 209 ty209 (.leaf)))))))
theorem tyOk : tyT.all (tyB Tryz.prog) = true := by kernel_rfl
/-- laws.FnExactRefusedDeed -/
noncomputable def fi3 : FI := fiOf Tryz.f3 [] [] [] false
theorem ok3 : FnOk Tryz.prog drawOk 3 fi3 := .of Tryz.func3 (by kernel_rfl) (by kernel_rfl) (by kernel_rfl)
/-- laws.szStream -/
noncomputable def fi4 : FI := fiOf Tryz.f4 [] [] [] false
theorem ok4 : FnOk Tryz.prog drawOk 4 fi4 := .of Tryz.func4 (by kernel_rfl) (by kernel_rfl) (by kernel_rfl)
/-- laws.szDeedS -/
noncomputable def fi5 : FI := fiOf Tryz.f5 [] [] [] false
theorem ok5 : FnOk Tryz.prog drawOk 5 fi5 := .of Tryz.func5 (by kernel_rfl) (by kernel_rfl) (by kernel_rfl)
/-- spec.RefusedDeed -/
noncomputable def fi6 : FI := fiOf Tryz.f6 [] [] [] false 0 [18]
theorem ok6 : FnOk Tryz.prog drawOk 6 fi6 := .of Tryz.func6 (by kernel_rfl) (by kernel_rfl) (by kernel_rfl)
/-- laws.toStream -/
noncomputable def fi7 : FI := fiOf Tryz.f7 [] [(3, 1)] [] false
theorem ok7 : FnOk Tryz.prog drawOk 7 fi7 := .of Tryz.func7 (by kernel_rfl) (by kernel_rfl) (by kernel_rfl)
/-- laws.toDeedS -/
noncomputable def fi8 : FI := fiOf Tryz.f8 [] [] [] false
theorem ok8 : FnOk Tryz.prog drawOk 8 fi8 := .of Tryz.func8 (by kernel_rfl) (by kernel_rfl) (by kernel_rfl)
/-- impl.RefusedDeed -/
noncomputable def fi9 : FI := fiOf Tryz.f9 [] [] [] false 0 [19, 29]
theorem ok9 : FnOk Tryz.prog drawOk 9 fi9 := .of Tryz.func9 (by kernel_rfl) (by kernel_rfl) (by kernel_rfl)
/-- laws.eqStream -/
noncomputable def fi10 : FI := fiOf Tryz.f10 [] [] [] false
theorem ok10 : FnOk Tryz.prog drawOk 10 fi10 := .of Tryz.func10 (by kernel_rfl) (by kernel_rfl) (by kernel_rfl)
/-- laws.eqDeedS -/
noncomputable def fi11 : FI := fiOf Tryz.f11 [] [] [] false
theorem ok11 : FnOk Tryz.prog drawOk 11 fi11 := .of Tryz.func11 (by kernel_rfl) (by kernel_rfl) (by kernel_rfl)
/-- laws.szChecker -/
noncomputable def fi12 : FI := fiOf Tryz.f12 [] [] [] false
theorem ok12 : FnOk Tryz.prog drawOk 12 fi12 := .of Tryz.func12 (by kernel_rfl) (by kernel_rfl) (by kernel_rfl)
/-- laws.szStringS -/
noncomputable def fi13 : FI := fiOf Tryz.f13 [] [] [] false
theorem ok13 : FnOk Tryz.prog drawOk 13 fi13 := .of Tryz.func13 (by kernel_rfl) (by kernel_rfl) (by kernel_rfl)
/-- spec.l08Asked -/
noncomputable def fi14 : FI := fiOf Tryz.f14 [] [] [] false
theorem ok14 : FnOk Tryz.prog drawOk 14 fi14 := .of Tryz.func14 (by kernel_rfl) (by kernel_rfl) (by kernel_rfl)
/-- laws.toChecker -/
noncomputable def fi16 : FI := fiOf Tryz.f16 [] [(3, 1)] [] false
theorem ok16 : FnOk Tryz.prog drawOk 16 fi16 := .of Tryz.func16 (by kernel_rfl) (by kernel_rfl) (by kernel_rfl)
/-- laws.toStringS -/
noncomputable def fi17 : FI := fiOf Tryz.f17 [] [] [] false
theorem ok17 : FnOk Tryz.prog drawOk 17 fi17 := .of Tryz.func17 (by kernel_rfl) (by kernel_rfl) (by kernel_rfl)
/-- laws.toDeed -/
noncomputable def fi18 : FI := fiOf Tryz.f18 [] [(3, 1)] [] false
theorem ok18 : FnOk Tryz.prog drawOk 18 fi18 := .of Tryz.func18 (by kernel_rfl) (by kernel_rfl) (by kernel_rfl)
/-- impl.deedsCode -/
noncomputable def fi19 : FI := fiOf Tryz.f19 [] [] [] false
theorem ok19 : FnOk Tryz.prog drawOk 19 fi19 := .of Tryz.func19 (by kernel_rfl) (by kernel_rfl) (by kernel_rfl)
/-- laws.eqChecker -/
noncomputable def fi22 : FI := fiOf Tryz.f22 [] [] [] false
theorem ok22 : FnOk Tryz.prog drawOk 22 fi22 := .of Tryz.func22 (by kernel_rfl) (by kernel_rfl) (by kernel_rfl)
/-- laws.eqStringS -/
noncomputable def fi23 : FI := fiOf Tryz.f23 [] [] [] false
theorem ok23 : FnOk Tryz.prog drawOk 23 fi23 := .of Tryz.func23 (by kernel_rfl) (by kernel_rfl) (by kernel_rfl)
/-- laws.eqDeed -/
noncomputable def fi24 : FI := fiOf Tryz.f24 [] [] [] false
theorem ok24 : FnOk Tryz.prog drawOk 24 fi24 := .of Tryz.func24 (by kernel_rfl) (by kernel_rfl) (by kernel_rfl)
/-- laws.szBoolS -/
noncomputable def fi25 : FI := fiOf Tryz.f25 [] [] [] false
theorem ok25 : FnOk Tryz.prog drawOk 25 fi25 := .of Tryz.func25 (by kernel_rfl) (by kernel_rfl) (by kernel_rfl)
/-- laws.szPushSS -/
noncomputable def fi26 : FI := fiOf Tryz.f26 [] [] [] false
theorem ok26 : FnOk Tryz.prog drawOk 26 fi26 := .of Tryz.func26 (by kernel_rfl) (by kernel_rfl) (by kernel_rfl)
/-- laws.szInt64SSS -/
noncomputable def fi27 : FI := fiOf Tryz.f27 [] [] [] false
theorem ok27 : FnOk Tryz.prog drawOk 27 fi27 := .of Tryz.func27 (by kernel_rfl) (by kernel_rfl) (by kernel_rfl)
/-- laws.szInt64SS -/
noncomputable def fi28 : FI := fiOf Tryz.f28 [] [] [] false
theorem ok28 : FnOk Tryz.prog drawOk 28 fi28 := .of Tryz.func28 (by kernel_rfl) (by kernel_rfl) (by kernel_rfl)
/-- spec.l08Ok -/
noncomputable def fi29 : FI := fiOf Tryz.f29 [] [] [] false
theorem ok29 : FnOk Tryz.prog drawOk 29 fi29 := .of Tryz.func29 (by kernel_rfl) (by kernel_rfl) (by kernel_rfl)
/-- spec.l08Deed -/
noncomputable def fi30 : FI := fiOf Tryz.f30 [] [] [] false
theorem ok30 : FnOk Tryz.prog drawOk 30 fi30 := .of Tryz.func30 (by kernel_rfl) (by kernel_rfl) (by kernel_rfl)
/-- (*spec.l08Run).do -/
noncomputable def fi32 : FI := fiOf Tryz.f32 [42] [] [] false
theorem ok32 : FnOk Tryz.prog drawOk 32 fi32 := .of Tryz.func32 (by kernel_rfl) (by kernel_rfl) (by kernel_rfl)
/-- laws.toBoolS -/
noncomputable def fi33 : FI := fiOf Tryz.f33 [] [] [] false
theorem ok33 : FnOk Tryz.prog drawOk 33 fi33 := .of Tryz.func33 (by kernel_rfl) (by kernel_rfl) (by kernel_rfl)
/-- laws.toPushSS -/
noncomputable def fi34 : FI := fiOf Tryz.f34 [] [] [] false
theorem ok34 : FnOk Tryz.prog drawOk 34 fi34 := .of Tryz.func34 (by kernel_rfl) (by kernel_rfl) (by kernel_rfl)
/-- laws.toInt64SSS -/
noncomputable def fi35 : FI := fiOf Tryz.f35 [] [] [] false
theorem ok35 : FnOk Tryz.prog drawOk 35 fi35 := .of Tryz.func35 (by kernel_rfl) (by kernel_rfl) (by kernel_rfl)
/-- laws.toInt64SS -/
noncomputable def fi36 : FI := fiOf Tryz.f36 [] [] [] false
theorem ok36 : FnOk Tryz.prog drawOk 36 fi36 := .of Tryz.func36 (by kernel_rfl) (by kernel_rfl) (by kernel_rfl)
/-- impl.ValidStream -/
noncomputable def fi37 : FI := fiOf Tryz.f37 [] [] [] false
theorem ok37 : FnOk Tryz.prog drawOk 37 fi37 := .of Tryz.func37 (by kernel_rfl) (by kernel_rfl) (by kernel_rfl)
/-- slices.ContainsFunc[[]impl.Deed,impl.Deed] -/
noncomputable def fi38 : FI := fiOf Tryz.f38 [] [] [] false
theorem ok38 : FnOk Tryz.prog drawOk 38 fi38 := .of Tryz.func38 (by kernel_rfl) (by kernel_rfl) (by kernel_rfl)
/-- impl.deedsCode$1 -/
noncomputable def fi39 : FI := fiOf Tryz.f39 [] [] [] false
theorem ok39 : FnOk Tryz.prog drawOk 39 fi39 := .of Tryz.func39 (by kernel_rfl) (by kernel_rfl) (by kernel_rfl)
/-- impl.ValidDeed -/
noncomputable def fi40 : FI := fiOf Tryz.f40 [] [] [] false
theorem ok40 : FnOk Tryz.prog drawOk 40 fi40 := .of Tryz.func40 (by kernel_rfl) (by kernel_rfl) (by kernel_rfl)
/-- impl.size[string] -/
noncomputable def fi41 : FI := fiOf Tryz.f41 [] [] [] false
theorem ok41 : FnOk Tryz.prog drawOk 41 fi41 := .of Tryz.func41 (by kernel_rfl) (by kernel_rfl) (by kernel_rfl)
/-- impl.size[impl.Parcel] -/
noncomputable def fi43 : FI := fiOf Tryz.f43 [] [] [] false 1
theorem ok43 : FnOk Tryz.prog drawOk 43 fi43 := .of Tryz.func43 (by kernel_rfl) (by kernel_rfl) (by kernel_rfl)
/-- slices.Delete[[]impl.Parcel,impl.Parcel] -/
noncomputable def fi44 : FI := fiOf Tryz.f44 [] [] [26] false
theorem ok44 : FnOk Tryz.prog drawOk 44 fi44 := .of Tryz.func44 (by kernel_rfl) (by kernel_rfl) (by kernel_rfl)
/-- laws.eqBoolS -/
noncomputable def fi46 : FI := fiOf Tryz.f46 [] [] [] false
theorem ok46 : FnOk Tryz.prog drawOk 46 fi46 := .of Tryz.func46 (by kernel_rfl) (by kernel_rfl) (by kernel_rfl)
/-- laws.eqPushSS -/
noncomputable def fi47 : FI := fiOf Tryz.f47 [] [] [] false
theorem ok47 : FnOk Tryz.prog drawOk 47 fi47 := .of Tryz.func47 (by kernel_rfl) (by kernel_rfl) (by kernel_rfl)
/-- laws.eqInt64SSS -/
noncomputable def fi48 : FI := fiOf Tryz.f48 [] [] [] false
theorem ok48 : FnOk Tryz.prog drawOk 48 fi48 := .of Tryz.func48 (by kernel_rfl) (by kernel_rfl) (by kernel_rfl)
/-- laws.eqInt64SS -/
noncomputable def fi49 : FI := fiOf Tryz.f49 [] [] [] false
theorem ok49 : FnOk Tryz.prog drawOk 49 fi49 := .of Tryz.func49 (by kernel_rfl) (by kernel_rfl) (by kernel_rfl)
/-- laws.szPushS -/
noncomputable def fi50 : FI := fiOf Tryz.f50 [] [] [] false
theorem ok50 : FnOk Tryz.prog drawOk 50 fi50 := .of Tryz.func50 (by kernel_rfl) (by kernel_rfl) (by kernel_rfl)
/-- laws.szInt64S -/
noncomputable def fi51 : FI := fiOf Tryz.f51 [] [] [] false
theorem ok51 : FnOk Tryz.prog drawOk 51 fi51 := .of Tryz.func51 (by kernel_rfl) (by kernel_rfl) (by kernel_rfl)
/-- spec.l02Ok -/
noncomputable def fi52 : FI := fiOf Tryz.f52 [] [] [] false
theorem ok52 : FnOk Tryz.prog drawOk 52 fi52 := .of Tryz.func52 (by kernel_rfl) (by kernel_rfl) (by kernel_rfl)
/-- spec.l00In -/
noncomputable def fi53 : FI := fiOf Tryz.f53 [] [] [] false
theorem ok53 : FnOk Tryz.prog drawOk 53 fi53 := .of Tryz.func53 (by kernel_rfl) (by kernel_rfl) (by kernel_rfl)
/-- spec.l01Ok -/
noncomputable def fi54 : FI := fiOf Tryz.f54 [] [] [] false
theorem ok54 : FnOk Tryz.prog drawOk 54 fi54 := .of Tryz.func54 (by kernel_rfl) (by kernel_rfl) (by kernel_rfl)
/-- spec.l08Whole -/
noncomputable def fi55 : FI := fiOf Tryz.f55 [] [] [] false
theorem ok55 : FnOk Tryz.prog drawOk 55 fi55 := .of Tryz.func55 (by kernel_rfl) (by kernel_rfl) (by kernel_rfl)
/-- spec.l08Words -/
noncomputable def fi56 : FI := fiOf Tryz.f56 [] [] [] false
theorem ok56 : FnOk Tryz.prog drawOk 56 fi56 := .of Tryz.func56 (by kernel_rfl) (by kernel_rfl) (by kernel_rfl)
/-- spec.l08Copy -/
noncomputable def fi57 : FI := fiOf Tryz.f57 [] [] [] false
theorem ok57 : FnOk Tryz.prog drawOk 57 fi57 := .of Tryz.func57 (by kernel_rfl) (by kernel_rfl) (by kernel_rfl)
/-- (*spec.l08Run).wire -/
noncomputable def fi58 : FI := fiOf Tryz.f58 [] [] [] false
theorem ok58 : FnOk Tryz.prog drawOk 58 fi58 := .of Tryz.func58 (by kernel_rfl) (by kernel_rfl) (by kernel_rfl)
/-- laws.toPushS -/
noncomputable def fi59 : FI := fiOf Tryz.f59 [] [] [] false
theorem ok59 : FnOk Tryz.prog drawOk 59 fi59 := .of Tryz.func59 (by kernel_rfl) (by kernel_rfl) (by kernel_rfl)
/-- laws.toInt64S -/
noncomputable def fi60 : FI := fiOf Tryz.f60 [] [] [] false
theorem ok60 : FnOk Tryz.prog drawOk 60 fi60 := .of Tryz.func60 (by kernel_rfl) (by kernel_rfl) (by kernel_rfl)
/-- impl.ValidChecker -/
noncomputable def fi61 : FI := fiOf Tryz.f61 [] [] [] false
theorem ok61 : FnOk Tryz.prog drawOk 61 fi61 := .of Tryz.func61 (by kernel_rfl) (by kernel_rfl) (by kernel_rfl)
/-- impl.within -/
noncomputable def fi62 : FI := fiOf Tryz.f62 [] [] [] false
theorem ok62 : FnOk Tryz.prog drawOk 62 fi62 := .of Tryz.func62 (by kernel_rfl) (by kernel_rfl) (by kernel_rfl)
/-- slices.ContainsFunc[[]string,string] -/
noncomputable def fi63 : FI := fiOf Tryz.f63 [] [] [] false
theorem ok63 : FnOk Tryz.prog drawOk 63 fi63 := .of Tryz.func63 (by kernel_rfl) (by kernel_rfl) (by kernel_rfl)
/-- impl.ValidStream$1 -/
noncomputable def fi64 : FI := fiOf Tryz.f64 [] [] [] false
theorem ok64 : FnOk Tryz.prog drawOk 64 fi64 := .of Tryz.func64 (by kernel_rfl) (by kernel_rfl) (by kernel_rfl)
/-- impl.ValidWord -/
noncomputable def fi65 : FI := fiOf Tryz.f65 [] [] [] false
theorem ok65 : FnOk Tryz.prog drawOk 65 fi65 := .of Tryz.func65 (by kernel_rfl) (by kernel_rfl) (by kernel_rfl)
/-- slices.IndexFunc[[]impl.Deed,impl.Deed] -/
noncomputable def fi67 : FI := fiOf Tryz.f67 [] [] [] false
theorem ok67 : FnOk Tryz.prog drawOk 67 fi67 := .of Tryz.func67 (by kernel_rfl) (by kernel_rfl) (by kernel_rfl)
/-- impl.deedWord -/
noncomputable def fi68 : FI := fiOf Tryz.f68 [] [] [] false
theorem ok68 : FnOk Tryz.prog drawOk 68 fi68 := .of Tryz.func68 (by kernel_rfl) (by kernel_rfl) (by kernel_rfl)
/-- slices.Contains[[]int64,int64] -/
noncomputable def fi70 : FI := fiOf Tryz.f70 [] [] [] false 1
theorem ok70 : FnOk Tryz.prog drawOk 70 fi70 := .of Tryz.func70 (by kernel_rfl) (by kernel_rfl) (by kernel_rfl)
/-- slices.Sort[[]int64,int64] -/
noncomputable def fi71 : FI := fiOf Tryz.f71 [] [] [] false
theorem ok71 : FnOk Tryz.prog drawOk 71 fi71 := .of Tryz.func71 (by kernel_rfl) (by kernel_rfl) (by kernel_rfl)
/-- (impl.Checker).end -/
noncomputable def fi72 : FI := fiOf Tryz.f72 [] [(5, 1), (6, 1)] [] false
theorem ok72 : FnOk Tryz.prog drawOk 72 fi72 := .of Tryz.func72 (by kernel_rfl) (by kernel_rfl) (by kernel_rfl)
/-- laws.eqPushS -/
noncomputable def fi73 : FI := fiOf Tryz.f73 [] [] [] false
theorem ok73 : FnOk Tryz.prog drawOk 73 fi73 := .of Tryz.func73 (by kernel_rfl) (by kernel_rfl) (by kernel_rfl)
/-- laws.eqInt64S -/
noncomputable def fi74 : FI := fiOf Tryz.f74 [] [] [] false
theorem ok74 : FnOk Tryz.prog drawOk 74 fi74 := .of Tryz.func74 (by kernel_rfl) (by kernel_rfl) (by kernel_rfl)
/-- spec.l02List -/
noncomputable def fi75 : FI := fiOf Tryz.f75 [] [] [] false
theorem ok75 : FnOk Tryz.prog drawOk 75 fi75 := .of Tryz.func75 (by kernel_rfl) (by kernel_rfl) (by kernel_rfl)
/-- spec.l01Symbol -/
noncomputable def fi76 : FI := fiOf Tryz.f76 [] [] [] false
theorem ok76 : FnOk Tryz.prog drawOk 76 fi76 := .of Tryz.func76 (by kernel_rfl) (by kernel_rfl) (by kernel_rfl)
/-- spec.l00Own -/
noncomputable def fi77 : FI := fiOf Tryz.f77 [] [] [] false
theorem ok77 : FnOk Tryz.prog drawOk 77 fi77 := .of Tryz.func77 (by kernel_rfl) (by kernel_rfl) (by kernel_rfl)
/-- (*spec.l08Run).come -/
noncomputable def fi78 : FI := fiOf Tryz.f78 [] [] [] false
theorem ok78 : FnOk Tryz.prog drawOk 78 fi78 := .of Tryz.func78 (by kernel_rfl) (by kernel_rfl) (by kernel_rfl)
/-- laws.toPush -/
noncomputable def fi79 : FI := fiOf Tryz.f79 [] [(3, 1)] [] false
theorem ok79 : FnOk Tryz.prog drawOk 79 fi79 := .of Tryz.func79 (by kernel_rfl) (by kernel_rfl) (by kernel_rfl)
/-- impl.size[bool] -/
noncomputable def fi80 : FI := fiOf Tryz.f80 [] [] [] false
theorem ok80 : FnOk Tryz.prog drawOk 80 fi80 := .of Tryz.func80 (by kernel_rfl) (by kernel_rfl) (by kernel_rfl)
/-- (impl.Checker).isState -/
noncomputable def fi81 : FI := fiOf Tryz.f81 [] [] [] false
theorem ok81 : FnOk Tryz.prog drawOk 81 fi81 := .of Tryz.func81 (by kernel_rfl) (by kernel_rfl) (by kernel_rfl)
/-- impl.size[[]impl.Push] -/
noncomputable def fi82 : FI := fiOf Tryz.f82 [] [] [] false
theorem ok82 : FnOk Tryz.prog drawOk 82 fi82 := .of Tryz.func82 (by kernel_rfl) (by kernel_rfl) (by kernel_rfl)
/-- impl.size[[][]int64] -/
noncomputable def fi83 : FI := fiOf Tryz.f83 [] [] [] false
theorem ok83 : FnOk Tryz.prog drawOk 83 fi83 := .of Tryz.func83 (by kernel_rfl) (by kernel_rfl) (by kernel_rfl)
/-- impl.size[[]int64] -/
noncomputable def fi84 : FI := fiOf Tryz.f84 [] [] [] false
theorem ok84 : FnOk Tryz.prog drawOk 84 fi84 := .of Tryz.func84 (by kernel_rfl) (by kernel_rfl) (by kernel_rfl)
/-- impl.ValidChecker$1 -/
noncomputable def fi85 : FI := fiOf Tryz.f85 [] [] [] false
theorem ok85 : FnOk Tryz.prog drawOk 85 fi85 := .of Tryz.func85 (by kernel_rfl) (by kernel_rfl) (by kernel_rfl)
/-- impl.size[int64] -/
noncomputable def fi86 : FI := fiOf Tryz.f86 [] [] [] false 1
theorem ok86 : FnOk Tryz.prog drawOk 86 fi86 := .of Tryz.func86 (by kernel_rfl) (by kernel_rfl) (by kernel_rfl)
/-- slices.ContainsFunc[[]int64,int64] -/
noncomputable def fi87 : FI := fiOf Tryz.f87 [] [] [] false
theorem ok87 : FnOk Tryz.prog drawOk 87 fi87 := .of Tryz.func87 (by kernel_rfl) (by kernel_rfl) (by kernel_rfl)
/-- impl.ValidChecker$1$1 -/
noncomputable def fi88 : FI := fiOf Tryz.f88 [] [] [] false
theorem ok88 : FnOk Tryz.prog drawOk 88 fi88 := .of Tryz.func88 (by kernel_rfl) (by kernel_rfl) (by kernel_rfl)
/-- (impl.Checker).isMark -/
noncomputable def fi89 : FI := fiOf Tryz.f89 [] [] [] false
theorem ok89 : FnOk Tryz.prog drawOk 89 fi89 := .of Tryz.func89 (by kernel_rfl) (by kernel_rfl) (by kernel_rfl)
/-- slices.IndexFunc[[]string,string] -/
noncomputable def fi90 : FI := fiOf Tryz.f90 [] [] [] false
theorem ok90 : FnOk Tryz.prog drawOk 90 fi90 := .of Tryz.func90 (by kernel_rfl) (by kernel_rfl) (by kernel_rfl)
/-- strings.IndexByte -/
noncomputable def fi91 : FI := fiOf Tryz.f91 [] [] [] false
theorem ok91 : FnOk Tryz.prog drawOk 91 fi91 := .of Tryz.func91 (by kernel_rfl) (by kernel_rfl) (by kernel_rfl)
/-- slices.Index[[]int64,int64] -/
noncomputable def fi95 : FI := fiOf Tryz.f95 [] [] [] false
theorem ok95 : FnOk Tryz.prog drawOk 95 fi95 := .of Tryz.func95 (by kernel_rfl) (by kernel_rfl) (by kernel_rfl)
/-- slices.pdqsortOrdered[int64] -/
noncomputable def fi96 : FI := fiOf Tryz.f96 [] [] [] false
theorem ok96 : FnOk Tryz.prog drawOk 96 fi96 := .of Tryz.func96 (by kernel_rfl) (by kernel_rfl) (by kernel_rfl)
/-- math/bits.Len -/
noncomputable def fi97 : FI := fiOf Tryz.f97 [] [] [] false
theorem ok97 : FnOk Tryz.prog drawOk 97 fi97 := .of Tryz.func97 (by kernel_rfl) (by kernel_rfl) (by kernel_rfl)
/-- (impl.Checker).run -/
noncomputable def fi98 : FI := fiOf Tryz.f98 [] [] [] false
theorem ok98 : FnOk Tryz.prog drawOk 98 fi98 := .of Tryz.func98 (by kernel_rfl) (by kernel_rfl) (by kernel_rfl)
/-- (impl.Checker).end$1 -/
noncomputable def fi99 : FI := fiOf Tryz.f99 [] [] [] false
theorem ok99 : FnOk Tryz.prog drawOk 99 fi99 := .of Tryz.func99 (by kernel_rfl) (by kernel_rfl) (by kernel_rfl)
/-- laws.eqPush -/
noncomputable def fi100 : FI := fiOf Tryz.f100 [] [] [] false
theorem ok100 : FnOk Tryz.prog drawOk 100 fi100 := .of Tryz.func100 (by kernel_rfl) (by kernel_rfl) (by kernel_rfl)
/-- spec.l00Has -/
noncomputable def fi101 : FI := fiOf Tryz.f101 [] [] [] false
theorem ok101 : FnOk Tryz.prog drawOk 101 fi101 := .of Tryz.func101 (by kernel_rfl) (by kernel_rfl) (by kernel_rfl)
/-- spec.l00Put -/
noncomputable def fi102 : FI := fiOf Tryz.f102 [31, 35, 44] [] [] false
theorem ok102 : FnOk Tryz.prog drawOk 102 fi102 := .of Tryz.func102 (by kernel_rfl) (by kernel_rfl) (by kernel_rfl)
/-- spec.l02Go -/
noncomputable def fi103 : FI := fiOf Tryz.f103 [] [] [] false
theorem ok103 : FnOk Tryz.prog drawOk 103 fi103 := .of Tryz.func103 (by kernel_rfl) (by kernel_rfl) (by kernel_rfl)
/-- slices.IndexFunc[[]int64,int64] -/
noncomputable def fi104 : FI := fiOf Tryz.f104 [] [] [] false
theorem ok104 : FnOk Tryz.prog drawOk 104 fi104 := .of Tryz.func104 (by kernel_rfl) (by kernel_rfl) (by kernel_rfl)
/-- internal/stringslite.IndexByte -/
noncomputable def fi105 : FI := fiOf Tryz.f105 [] [] [] false
theorem ok105 : FnOk Tryz.prog drawOk 105 fi105 := .of Tryz.func105 (by kernel_rfl) (by kernel_rfl) (by kernel_rfl)
/-- slices.insertionSortOrdered[int64] -/
noncomputable def fi108 : FI := fiOf Tryz.f108 [] [] [] false
theorem ok108 : FnOk Tryz.prog drawOk 108 fi108 := .of Tryz.func108 (by kernel_rfl) (by kernel_rfl) (by kernel_rfl)
/-- slices.heapSortOrdered[int64] -/
noncomputable def fi109 : FI := fiOf Tryz.f109 [] [] [] false
theorem ok109 : FnOk Tryz.prog drawOk 109 fi109 := .of Tryz.func109 (by kernel_rfl) (by kernel_rfl) (by kernel_rfl)
/-- slices.breakPatternsOrdered[int64] -/
noncomputable def fi110 : FI := fiOf Tryz.f110 [] [(7, 1)] [] false
theorem ok110 : FnOk Tryz.prog drawOk 110 fi110 := .of Tryz.func110 (by kernel_rfl) (by kernel_rfl) (by kernel_rfl)
/-- slices.choosePivotOrdered[int64] -/
noncomputable def fi111 : FI := fiOf Tryz.f111 [] [(9, 1)] [] false
theorem ok111 : FnOk Tryz.prog drawOk 111 fi111 := .of Tryz.func111 (by kernel_rfl) (by kernel_rfl) (by kernel_rfl)
/-- slices.reverseRangeOrdered[int64] -/
noncomputable def fi112 : FI := fiOf Tryz.f112 [] [] [] false
theorem ok112 : FnOk Tryz.prog drawOk 112 fi112 := .of Tryz.func112 (by kernel_rfl) (by kernel_rfl) (by kernel_rfl)
/-- slices.partialInsertionSortOrdered[int64] -/
noncomputable def fi113 : FI := fiOf Tryz.f113 [] [] [] false
theorem ok113 : FnOk Tryz.prog drawOk 113 fi113 := .of Tryz.func113 (by kernel_rfl) (by kernel_rfl) (by kernel_rfl)
/-- cmp.Less[int64] -/
noncomputable def fi114 : FI := fiOf Tryz.f114 [] [] [] false
theorem ok114 : FnOk Tryz.prog drawOk 114 fi114 := .of Tryz.func114 (by kernel_rfl) (by kernel_rfl) (by kernel_rfl)
/-- slices.partitionEqualOrdered[int64] -/
noncomputable def fi115 : FI := fiOf Tryz.f115 [] [] [] false
theorem ok115 : FnOk Tryz.prog drawOk 115 fi115 := .of Tryz.func115 (by kernel_rfl) (by kernel_rfl) (by kernel_rfl)
/-- slices.partitionOrdered[int64] -/
noncomputable def fi116 : FI := fiOf Tryz.f116 [] [] [] false
theorem ok116 : FnOk Tryz.prog drawOk 116 fi116 := .of Tryz.func116 (by kernel_rfl) (by kernel_rfl) (by kernel_rfl)
/-- math/bits.Len32 -/
noncomputable def fi117 : FI := fiOf Tryz.f117 [] [] [] false
theorem ok117 : FnOk Tryz.prog drawOk 117 fi117 := .of Tryz.func117 (by kernel_rfl) (by kernel_rfl) (by kernel_rfl)
/-- math/bits.Len64 -/
noncomputable def fi118 : FI := fiOf Tryz.f118 [] [] [] false
theorem ok118 : FnOk Tryz.prog drawOk 118 fi118 := .of Tryz.func118 (by kernel_rfl) (by kernel_rfl) (by kernel_rfl)
/-- (impl.Checker).step -/
noncomputable def fi119 : FI := fiOf Tryz.f119 [] [] [] false
theorem ok119 : FnOk Tryz.prog drawOk 119 fi119 := .of Tryz.func119 (by kernel_rfl) (by kernel_rfl) (by kernel_rfl)
/-- spec.l02Step -/
noncomputable def fi120 : FI := fiOf Tryz.f120 [] [] [] false
theorem ok120 : FnOk Tryz.prog drawOk 120 fi120 := .of Tryz.func120 (by kernel_rfl) (by kernel_rfl) (by kernel_rfl)
/-- slices.siftDownOrdered[int64] -/
noncomputable def fi124 : FI := fiOf Tryz.f124 [] [] [] false
theorem ok124 : FnOk Tryz.prog drawOk 124 fi124 := .of Tryz.func124 (by kernel_rfl) (by kernel_rfl) (by kernel_rfl)
/-- slices.nextPowerOfTwo -/
noncomputable def fi125 : FI := fiOf Tryz.f125 [] [] [] false
theorem ok125 : FnOk Tryz.prog drawOk 125 fi125 := .of Tryz.func125 (by kernel_rfl) (by kernel_rfl) (by kernel_rfl)
/-- (*slices.xorshift).Next -/
noncomputable def fi126 : FI := fiOf Tryz.f126 [] [] [] false
theorem ok126 : FnOk Tryz.prog drawOk 126 fi126 := .of Tryz.func126 (by kernel_rfl) (by kernel_rfl) (by kernel_rfl)
/-- slices.medianAdjacentOrdered[int64] -/
noncomputable def fi127 : FI := fiOf Tryz.f127 [] [] [] false
theorem ok127 : FnOk Tryz.prog drawOk 127 fi127 := .of Tryz.func127 (by kernel_rfl) (by kernel_rfl) (by kernel_rfl)
/-- slices.medianOrdered[int64] -/
noncomputable def fi128 : FI := fiOf Tryz.f128 [] [] [] false
theorem ok128 : FnOk Tryz.prog drawOk 128 fi128 := .of Tryz.func128 (by kernel_rfl) (by kernel_rfl) (by kernel_rfl)
/-- cmp.isNaN[int64] -/
noncomputable def fi129 : FI := fiOf Tryz.f129 [] [] [] false
theorem ok129 : FnOk Tryz.prog drawOk 129 fi129 := .of Tryz.func129 (by kernel_rfl) (by kernel_rfl) (by kernel_rfl)
/-- impl.kindOf -/
noncomputable def fi130 : FI := fiOf Tryz.f130 [] [] [] false
theorem ok130 : FnOk Tryz.prog drawOk 130 fi130 := .of Tryz.func130 (by kernel_rfl) (by kernel_rfl) (by kernel_rfl)
/-- impl.isCall -/
noncomputable def fi131 : FI := fiOf Tryz.f131 [] [] [] false
theorem ok131 : FnOk Tryz.prog drawOk 131 fi131 := .of Tryz.func131 (by kernel_rfl) (by kernel_rfl) (by kernel_rfl)
/-- impl.isInner -/
noncomputable def fi132 : FI := fiOf Tryz.f132 [] [] [] false
theorem ok132 : FnOk Tryz.prog drawOk 132 fi132 := .of Tryz.func132 (by kernel_rfl) (by kernel_rfl) (by kernel_rfl)
/-- slices.order2Ordered[int64] -/
noncomputable def fi133 : FI := fiOf Tryz.f133 [] [] [] false
theorem ok133 : FnOk Tryz.prog drawOk 133 fi133 := .of Tryz.func133 (by kernel_rfl) (by kernel_rfl) (by kernel_rfl)
noncomputable def fnT : Tree FI := .node (.node (.node (.node (.node (.node (.node (.leaf) 3 fi3 (.leaf)) 4 fi4 (.node (.leaf) 5 fi5 (.leaf))) 6 fi6 (.node (.node (.leaf) 7 fi7 (.leaf)) 8 fi8 (.node (.leaf) 9 fi9 (.leaf)))) 10 fi10 (.node (.node (.node (.leaf) 11 fi11 (.leaf)) 12 fi12 (.node (.leaf) 13 fi13 (.leaf))) 14 fi14 (.node (.node (.leaf) 16 fi16 (.leaf)) 17 fi17 (.leaf)))) 18 fi18 (.node (.node (.node (.node (.leaf) 19 fi19 (.leaf)) 22 fi22 (.node (.leaf) 23 fi23 (.leaf))) 24 fi24 (.node (.node (.leaf) 25 fi25 (.leaf)) 26 fi26 (.leaf))) 27 fi27 (.node (.node (.node (.leaf) 28 fi28 (.leaf)) 29 fi29 (.node (.leaf) 30 fi30 (.leaf))) 32 fi32 (.node (.node (.leaf) 33 fi33 (.leaf)) 34 fi34 (.leaf))))) 35 fi35 (.node (.node (.node (.node (.node (.leaf) 36 fi36 (.leaf)) 37 fi37 (.node (.leaf) 38 fi38 (.leaf))) 39 fi39 (.node (.node (.leaf) 40 fi40 (.leaf)) 41 fi41 (.node (.leaf) 43 fi43 (.leaf)))) 44 fi44 (.node (.node (.node (.leaf) 46 fi46 (.leaf)) 47 fi47 (.node (.leaf) 48 fi48 (.leaf))) 49 fi49 (.node (.node (.leaf) 50 fi50 (.leaf)) 51 fi51 (.leaf)))) 52 fi52 (.node (.node (.node (.node (.leaf) 53 fi53 (.leaf)) 54 fi54 (.node (.leaf) 55 fi55 (.leaf))) 56 fi56 (.node (.node (.leaf) 57 fi57 (.leaf)) 58 fi58 (.leaf))) 59 fi59 (.node (.node (.node (.leaf) 60 fi60 (.leaf)) 61 fi61 (.node (.leaf) 62 fi62 (.leaf))) 63 fi63 (.node (.node (.leaf) 64 fi64 (.leaf)) 65 fi65 (.leaf)))))) 67 fi67 (.node (.node (.node (.node (.node (.node (.leaf) 68 fi68 (.leaf)) 70 fi70 (.node (.leaf) 71 fi71 (.leaf))) 72 fi72 (.node (.node (.leaf) 73 fi73 (.leaf)) 74 fi74 (.node (.leaf) 75 fi75 (.leaf)))) 76 fi76 (.node (.node (.node (.leaf) 77 fi77 (.leaf)) 78 fi78 (.node (.leaf) 79 fi79 (.leaf))) 80 fi80 (.node (.node (.leaf) 81 fi81 (.leaf)) 82 fi82 (.leaf)))) 83 fi83 (.node (.node (.node (.node (.leaf) 84 fi84 (.leaf)) 85 fi85 (.node (.leaf) 86 fi86 (.leaf))) 87 fi87 (.node (.node (.leaf) 88 fi88 (.leaf)) 89 fi89 (.leaf))) 90 fi90 (.node (.node (.node (.leaf) 91 fi91 (.leaf)) 95 fi95 (.node (.leaf) 96 fi96 (.leaf))) 97 fi97 (.node (.node (.leaf) 98 fi98 (.leaf)) 99 fi99 (.leaf))))) 100 fi100 (.node (.node (.node (.node (.node (.leaf) 101 fi101 (.leaf)) 102 fi102 (.node (.leaf) 103 fi103 (.leaf))) 104 fi104 (.node (.node (.leaf) 105 fi105 (.leaf)) 108 fi108 (.node (.leaf) 109 fi109 (.leaf)))) 110 fi110 (.node (.node (.node (.leaf) 111 fi111 (.leaf)) 112 fi112 (.node (.leaf) 113 fi113 (.leaf))) 114 fi114 (.node (.node (.leaf) 115 fi115 (.leaf)) 116 fi116 (.leaf)))) 117 fi117 (.node (.node (.node (.node (.leaf) 118 fi118 (.leaf)) 119 fi119 (.node (.leaf) 120 fi120 (.leaf))) 124 fi124 (.node (.node (.leaf) 125 fi125 (.leaf)) 126 fi126 (.leaf))) 127 fi127 (.node (.node (.node (.leaf) 128 fi128 (.leaf)) 129 fi129 (.node (.leaf) 130 fi130 (.leaf))) 131 fi131 (.node (.node (.leaf) 132 fi132 (.leaf)) 133 fi133 (.leaf))))))
theorem fnOk : fnT.Each (FnOk Tryz.prog drawOk) := ⟨ok67, ⟨ok35, ⟨ok18, ⟨ok10, ⟨ok6, ⟨ok4, ⟨ok3, trivial, trivial⟩, ⟨ok5, trivial, trivial⟩⟩, ⟨ok8, ⟨ok7, trivial, trivial⟩, ⟨ok9, trivial, trivial⟩⟩⟩, ⟨ok14, ⟨ok12, ⟨ok11, trivial, trivial⟩, ⟨ok13, trivial, trivial⟩⟩, ⟨ok17, ⟨ok16, trivial, trivial⟩, trivial⟩⟩⟩, ⟨ok27, ⟨ok24, ⟨ok22, ⟨ok19, trivial, trivial⟩, ⟨ok23, trivial, trivial⟩⟩, ⟨ok26, ⟨ok25, trivial, trivial⟩, trivial⟩⟩, ⟨ok32, ⟨ok29, ⟨ok28, trivial, trivial⟩, ⟨ok30, trivial, trivial⟩⟩, ⟨ok34, ⟨ok33, trivial, trivial⟩, trivial⟩⟩⟩⟩, ⟨ok52, ⟨ok44, ⟨ok39, ⟨ok37, ⟨ok36, trivial, trivial⟩, ⟨ok38, trivial, trivial⟩⟩, ⟨ok41, ⟨ok40, trivial, trivial⟩, ⟨ok43, trivial, trivial⟩⟩⟩, ⟨ok49, ⟨ok47, ⟨ok46, trivial, trivial⟩, ⟨ok48, trivial, trivial⟩⟩, ⟨ok51, ⟨ok50, trivial, trivial⟩, trivial⟩⟩⟩, ⟨ok59, ⟨ok56, ⟨ok54, ⟨ok53, trivial, trivial⟩, ⟨ok55, trivial, trivial⟩⟩, ⟨ok58, ⟨ok57, trivial, trivial⟩, trivial⟩⟩, ⟨ok63, ⟨ok61, ⟨ok60, trivial, trivial⟩, ⟨ok62, trivial, trivial⟩⟩, ⟨ok65, ⟨ok64, trivial, trivial⟩, trivial⟩⟩⟩⟩⟩, ⟨ok100, ⟨ok83, ⟨ok76, ⟨ok72, ⟨ok70, ⟨ok68, trivial, trivial⟩, ⟨ok71, trivial, trivial⟩⟩, ⟨ok74, ⟨ok73, trivial, trivial⟩, ⟨ok75, trivial, trivial⟩⟩⟩, ⟨ok80, ⟨ok78, ⟨ok77, trivial, trivial⟩, ⟨ok79, trivial, trivial⟩⟩, ⟨ok82, ⟨ok81, trivial, trivial⟩, trivial⟩⟩⟩, ⟨ok90, ⟨ok87, ⟨ok85, ⟨ok84, trivial, trivial⟩, ⟨ok86, trivial, trivial⟩⟩, ⟨ok89, ⟨ok88, trivial, trivial⟩, trivial⟩⟩, ⟨ok97, ⟨ok95, ⟨ok91, trivial, trivial⟩, ⟨ok96, trivial, trivial⟩⟩, ⟨ok99, ⟨ok98, trivial, trivial⟩, trivial⟩⟩⟩⟩, ⟨ok117, ⟨ok110, ⟨ok104, ⟨ok102, ⟨ok101, trivial, trivial⟩, ⟨ok103, trivial, trivial⟩⟩, ⟨ok108, ⟨ok105, trivial, trivial⟩, ⟨ok109, trivial, trivial⟩⟩⟩, ⟨ok114, ⟨ok112, ⟨ok111, trivial, trivial⟩, ⟨ok113, trivial, trivial⟩⟩, ⟨ok116, ⟨ok115, trivial, trivial⟩, trivial⟩⟩⟩, ⟨ok127, ⟨ok124, ⟨ok119, ⟨ok118, trivial, trivial⟩, ⟨ok120, trivial, trivial⟩⟩, ⟨ok126, ⟨ok125, trivial, trivial⟩, trivial⟩⟩, ⟨ok131, ⟨ok129, ⟨ok128, trivial, trivial⟩, ⟨ok130, trivial, trivial⟩⟩, ⟨ok133, ⟨ok132, trivial, trivial⟩, trivial⟩⟩⟩⟩⟩⟩
/-- spec.l08Play -/
noncomputable def fiK15 : FI := fiOf Tryz.f15 [] [] [26] true 0 [10]
theorem okK15 : FnOk Tryz.prog drawOk 15 fiK15 := .of Tryz.func15 (by kernel_rfl) (by kernel_rfl) (by kernel_rfl)
/-- impl.newWorks -/
noncomputable def fiK20 : FI := fiOf Tryz.f20 [] [(13, 1)] [] true
theorem okK20 : FnOk Tryz.prog drawOk 20 fiK20 := .of Tryz.func20 (by kernel_rfl) (by kernel_rfl) (by kernel_rfl)
/-- (*impl.works).do -/
noncomputable def fiK21 : FI := fiOf Tryz.f21 [] [] [98] true 0 [49, 110, 122] [] [40] [9, 23, 36, 38, 54, 56, 60, 84, 91, 93]
theorem okK21 : FnOk Tryz.prog drawOk 21 fiK21 := .of Tryz.func21 (by kernel_rfl) (by kernel_rfl) (by kernel_rfl)
/-- spec.l08Begin -/
noncomputable def fiK31 : FI := fiOf Tryz.f31 [] [(15, 1)] [] true
theorem okK31 : FnOk Tryz.prog drawOk 31 fiK31 := .of Tryz.func31 (by kernel_rfl) (by kernel_rfl) (by kernel_rfl)
/-- (impl.Desk).copied -/
noncomputable def fiK42 : FI := fiOf Tryz.f42 [] [] [] true 0 [] [] [12] [4, 6, 8, 11]
theorem okK42 : FnOk Tryz.prog drawOk 42 fiK42 := .of Tryz.func42 (by kernel_rfl) (by kernel_rfl) (by kernel_rfl)
/-- (*impl.works).comeIn -/
noncomputable def fiK45 : FI := fiOf Tryz.f45 [] [] [43, 110] true
theorem okK45 : FnOk Tryz.prog drawOk 45 fiK45 := .of Tryz.func45 (by kernel_rfl) (by kernel_rfl) (by kernel_rfl)
noncomputable def fnKT : Tree FI := .node (.node (.node (.leaf) 15 fiK15 (.leaf)) 20 fiK20 (.node (.leaf) 21 fiK21 (.leaf))) 31 fiK31 (.node (.node (.leaf) 42 fiK42 (.leaf)) 45 fiK45 (.leaf))
theorem fnKOk : fnKT.Each (FnOk Tryz.prog drawOk) := ⟨okK31, ⟨okK20, ⟨okK15, trivial, trivial⟩, ⟨okK21, trivial, trivial⟩⟩, ⟨okK45, ⟨okK42, trivial, trivial⟩, trivial⟩⟩
end Go.Proofs.YtdjbgfdippdfkaaGreat.law
