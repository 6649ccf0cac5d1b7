/- The evaluator's tables of types and functions of this seat. -/
import Derived.Test.YtddjkclabfmakaaAe2
import Derived.Test.YtddjkclabfmakaaProg
import Derived.KernelRfl
set_option linter.unusedVariables false
namespace Go.Proofs.Ytddjkclabfmakaa.law
open Go Go.Proofs Ae

def ty1 : TI := ⟨.func, 1, 8, .nilfn⟩
def ty2 : TI := ⟨.int .i64, 1, 8, .int .i64 0⟩
def ty3 : TI := ⟨.int .i64, 1, 8, .int .i64 0⟩
def ty4 : TI := ⟨.bool, 1, 1, .bool false⟩
def ty5 : TI := ⟨.int .u8, 1, 1, .int .u8 0⟩
def ty6 : TI := ⟨.int .u8, 1, 1, .int .u8 0⟩
def ty7 : TI := ⟨.struct [(0, 2), (1, 3), (2, 4), (3, 6)], 4, 24, .agg [.int .i64 0, .int .i64 0, .bool false, .int .u8 0]⟩
def ty8 : TI := ⟨.struct [(0, 2), (1, 3), (2, 4), (3, 6)], 4, 24, .agg [.int .i64 0, .int .i64 0, .bool false, .int .u8 0]⟩
def ty9 : TI := ⟨.str, 1, 16, .str []⟩
def ty10 : TI := ⟨.str, 1, 16, .str []⟩
def ty11 : TI := ⟨.str, 1, 16, .str []⟩
def ty12 : TI := ⟨.int .u64, 1, 8, .int .u64 0⟩
def ty13 : TI := ⟨.struct [(0, 9), (1, 12)], 2, 24, .agg [.str [], .int .u64 0]⟩
def ty14 : TI := ⟨.struct [(0, 9), (1, 12)], 2, 24, .agg [.str [], .int .u64 0]⟩
def ty15 : TI := ⟨.ptr, 1, 8, .nilp⟩
def ty16 : TI := ⟨.ptr, 1, 8, .nilp⟩
def ty17 : TI := ⟨.ptr, 1, 8, .nilp⟩
def ty18 : TI := ⟨.struct [(0, 17)], 1, 8, .agg [.nilp]⟩
def ty19 : TI := ⟨.struct [(0, 17)], 1, 8, .agg [.nilp]⟩
def ty21 : TI := ⟨.int .i32, 1, 4, .int .i32 0⟩
def ty22 : TI := ⟨.slice 220, 1, 24, .sl 0 true []⟩
def ty23 : TI := ⟨.struct [(0, 22)], 1, 24, .agg [.sl 0 true []]⟩
def ty24 : TI := ⟨.struct [(0, 22)], 1, 24, .agg [.sl 0 true []]⟩
def ty25 : TI := ⟨.func, 1, 8, .nilfn⟩
def ty26 : TI := ⟨.slice 2, 1, 24, .sl 0 true []⟩
def ty28 : TI := ⟨.func, 1, 8, .nilfn⟩
def ty29 : TI := ⟨.slice 224, 1, 24, .sl 0 true []⟩
def ty30 : TI := ⟨.struct [(0, 29)], 1, 24, .agg [.sl 0 true []]⟩
def ty31 : TI := ⟨.struct [(0, 29)], 1, 24, .agg [.sl 0 true []]⟩
def ty32 : TI := ⟨.func, 1, 8, .nilfn⟩
def ty33 : TI := ⟨.func, 1, 8, .nilfn⟩
def ty34 : TI := ⟨.func, 1, 8, .nilfn⟩
def ty35 : TI := ⟨.func, 1, 8, .nilfn⟩
def ty36 : TI := ⟨.func, 1, 8, .nilfn⟩
def ty37 : TI := ⟨.func, 1, 8, .nilfn⟩
def ty39 : TI := ⟨.func, 1, 8, .nilfn⟩
def ty40 : TI := ⟨.func, 1, 8, .nilfn⟩
def ty41 : TI := ⟨.slice 4, 1, 24, .sl 0 true []⟩
def ty42 : TI := ⟨.slice 247, 1, 24, .sl 0 true []⟩
def ty43 : TI := ⟨.slice 44, 1, 24, .sl 0 true []⟩
def ty44 : TI := ⟨.slice 26, 1, 24, .sl 0 true []⟩
def ty45 : TI := ⟨.struct [(0, 2), (1, 2), (2, 41), (3, 42), (4, 43), (5, 44)], 6, 112, .agg [.int .i64 0, .int .i64 0, .sl 0 true [], .sl 0 true [], .sl 0 true [], .sl 0 true []]⟩
def ty46 : TI := ⟨.struct [(0, 2), (1, 2), (2, 41), (3, 42), (4, 43), (5, 44)], 6, 112, .agg [.int .i64 0, .int .i64 0, .sl 0 true [], .sl 0 true [], .sl 0 true [], .sl 0 true []]⟩
def ty47 : TI := ⟨.func, 1, 8, .nilfn⟩
def ty48 : TI := ⟨.func, 1, 8, .nilfn⟩
def ty49 : TI := ⟨.slice 249, 1, 24, .sl 0 true []⟩
def ty50 : TI := ⟨.struct [(0, 2), (1, 2), (2, 41), (3, 49), (4, 43), (5, 44)], 6, 112, .agg [.int .i64 0, .int .i64 0, .sl 0 true [], .sl 0 true [], .sl 0 true [], .sl 0 true []]⟩
def ty51 : TI := ⟨.struct [(0, 2), (1, 2), (2, 41), (3, 49), (4, 43), (5, 44)], 6, 112, .agg [.int .i64 0, .int .i64 0, .sl 0 true [], .sl 0 true [], .sl 0 true [], .sl 0 true []]⟩
def ty52 : TI := ⟨.func, 1, 8, .nilfn⟩
def ty53 : TI := ⟨.func, 1, 8, .nilfn⟩
def ty54 : TI := ⟨.func, 1, 8, .nilfn⟩
def ty55 : TI := ⟨.func, 1, 8, .nilfn⟩
def ty56 : TI := ⟨.slice 5, 1, 24, .sl 0 true []⟩
def ty57 : TI := ⟨.func, 1, 8, .nilfn⟩
def ty58 : TI := ⟨.slice 263, 1, 24, .sl 0 true []⟩
def ty59 : TI := ⟨.struct [(0, 58)], 1, 24, .agg [.sl 0 true []]⟩
def ty60 : TI := ⟨.struct [(0, 58)], 1, 24, .agg [.sl 0 true []]⟩
def ty61 : TI := ⟨.func, 1, 8, .nilfn⟩
def ty62 : TI := ⟨.func, 1, 8, .nilfn⟩
def ty63 : TI := ⟨.struct [(0, 60), (1, 2), (2, 26), (3, 44)], 4, 80, .agg [.sl 0 true [], .int .i64 0, .sl 0 true [], .sl 0 true []]⟩
def ty64 : TI := ⟨.struct [(0, 60), (1, 2), (2, 26), (3, 44)], 4, 80, .agg [.sl 0 true [], .int .i64 0, .sl 0 true [], .sl 0 true []]⟩
def ty66 : TI := ⟨.func, 1, 8, .nilfn⟩
def ty67 : TI := ⟨.func, 1, 8, .nilfn⟩
def ty68 : TI := ⟨.func, 1, 8, .nilfn⟩
def ty70 : TI := ⟨.func, 1, 8, .nilfn⟩
def ty71 : TI := ⟨.func, 1, 8, .nilfn⟩
def ty72 : TI := ⟨.func, 1, 8, .nilfn⟩
def ty73 : TI := ⟨.func, 1, 8, .nilfn⟩
def ty75 : TI := ⟨.func, 1, 8, .nilfn⟩
def ty76 : TI := ⟨.func, 1, 8, .nilfn⟩
def ty77 : TI := ⟨.func, 1, 8, .nilfn⟩
def ty79 : TI := ⟨.func, 1, 8, .nilfn⟩
def ty80 : TI := ⟨.func, 1, 8, .nilfn⟩
def ty82 : TI := ⟨.func, 1, 8, .nilfn⟩
def ty83 : TI := ⟨.func, 1, 8, .nilfn⟩
def ty84 : TI := ⟨.func, 1, 8, .nilfn⟩
def ty85 : TI := ⟨.func, 1, 8, .nilfn⟩
def ty86 : TI := ⟨.func, 1, 8, .nilfn⟩
def ty87 : TI := ⟨.func, 1, 8, .nilfn⟩
def ty88 : TI := ⟨.func, 1, 8, .nilfn⟩
def ty89 : TI := ⟨.func, 1, 8, .nilfn⟩
def ty90 : TI := ⟨.func, 1, 8, .nilfn⟩
def ty91 : TI := ⟨.func, 1, 8, .nilfn⟩
def ty92 : TI := ⟨.func, 1, 8, .nilfn⟩
def ty93 : TI := ⟨.func, 1, 8, .nilfn⟩
def ty94 : TI := ⟨.func, 1, 8, .nilfn⟩
def ty95 : TI := ⟨.ptr, 1, 8, .nilp⟩
def ty96 : TI := ⟨.func, 1, 8, .nilfn⟩
def ty97 : TI := ⟨.func, 1, 8, .nilfn⟩
def ty98 : TI := ⟨.func, 1, 8, .nilfn⟩
def ty99 : TI := ⟨.func, 1, 8, .nilfn⟩
def ty100 : TI := ⟨.func, 1, 8, .nilfn⟩
def ty101 : TI := ⟨.func, 1, 8, .nilfn⟩
def ty102 : TI := ⟨.slice 9, 1, 24, .sl 0 true []⟩
def ty103 : TI := ⟨.func, 1, 8, .nilfn⟩
def ty104 : TI := ⟨.func, 1, 8, .nilfn⟩
def ty105 : TI := ⟨.func, 1, 8, .nilfn⟩
def ty106 : TI := ⟨.func, 1, 8, .nilfn⟩
def ty107 : TI := ⟨.ptr, 1, 8, .nilp⟩
def ty108 : TI := ⟨.func, 1, 8, .nilfn⟩
def ty109 : TI := ⟨.func, 1, 8, .nilfn⟩
def ty110 : TI := ⟨.func, 1, 8, .nilfn⟩
def ty111 : TI := ⟨.struct [(0, 4), (1, 9)], 2, 24, .agg [.bool false, .str []]⟩
def ty112 : TI := ⟨.struct [(0, 4), (1, 9)], 2, 24, .agg [.bool false, .str []]⟩
def ty113 : TI := ⟨.slice 112, 1, 24, .sl 0 true []⟩
def ty114 : TI := ⟨.slice 113, 1, 24, .sl 0 true []⟩
def ty115 : TI := ⟨.slice 114, 1, 24, .sl 0 true []⟩
def ty116 : TI := ⟨.slice 117, 1, 24, .sl 0 true []⟩
def ty117 : TI := ⟨.slice 41, 1, 24, .sl 0 true []⟩
def ty118 : TI := ⟨.struct [(0, 95), (1, 115), (2, 116), (3, 114), (4, 117), (5, 4)], 6, 112, .agg [.nilp, .sl 0 true [], .sl 0 true [], .sl 0 true [], .sl 0 true [], .bool false]⟩
def ty119 : TI := ⟨.struct [(0, 95), (1, 115), (2, 116), (3, 114), (4, 117), (5, 4)], 6, 112, .agg [.nilp, .sl 0 true [], .sl 0 true [], .sl 0 true [], .sl 0 true [], .bool false]⟩
def ty120 : TI := ⟨.func, 1, 8, .nilfn⟩
def ty121 : TI := ⟨.func, 1, 8, .nilfn⟩
def ty122 : TI := ⟨.func, 1, 8, .nilfn⟩
def ty123 : TI := ⟨.func, 1, 8, .nilfn⟩
def ty124 : TI := ⟨.func, 1, 8, .nilfn⟩
def ty125 : TI := ⟨.func, 1, 8, .nilfn⟩
def ty126 : TI := ⟨.func, 1, 8, .nilfn⟩
def ty127 : TI := ⟨.func, 1, 8, .nilfn⟩
def ty128 : TI := ⟨.ptr, 1, 8, .nilp⟩
def ty129 : TI := ⟨.func, 1, 8, .nilfn⟩
def ty130 : TI := ⟨.func, 1, 8, .nilfn⟩
def ty131 : TI := ⟨.func, 1, 8, .nilfn⟩
def ty132 : TI := ⟨.func, 1, 8, .nilfn⟩
def ty133 : TI := ⟨.func, 1, 8, .nilfn⟩
def ty134 : TI := ⟨.func, 1, 8, .nilfn⟩
def ty136 : TI := ⟨.func, 1, 8, .nilfn⟩
def ty137 : TI := ⟨.func, 1, 8, .nilfn⟩
def ty138 : TI := ⟨.func, 1, 8, .nilfn⟩
def ty139 : TI := ⟨.func, 1, 8, .nilfn⟩
def ty140 : TI := ⟨.func, 1, 8, .nilfn⟩
def ty141 : TI := ⟨.func, 1, 8, .nilfn⟩
def ty142 : TI := ⟨.ptr, 1, 8, .nilp⟩
def ty143 : TI := ⟨.func, 1, 8, .nilfn⟩
def ty144 : TI := ⟨.func, 1, 8, .nilfn⟩
def ty145 : TI := ⟨.func, 1, 8, .nilfn⟩
def ty146 : TI := ⟨.func, 1, 8, .nilfn⟩
def ty147 : TI := ⟨.func, 1, 8, .nilfn⟩
def ty148 : TI := ⟨.ptr, 1, 8, .nilp⟩
def ty149 : TI := ⟨.func, 1, 8, .nilfn⟩
def ty150 : TI := ⟨.func, 1, 8, .nilfn⟩
def ty151 : TI := ⟨.func, 1, 8, .nilfn⟩
def ty152 : TI := ⟨.func, 1, 8, .nilfn⟩
def ty153 : TI := ⟨.func, 1, 8, .nilfn⟩
def ty154 : TI := ⟨.func, 1, 8, .nilfn⟩
def ty155 : TI := ⟨.func, 1, 8, .nilfn⟩
def ty156 : TI := ⟨.func, 1, 8, .nilfn⟩
def ty157 : TI := ⟨.ptr, 1, 8, .nilp⟩
def ty158 : TI := ⟨.func, 1, 8, .nilfn⟩
def ty160 : TI := ⟨.func, 1, 8, .nilfn⟩
def ty161 : TI := ⟨.func, 1, 8, .nilfn⟩
def ty162 : TI := ⟨.func, 1, 8, .nilfn⟩
def ty163 : TI := ⟨.struct [(0, 26), (1, 26), (2, 26), (3, 26), (4, 26)], 5, 120, .agg [.sl 0 true [], .sl 0 true [], .sl 0 true [], .sl 0 true [], .sl 0 true []]⟩
def ty164 : TI := ⟨.struct [(0, 26), (1, 26), (2, 26), (3, 26), (4, 26)], 5, 120, .agg [.sl 0 true [], .sl 0 true [], .sl 0 true [], .sl 0 true [], .sl 0 true []]⟩
def ty165 : TI := ⟨.func, 1, 8, .nilfn⟩
def ty166 : TI := ⟨.func, 1, 8, .nilfn⟩
def ty167 : TI := ⟨.slice 49, 1, 24, .sl 0 true []⟩
def ty168 : TI := ⟨.slice 43, 1, 24, .sl 0 true []⟩
def ty169 : TI := ⟨.struct [(0, 2), (1, 26), (2, 41), (3, 167), (4, 168), (5, 43)], 6, 128, .agg [.int .i64 0, .sl 0 true [], .sl 0 true [], .sl 0 true [], .sl 0 true [], .sl 0 true []]⟩
def ty170 : TI := ⟨.struct [(0, 2), (1, 26), (2, 41), (3, 167), (4, 168), (5, 43)], 6, 128, .agg [.int .i64 0, .sl 0 true [], .sl 0 true [], .sl 0 true [], .sl 0 true [], .sl 0 true []]⟩
def ty171 : TI := ⟨.func, 1, 8, .nilfn⟩
def ty172 : TI := ⟨.func, 1, 8, .nilfn⟩
def ty173 : TI := ⟨.ptr, 1, 8, .nilp⟩
def ty174 : TI := ⟨.func, 1, 8, .nilfn⟩
def ty175 : TI := ⟨.ptr, 1, 8, .nilp⟩
def ty177 : TI := ⟨.ptr, 1, 8, .nilp⟩
def ty178 : TI := ⟨.func, 1, 8, .nilfn⟩
def ty179 : TI := ⟨.func, 1, 8, .nilfn⟩
def ty180 : TI := ⟨.func, 1, 8, .nilfn⟩
def ty181 : TI := ⟨.slice 102, 1, 24, .sl 0 true []⟩
def ty182 : TI := ⟨.struct [(0, 175), (1, 117), (2, 117), (3, 181)], 4, 80, .agg [.nilp, .sl 0 true [], .sl 0 true [], .sl 0 true []]⟩
def ty183 : TI := ⟨.struct [(0, 175), (1, 117), (2, 117), (3, 181)], 4, 80, .agg [.nilp, .sl 0 true [], .sl 0 true [], .sl 0 true []]⟩
def ty184 : TI := ⟨.func, 1, 8, .nilfn⟩
def ty185 : TI := ⟨.func, 1, 8, .nilfn⟩
def ty186 : TI := ⟨.func, 1, 8, .nilfn⟩
def ty187 : TI := ⟨.struct [(0, 3), (1, 184), (2, 185), (3, 186), (4, 186)], 5, 40, .agg [.int .i64 0, .nilfn, .nilfn, .nilfn, .nilfn]⟩
def ty188 : TI := ⟨.struct [(0, 3), (1, 184), (2, 185), (3, 186), (4, 186)], 5, 40, .agg [.int .i64 0, .nilfn, .nilfn, .nilfn, .nilfn]⟩
def ty189 : TI := ⟨.slice 330, 1, 24, .sl 0 true []⟩
def ty190 : TI := ⟨.slice 284, 1, 24, .sl 0 true []⟩
def ty191 : TI := ⟨.struct [(0, 188), (5, 189), (6, 117), (7, 190), (8, 3)], 9, 120, .agg [.int .i64 0, .nilfn, .nilfn, .nilfn, .nilfn, .sl 0 true [], .sl 0 true [], .sl 0 true [], .int .i64 0]⟩
def ty192 : TI := ⟨.struct [(0, 188), (5, 189), (6, 117), (7, 190), (8, 3)], 9, 120, .agg [.int .i64 0, .nilfn, .nilfn, .nilfn, .nilfn, .sl 0 true [], .sl 0 true [], .sl 0 true [], .int .i64 0]⟩
def ty193 : TI := ⟨.func, 1, 8, .nilfn⟩
def ty194 : TI := ⟨.func, 1, 8, .nilfn⟩
def ty195 : TI := ⟨.func, 1, 8, .nilfn⟩
def ty196 : TI := ⟨.func, 1, 8, .nilfn⟩
def ty197 : TI := ⟨.func, 1, 8, .nilfn⟩
def ty199 : TI := ⟨.func, 1, 8, .nilfn⟩
def ty200 : TI := ⟨.func, 1, 8, .nilfn⟩
def ty201 : TI := ⟨.func, 1, 8, .nilfn⟩
def ty202 : TI := ⟨.func, 1, 8, .nilfn⟩
def ty203 : TI := ⟨.func, 1, 8, .nilfn⟩
def ty205 : TI := ⟨.func, 1, 8, .nilfn⟩
def ty206 : TI := ⟨.ptr, 1, 8, .nilp⟩
def ty208 : TI := ⟨.func, 1, 8, .nilfn⟩
def ty209 : TI := ⟨.func, 1, 8, .nilfn⟩
def ty210 : TI := ⟨.slice 212, 1, 24, .sl 0 true []⟩
def ty211 : TI := ⟨.struct [(0, 2), (1, 2), (2, 2), (3, 2)], 4, 32, .agg [.int .i64 0, .int .i64 0, .int .i64 0, .int .i64 0]⟩
def ty212 : TI := ⟨.struct [(0, 2), (1, 2), (2, 2), (3, 2)], 4, 32, .agg [.int .i64 0, .int .i64 0, .int .i64 0, .int .i64 0]⟩
def ty216 : TI := ⟨.func, 1, 8, .nilfn⟩
def ty217 : TI := ⟨.func, 1, 8, .nilfn⟩
def ty218 : TI := ⟨.slice 343, 1, 24, .sl 0 true []⟩
def ty219 : TI := ⟨.struct [(0, 2), (1, 218)], 2, 32, .agg [.int .i64 0, .sl 0 true []]⟩
def ty220 : TI := ⟨.struct [(0, 2), (1, 218)], 2, 32, .agg [.int .i64 0, .sl 0 true []]⟩
def ty221 : TI := ⟨.ptr, 1, 8, .nilp⟩
def ty222 : TI := ⟨.slice 227, 1, 24, .sl 0 true []⟩
def ty223 : TI := ⟨.struct [(0, 2), (1, 222)], 2, 32, .agg [.int .i64 0, .sl 0 true []]⟩
def ty224 : TI := ⟨.struct [(0, 2), (1, 222)], 2, 32, .agg [.int .i64 0, .sl 0 true []]⟩
def ty225 : TI := ⟨.ptr, 1, 8, .nilp⟩
def ty226 : TI := ⟨.struct [(0, 2), (1, 2), (2, 9), (3, 2)], 4, 40, .agg [.int .i64 0, .int .i64 0, .str [], .int .i64 0]⟩
def ty227 : TI := ⟨.struct [(0, 2), (1, 2), (2, 9), (3, 2)], 4, 40, .agg [.int .i64 0, .int .i64 0, .str [], .int .i64 0]⟩
def ty228 : TI := ⟨.func, 1, 8, .nilfn⟩
def ty229 : TI := ⟨.func, 1, 8, .nilfn⟩
def ty230 : TI := ⟨.func, 1, 8, .nilfn⟩
def ty231 : TI := ⟨.func, 1, 8, .nilfn⟩
def ty232 : TI := ⟨.func, 1, 8, .nilfn⟩
def ty233 : TI := ⟨.func, 1, 8, .nilfn⟩
def ty234 : TI := ⟨.func, 1, 8, .nilfn⟩
def ty235 : TI := ⟨.func, 1, 8, .nilfn⟩
def ty236 : TI := ⟨.func, 1, 8, .nilfn⟩
def ty237 : TI := ⟨.func, 1, 8, .nilfn⟩
def ty238 : TI := ⟨.func, 1, 8, .nilfn⟩
def ty239 : TI := ⟨.func, 1, 8, .nilfn⟩
def ty240 : TI := ⟨.func, 1, 8, .nilfn⟩
def ty241 : TI := ⟨.func, 1, 8, .nilfn⟩
def ty242 : TI := ⟨.func, 1, 8, .nilfn⟩
def ty243 : TI := ⟨.func, 1, 8, .nilfn⟩
def ty244 : TI := ⟨.func, 1, 8, .nilfn⟩
def ty245 : TI := ⟨.func, 1, 8, .nilfn⟩
def ty246 : TI := ⟨.func, 1, 8, .nilfn⟩
def ty247 : TI := ⟨.slice 322, 1, 24, .sl 0 true []⟩
def ty248 : TI := ⟨.func, 1, 8, .nilfn⟩
def ty249 : TI := ⟨.slice 255, 1, 24, .sl 0 true []⟩
def ty250 : TI := ⟨.func, 1, 8, .nilfn⟩
def ty251 : TI := ⟨.func, 1, 8, .nilfn⟩
def ty252 : TI := ⟨.func, 1, 8, .nilfn⟩
def ty253 : TI := ⟨.func, 1, 8, .nilfn⟩
def ty254 : TI := ⟨.struct [(0, 2), (1, 2)], 2, 16, .agg [.int .i64 0, .int .i64 0]⟩
def ty255 : TI := ⟨.struct [(0, 2), (1, 2)], 2, 16, .agg [.int .i64 0, .int .i64 0]⟩
def ty256 : TI := ⟨.func, 1, 8, .nilfn⟩
def ty257 : TI := ⟨.func, 1, 8, .nilfn⟩
def ty258 : TI := ⟨.func, 1, 8, .nilfn⟩
def ty259 : TI := ⟨.func, 1, 8, .nilfn⟩
def ty260 : TI := ⟨.func, 1, 8, .nilfn⟩
def ty261 : TI := ⟨.func, 1, 8, .nilfn⟩
def ty262 : TI := ⟨.struct [(0, 4), (1, 9)], 2, 24, .agg [.bool false, .str []]⟩
def ty263 : TI := ⟨.struct [(0, 4), (1, 9)], 2, 24, .agg [.bool false, .str []]⟩
def ty264 : TI := ⟨.int .u64, 1, 8, .int .u64 0⟩
def ty265 : TI := ⟨.struct [(0, 56), (1, 3), (2, 264)], 3, 40, .agg [.sl 0 true [], .int .i64 0, .int .u64 0]⟩
def ty266 : TI := ⟨.struct [(0, 56), (1, 3), (2, 264)], 3, 40, .agg [.sl 0 true [], .int .i64 0, .int .u64 0]⟩
def ty267 : TI := ⟨.func, 1, 8, .nilfn⟩
def ty268 : TI := ⟨.func, 1, 8, .nilfn⟩
def ty269 : TI := ⟨.func, 1, 8, .nilfn⟩
def ty270 : TI := ⟨.func, 1, 8, .nilfn⟩
def ty271 : TI := ⟨.func, 1, 8, .nilfn⟩
def ty272 : TI := ⟨.func, 1, 8, .nilfn⟩
def ty273 : TI := ⟨.func, 1, 8, .nilfn⟩
def ty274 : TI := ⟨.func, 1, 8, .nilfn⟩
def ty275 : TI := ⟨.func, 1, 8, .nilfn⟩
def ty276 : TI := ⟨.func, 1, 8, .nilfn⟩
def ty277 : TI := ⟨.func, 1, 8, .nilfn⟩
def ty278 : TI := ⟨.func, 1, 8, .nilfn⟩
def ty279 : TI := ⟨.func, 1, 8, .nilfn⟩
def ty280 : TI := ⟨.func, 1, 8, .nilfn⟩
def ty281 : TI := ⟨.func, 1, 8, .nilfn⟩
def ty282 : TI := ⟨.func, 1, 8, .nilfn⟩
def ty283 : TI := ⟨.ptr, 1, 8, .nilp⟩
def ty284 : TI := ⟨.slice 283, 1, 24, .sl 0 true []⟩
def ty285 : TI := ⟨.func, 1, 8, .nilfn⟩
def ty286 : TI := ⟨.func, 1, 8, .nilfn⟩
def ty287 : TI := ⟨.func, 1, 8, .nilfn⟩
def ty288 : TI := ⟨.func, 1, 8, .nilfn⟩
def ty289 : TI := ⟨.ptr, 1, 8, .nilp⟩
def ty290 : TI := ⟨.func, 1, 8, .nilfn⟩
def ty291 : TI := ⟨.func, 1, 8, .nilfn⟩
def ty292 : TI := ⟨.func, 1, 8, .nilfn⟩
def ty293 : TI := ⟨.func, 1, 8, .nilfn⟩
def ty294 : TI := ⟨.slice 298, 1, 24, .sl 0 true []⟩
def ty296 : TI := ⟨.func, 1, 8, .nilfn⟩
def ty297 : TI := ⟨.struct [(0, 2), (1, 2), (2, 2), (3, 2), (4, 112)], 6, 56, .agg [.int .i64 0, .int .i64 0, .int .i64 0, .int .i64 0, .bool false, .str []]⟩
def ty298 : TI := ⟨.struct [(0, 2), (1, 2), (2, 2), (3, 2), (4, 112)], 6, 56, .agg [.int .i64 0, .int .i64 0, .int .i64 0, .int .i64 0, .bool false, .str []]⟩
def ty299 : TI := ⟨.func, 1, 8, .nilfn⟩
def ty300 : TI := ⟨.func, 1, 8, .nilfn⟩
def ty301 : TI := ⟨.func, 1, 8, .nilfn⟩
def ty302 : TI := ⟨.ptr, 1, 8, .nilp⟩
def ty303 : TI := ⟨.func, 1, 8, .nilfn⟩
def ty304 : TI := ⟨.func, 1, 8, .nilfn⟩
def ty305 : TI := ⟨.func, 1, 8, .nilfn⟩
def ty306 : TI := ⟨.struct [(0, 44)], 1, 24, .agg [.sl 0 true []]⟩
def ty307 : TI := ⟨.struct [(0, 44)], 1, 24, .agg [.sl 0 true []]⟩
def ty308 : TI := ⟨.ptr, 1, 8, .nilp⟩
def ty309 : TI := ⟨.func, 1, 8, .nilfn⟩
def ty310 : TI := ⟨.int .u64, 1, 8, .int .u64 0⟩
def ty311 : TI := ⟨.func, 1, 8, .nilfn⟩
def ty312 : TI := ⟨.func, 1, 8, .nilfn⟩
def ty313 : TI := ⟨.func, 1, 8, .nilfn⟩
def ty314 : TI := ⟨.func, 1, 8, .nilfn⟩
def ty315 : TI := ⟨.func, 1, 8, .nilfn⟩
def ty316 : TI := ⟨.ptr, 1, 8, .nilp⟩
def ty317 : TI := ⟨.func, 1, 8, .nilfn⟩
def ty318 : TI := ⟨.func, 1, 8, .nilfn⟩
def ty319 : TI := ⟨.func, 1, 8, .nilfn⟩
def ty320 : TI := ⟨.func, 1, 8, .nilfn⟩
def ty321 : TI := ⟨.func, 1, 8, .nilfn⟩
def ty322 : TI := ⟨.struct [(0, 2), (1, 2)], 2, 16, .agg [.int .i64 0, .int .i64 0]⟩
def ty323 : TI := ⟨.func, 1, 8, .nilfn⟩
def ty324 : TI := ⟨.func, 1, 8, .nilfn⟩
def ty325 : TI := ⟨.func, 1, 8, .nilfn⟩
def ty326 : TI := ⟨.func, 1, 8, .nilfn⟩
def ty327 : TI := ⟨.func, 1, 8, .nilfn⟩
def ty328 : TI := ⟨.func, 1, 8, .nilfn⟩
def ty329 : TI := ⟨.func, 1, 8, .nilfn⟩
def ty330 : TI := ⟨.slice 332, 1, 24, .sl 0 true []⟩
def ty331 : TI := ⟨.struct [(0, 5), (1, 5), (2, 3), (3, 3), (4, 3)], 5, 32, .agg [.int .u8 0, .int .u8 0, .int .i64 0, .int .i64 0, .int .i64 0]⟩
def ty332 : TI := ⟨.struct [(0, 5), (1, 5), (2, 3), (3, 3), (4, 3)], 5, 32, .agg [.int .u8 0, .int .u8 0, .int .i64 0, .int .i64 0, .int .i64 0]⟩
def ty333 : TI := ⟨.func, 1, 8, .nilfn⟩
def ty335 : TI := ⟨.array 2 3, 2, 16, .agg [.int .i64 0, .int .i64 0]⟩
def ty336 : TI := ⟨.func, 1, 8, .nilfn⟩
def ty337 : TI := ⟨.ptr, 1, 8, .nilp⟩
def ty338 : TI := ⟨.struct [(0, 95), (1, 128), (2, 294), (3, 4)], 4, 48, .agg [.nilp, .nilp, .sl 0 true [], .bool false]⟩
def ty339 : TI := ⟨.struct [(0, 95), (1, 128), (2, 294), (3, 4)], 4, 48, .agg [.nilp, .nilp, .sl 0 true [], .bool false]⟩
def ty340 : TI := ⟨.func, 1, 8, .nilfn⟩
def ty341 : TI := ⟨.func, 1, 8, .nilfn⟩
def ty342 : TI := ⟨.func, 1, 8, .nilfn⟩
def ty343 : TI := ⟨.struct [(0, 2), (1, 2), (2, 9), (3, 2)], 4, 40, .agg [.int .i64 0, .int .i64 0, .str [], .int .i64 0]⟩
def ty344 : TI := ⟨.func, 1, 8, .nilfn⟩
def ty345 : TI := ⟨.slice 3, 1, 24, .sl 0 true []⟩
def ty346 : TI := ⟨.func, 1, 8, .nilfn⟩
def ty347 : TI := ⟨.func, 1, 8, .nilfn⟩
def ty348 : TI := ⟨.func, 1, 8, .nilfn⟩
def ty349 : TI := ⟨.func, 1, 8, .nilfn⟩
def ty350 : TI := ⟨.func, 1, 8, .nilfn⟩
def ty351 : TI := ⟨.func, 1, 8, .nilfn⟩
def ty352 : TI := ⟨.int .u32, 1, 4, .int .u32 0⟩
def ty354 : TI := ⟨.func, 1, 8, .nilfn⟩
def ty355 : TI := ⟨.func, 1, 8, .nilfn⟩
def ty356 : TI := ⟨.struct [(0, 17), (1, 17), (2, 17), (3, 9)], 4, 40, .agg [.nilp, .nilp, .nilp, .str []]⟩
def ty357 : TI := ⟨.struct [(0, 17), (1, 17), (2, 17), (3, 9)], 4, 40, .agg [.nilp, .nilp, .nilp, .str []]⟩
def ty358 : TI := ⟨.array 0 16, 0, 0, .agg []⟩
def ty359 : TI := ⟨.struct [(0, 358)], 0, 0, .agg []⟩
def ty360 : TI := ⟨.struct [(0, 358)], 0, 0, .agg []⟩
def ty361 : TI := ⟨.func, 1, 8, .nilfn⟩
def ty362 : TI := ⟨.int .u8, 1, 1, .int .u8 0⟩
def ty363 : TI := ⟨.int .u8, 1, 1, .int .u8 0⟩
def ty364 : TI := ⟨.func, 1, 8, .nilfn⟩
def ty365 : TI := ⟨.ptr, 1, 8, .nilp⟩
def ty366 : TI := ⟨.int .i32, 1, 4, .int .i32 0⟩
def ty367 : TI := ⟨.int .i32, 1, 4, .int .i32 0⟩
def ty368 : TI := ⟨.struct [(0, 12), (1, 12), (2, 352), (3, 362), (4, 5), (5, 5), (6, 363), (7, 364), (8, 365), (9, 366), (10, 367)], 11, 48, .agg [.int .u64 0, .int .u64 0, .int .u32 0, .int .u8 0, .int .u8 0, .int .u8 0, .int .u8 0, .nilfn, .nilp, .int .i32 0, .int .i32 0]⟩
def ty369 : TI := ⟨.struct [(0, 12), (1, 12), (2, 352), (3, 362), (4, 5), (5, 5), (6, 363), (7, 364), (8, 365), (9, 366), (10, 367)], 11, 48, .agg [.int .u64 0, .int .u64 0, .int .u32 0, .int .u8 0, .int .u8 0, .int .u8 0, .int .u8 0, .nilfn, .nilp, .int .i32 0, .int .i32 0]⟩
def ty370 : TI := ⟨.func, 1, 8, .nilfn⟩
def ty372 : TI := ⟨.array 5 310, 5, 40, .agg [.int .u64 0, .int .u64 0, .int .u64 0, .int .u64 0, .int .u64 0]⟩
def tyT : Tree TI := .node (.node (.node (.node (.node (.node (.node (.node (.node (.leaf) 1 ty1 (.leaf)) 2 ty2 (.leaf)) 3 ty3 (.node (.node (.leaf) 4 ty4 (.leaf)) 5 ty5 (.leaf))) 6 ty6 (.node (.node (.node (.leaf) 7 ty7 (.leaf)) 8 ty8 (.leaf)) 9 ty9 (.node (.leaf) 10 ty10 (.leaf)))) 11 ty11 (.node (.node (.node (.node (.leaf) 12 ty12 (.leaf)) 13 ty13 (.leaf)) 14 ty14 (.node (.node (.leaf) 15 ty15 (.leaf)) 16 ty16 (.leaf))) 17 ty17 (.node (.node (.node (.leaf) 18 ty18 (.leaf)) 19 ty19 (.leaf)) 21 ty21 (.node (.leaf) 22 ty22 (.leaf))))) 23 ty23 (.node (.node (.node (.node (.node (.leaf) 24 ty24 (.leaf)) 25 ty25 (.leaf)) 26 ty26 (.node (.node (.leaf) 28 ty28 (.leaf)) 29 ty29 (.leaf))) 30 ty30 (.node (.node (.node (.leaf) 31 ty31 (.leaf)) 32 ty32 (.leaf)) 33 ty33 (.node (.leaf) 34 ty34 (.leaf)))) 35 ty35 (.node (.node (.node (.node (.leaf) 36 ty36 (.leaf)) 37 ty37 (.leaf)) 39 ty39 (.node (.node (.leaf) 40 ty40 (.leaf)) 41 ty41 (.leaf))) 42 ty42 (.node (.node (.node (.leaf) 43 ty43 (.leaf)) 44 ty44 (.leaf)) 45 ty45 (.node (.leaf) 46 ty46 (.leaf)))))) 47 ty47 (.node (.node (.node (.node (.node (.node (.leaf) 48 ty48 (.leaf)) 49 ty49 (.leaf)) 50 ty50 (.node (.node (.leaf) 51 ty51 (.leaf)) 52 ty52 (.leaf))) 53 ty53 (.node (.node (.node (.leaf) 54 ty54 (.leaf)) 55 ty55 (.leaf)) 56 ty56 (.node (.leaf) 57 ty57 (.leaf)))) 58 ty58 (.node (.node (.node (.node (.leaf) 59 ty59 (.leaf)) 60 ty60 (.leaf)) 61 ty61 (.node (.node (.leaf) 62 ty62 (.leaf)) 63 ty63 (.leaf))) 64 ty64 (.node (.node (.node (.leaf) 66 ty66 (.leaf)) 67 ty67 (.leaf)) 68 ty68 (.node (.leaf) 70 ty70 (.leaf))))) 71 ty71 (.node (.node (.node (.node (.node (.leaf) 72 ty72 (.leaf)) 73 ty73 (.leaf)) 75 ty75 (.node (.node (.leaf) 76 ty76 (.leaf)) 77 ty77 (.leaf))) 79 ty79 (.node (.node (.node (.leaf) 80 ty80 (.leaf)) 82 ty82 (.leaf)) 83 ty83 (.node (.leaf) 84 ty84 (.leaf)))) 85 ty85 (.node (.node (.node (.node (.leaf) 86 ty86 (.leaf)) 87 ty87 (.leaf)) 88 ty88 (.node (.node (.leaf) 89 ty89 (.leaf)) 90 ty90 (.leaf))) 91 ty91 (.node (.node (.node (.leaf) 92 ty92 (.leaf)) 93 ty93 (.leaf)) 94 ty94 (.node (.leaf) 95 ty95 (.leaf))))))) 96 ty96 (.node (.node (.node (.node (.node (.node (.node (.leaf) 97 ty97 (.leaf)) 98 ty98 (.leaf)) 99 ty99 (.node (.node (.leaf) 100 ty100 (.leaf)) 101 ty101 (.leaf))) 102 ty102 (.node (.node (.node (.leaf) 103 ty103 (.leaf)) 104 ty104 (.leaf)) 105 ty105 (.node (.leaf) 106 ty106 (.leaf)))) 107 ty107 (.node (.node (.node (.node (.leaf) 108 ty108 (.leaf)) 109 ty109 (.leaf)) 110 ty110 (.node (.node (.leaf) 111 ty111 (.leaf)) 112 ty112 (.leaf))) 113 ty113 (.node (.node (.node (.leaf) 114 ty114 (.leaf)) 115 ty115 (.leaf)) 116 ty116 (.node (.leaf) 117 ty117 (.leaf))))) 118 ty118 (.node (.node (.node (.node (.node (.leaf) 119 ty119 (.leaf)) 120 ty120 (.leaf)) 121 ty121 (.node (.node (.leaf) 122 ty122 (.leaf)) 123 ty123 (.leaf))) 124 ty124 (.node (.node (.node (.leaf) 125 ty125 (.leaf)) 126 ty126 (.leaf)) 127 ty127 (.node (.leaf) 128 ty128 (.leaf)))) 129 ty129 (.node (.node (.node (.node (.leaf) 130 ty130 (.leaf)) 131 ty131 (.leaf)) 132 ty132 (.node (.node (.leaf) 133 ty133 (.leaf)) 134 ty134 (.leaf))) 136 ty136 (.node (.node (.node (.leaf) 137 ty137 (.leaf)) 138 ty138 (.leaf)) 139 ty139 (.node (.leaf) 140 ty140 (.leaf)))))) 141 ty141 (.node (.node (.node (.node (.node (.node (.leaf) 142 ty142 (.leaf)) 143 ty143 (.leaf)) 144 ty144 (.node (.node (.leaf) 145 ty145 (.leaf)) 146 ty146 (.leaf))) 147 ty147 (.node (.node (.node (.leaf) 148 ty148 (.leaf)) 149 ty149 (.leaf)) 150 ty150 (.node (.leaf) 151 ty151 (.leaf)))) 152 ty152 (.node (.node (.node (.node (.leaf) 153 ty153 (.leaf)) 154 ty154 (.leaf)) 155 ty155 (.node (.node (.leaf) 156 ty156 (.leaf)) 157 ty157 (.leaf))) 158 ty158 (.node (.node (.node (.leaf) 160 ty160 (.leaf)) 161 ty161 (.leaf)) 162 ty162 (.node (.leaf) 163 ty163 (.leaf))))) 164 ty164 (.node (.node (.node (.node (.node (.leaf) 165 ty165 (.leaf)) 166 ty166 (.leaf)) 167 ty167 (.node (.node (.leaf) 168 ty168 (.leaf)) 169 ty169 (.leaf))) 170 ty170 (.node (.node (.node (.leaf) 171 ty171 (.leaf)) 172 ty172 (.leaf)) 173 ty173 (.node (.leaf) 174 ty174 (.leaf)))) 175 ty175 (.node (.node (.node (.node (.leaf) 177 ty177 (.leaf)) 178 ty178 (.leaf)) 179 ty179 (.node (.node (.leaf) 180 ty180 (.leaf)) 181 ty181 (.leaf))) 182 ty182 (.node (.node (.node (.leaf) 183 ty183 (.leaf)) 184 ty184 (.leaf)) 185 ty185 (.node (.leaf) 186 ty186 (.leaf)))))))) 187 ty187 (.node (.node (.node (.node (.node (.node (.node (.node (.leaf) 188 ty188 (.leaf)) 189 ty189 (.leaf)) 190 ty190 (.node (.node (.leaf) 191 ty191 (.leaf)) 192 ty192 (.leaf))) 193 ty193 (.node (.node (.node (.leaf) 194 ty194 (.leaf)) 195 ty195 (.leaf)) 196 ty196 (.node (.leaf) 197 ty197 (.leaf)))) 199 ty199 (.node (.node (.node (.node (.leaf) 200 ty200 (.leaf)) 201 ty201 (.leaf)) 202 ty202 (.node (.node (.leaf) 203 ty203 (.leaf)) 205 ty205 (.leaf))) 206 ty206 (.node (.node (.node (.leaf) 208 ty208 (.leaf)) 209 ty209 (.leaf)) 210 ty210 (.node (.leaf) 211 ty211 (.leaf))))) 212 ty212 (.node (.node (.node (.node (.node (.leaf) 216 ty216 (.leaf)) 217 ty217 (.leaf)) 218 ty218 (.node (.node (.leaf) 219 ty219 (.leaf)) 220 ty220 (.leaf))) 221 ty221 (.node (.node (.node (.leaf) 222 ty222 (.leaf)) 223 ty223 (.leaf)) 224 ty224 (.node (.leaf) 225 ty225 (.leaf)))) 226 ty226 (.node (.node (.node (.node (.leaf) 227 ty227 (.leaf)) 228 ty228 (.leaf)) 229 ty229 (.node (.node (.leaf) 230 ty230 (.leaf)) 231 ty231 (.leaf))) 232 ty232 (.node (.node (.node (.leaf) 233 ty233 (.leaf)) 234 ty234 (.leaf)) 235 ty235 (.node (.leaf) 236 ty236 (.leaf)))))) 237 ty237 (.node (.node (.node (.node (.node (.node (.leaf) 238 ty238 (.leaf)) 239 ty239 (.leaf)) 240 ty240 (.node (.node (.leaf) 241 ty241 (.leaf)) 242 ty242 (.leaf))) 243 ty243 (.node (.node (.node (.leaf) 244 ty244 (.leaf)) 245 ty245 (.leaf)) 246 ty246 (.node (.leaf) 247 ty247 (.leaf)))) 248 ty248 (.node (.node (.node (.node (.leaf) 249 ty249 (.leaf)) 250 ty250 (.leaf)) 251 ty251 (.node (.node (.leaf) 252 ty252 (.leaf)) 253 ty253 (.leaf))) 254 ty254 (.node (.node (.node (.leaf) 255 ty255 (.leaf)) 256 ty256 (.leaf)) 257 ty257 (.node (.leaf) 258 ty258 (.leaf))))) 259 ty259 (.node (.node (.node (.node (.node (.leaf) 260 ty260 (.leaf)) 261 ty261 (.leaf)) 262 ty262 (.node (.node (.leaf) 263 ty263 (.leaf)) 264 ty264 (.leaf))) 265 ty265 (.node (.node (.node (.leaf) 266 ty266 (.leaf)) 267 ty267 (.leaf)) 268 ty268 (.node (.leaf) 269 ty269 (.leaf)))) 270 ty270 (.node (.node (.node (.node (.leaf) 271 ty271 (.leaf)) 272 ty272 (.leaf)) 273 ty273 (.node (.node (.leaf) 274 ty274 (.leaf)) 275 ty275 (.leaf))) 276 ty276 (.node (.node (.node (.leaf) 277 ty277 (.leaf)) 278 ty278 (.leaf)) 279 ty279 (.node (.leaf) 280 ty280 (.leaf))))))) 281 ty281 (.node (.node (.node (.node (.node (.node (.node (.leaf) 282 ty282 (.leaf)) 283 ty283 (.leaf)) 284 ty284 (.node (.node (.leaf) 285 ty285 (.leaf)) 286 ty286 (.leaf))) 287 ty287 (.node (.node (.node (.leaf) 288 ty288 (.leaf)) 289 ty289 (.leaf)) 290 ty290 (.node (.leaf) 291 ty291 (.leaf)))) 292 ty292 (.node (.node (.node (.node (.leaf) 293 ty293 (.leaf)) 294 ty294 (.leaf)) 296 ty296 (.node (.node (.leaf) 297 ty297 (.leaf)) 298 ty298 (.leaf))) 299 ty299 (.node (.node (.node (.leaf) 300 ty300 (.leaf)) 301 ty301 (.leaf)) 302 ty302 (.node (.leaf) 303 ty303 (.leaf))))) 304 ty304 (.node (.node (.node (.node (.node (.leaf) 305 ty305 (.leaf)) 306 ty306 (.leaf)) 307 ty307 (.node (.node (.leaf) 308 ty308 (.leaf)) 309 ty309 (.leaf))) 310 ty310 (.node (.node (.node (.leaf) 311 ty311 (.leaf)) 312 ty312 (.leaf)) 313 ty313 (.node (.leaf) 314 ty314 (.leaf)))) 315 ty315 (.node (.node (.node (.node (.leaf) 316 ty316 (.leaf)) 317 ty317 (.leaf)) 318 ty318 (.node (.node (.leaf) 319 ty319 (.leaf)) 320 ty320 (.leaf))) 321 ty321 (.node (.node (.node (.leaf) 322 ty322 (.leaf)) 323 ty323 (.leaf)) 324 ty324 (.node (.leaf) 325 ty325 (.leaf)))))) 326 ty326 (.node (.node (.node (.node (.node (.node (.leaf) 327 ty327 (.leaf)) 328 ty328 (.leaf)) 329 ty329 (.node (.node (.leaf) 330 ty330 (.leaf)) 331 ty331 (.leaf))) 332 ty332 (.node (.node (.node (.leaf) 333 ty333 (.leaf)) 335 ty335 (.leaf)) 336 ty336 (.node (.leaf) 337 ty337 (.leaf)))) 338 ty338 (.node (.node (.node (.node (.leaf) 339 ty339 (.leaf)) 340 ty340 (.leaf)) 341 ty341 (.node (.node (.leaf) 342 ty342 (.leaf)) 343 ty343 (.leaf))) 344 ty344 (.node (.node (.node (.leaf) 345 ty345 (.leaf)) 346 ty346 (.leaf)) 347 ty347 (.node (.leaf) 348 ty348 (.leaf))))) 349 ty349 (.node (.node (.node (.node (.node (.leaf) 350 ty350 (.leaf)) 351 ty351 (.leaf)) 352 ty352 (.node (.node (.leaf) 354 ty354 (.leaf)) 355 ty355 (.leaf))) 356 ty356 (.node (.node (.node (.leaf) 357 ty357 (.leaf)) 358 ty358 (.leaf)) 359 ty359 (.node (.leaf) 360 ty360 (.leaf)))) 361 ty361 (.node (.node (.node (.node (.leaf) 362 ty362 (.leaf)) 363 ty363 (.leaf)) 364 ty364 (.node (.node (.leaf) 365 ty365 (.leaf)) 366 ty366 (.leaf))) 367 ty367 (.node (.node (.node (.leaf) 368 ty368 (.leaf)) 369 ty369 (.leaf)) 370 ty370 (.node (.leaf) 372 ty372 (.leaf))))))))
theorem tyOk : tyT.all (tyB Try.prog) = true := by kernel_rfl
/-- laws.FnExactSummaryOf -/
noncomputable def fi5 : FI := fiOf Try.f5 [] [] [] false 0 [32, 36, 55, 71]
theorem ok5 : FnOk Try.prog drawOk 5 fi5 := .of Try.func5 (by kernel_rfl) (by kernel_rfl) (by kernel_rfl)
/-- laws.eqInt64S -/
noncomputable def fi17 : FI := fiOf Try.f17 [] [] [] false 1 []
theorem ok17 : FnOk Try.prog drawOk 17 fi17 := .of Try.func17 (by kernel_rfl) (by kernel_rfl) (by kernel_rfl)
/-- laws.heldInt64S -/
noncomputable def fi21 : FI := fiOf Try.f21 [] [] [] false 1 []
theorem ok21 : FnOk Try.prog drawOk 21 fi21 := .of Try.func21 (by kernel_rfl) (by kernel_rfl) (by kernel_rfl)
/-- laws.szChecker -/
noncomputable def fi24 : FI := fiOf Try.f24 [] [] [] false
theorem ok24 : FnOk Try.prog drawOk 24 fi24 := .of Try.func24 (by kernel_rfl) (by kernel_rfl) (by kernel_rfl)
/-- spec.SummaryOf -/
noncomputable def fi25 : FI := fiOf Try.f25 [] [] [] false
theorem ok25 : FnOk Try.prog drawOk 25 fi25 := .of Try.func25 (by kernel_rfl) (by kernel_rfl) (by kernel_rfl)
/-- laws.toChecker -/
noncomputable def fi26 : FI := fiOf Try.f26 [] [(3, 1)] [] false
theorem ok26 : FnOk Try.prog drawOk 26 fi26 := .of Try.func26 (by kernel_rfl) (by kernel_rfl) (by kernel_rfl)
/-- impl.SummaryOf -/
noncomputable def fi27 : FI := fiOf Try.f27 [37] [] [] false
theorem ok27 : FnOk Try.prog drawOk 27 fi27 := .of Try.func27 (by kernel_rfl) (by kernel_rfl) (by kernel_rfl)
/-- laws.eqChecker -/
noncomputable def fi28 : FI := fiOf Try.f28 [] [] [] false 1 []
theorem ok28 : FnOk Try.prog drawOk 28 fi28 := .of Try.func28 (by kernel_rfl) (by kernel_rfl) (by kernel_rfl)
/-- laws.eqInt64SS -/
noncomputable def fi49 : FI := fiOf Try.f49 [] [] [] false 1 []
theorem ok49 : FnOk Try.prog drawOk 49 fi49 := .of Try.func49 (by kernel_rfl) (by kernel_rfl) (by kernel_rfl)
/-- spec.l01Ok -/
noncomputable def fi62 : FI := fiOf Try.f62 [] [] [] false
theorem ok62 : FnOk Try.prog drawOk 62 fi62 := .of Try.func62 (by kernel_rfl) (by kernel_rfl) (by kernel_rfl)
/-- laws.szBoolS -/
noncomputable def fi79 : FI := fiOf Try.f79 [] [] [] false
theorem ok79 : FnOk Try.prog drawOk 79 fi79 := .of Try.func79 (by kernel_rfl) (by kernel_rfl) (by kernel_rfl)
/-- laws.szPushSS -/
noncomputable def fi80 : FI := fiOf Try.f80 [] [] [] false
theorem ok80 : FnOk Try.prog drawOk 80 fi80 := .of Try.func80 (by kernel_rfl) (by kernel_rfl) (by kernel_rfl)
/-- laws.szInt64SSS -/
noncomputable def fi81 : FI := fiOf Try.f81 [] [] [] false
theorem ok81 : FnOk Try.prog drawOk 81 fi81 := .of Try.func81 (by kernel_rfl) (by kernel_rfl) (by kernel_rfl)
/-- laws.szInt64SS -/
noncomputable def fi82 : FI := fiOf Try.f82 [] [] [] false
theorem ok82 : FnOk Try.prog drawOk 82 fi82 := .of Try.func82 (by kernel_rfl) (by kernel_rfl) (by kernel_rfl)
/-- spec.l02Given -/
noncomputable def fi83 : FI := fiOf Try.f83 [] [] [] false
theorem ok83 : FnOk Try.prog drawOk 83 fi83 := .of Try.func83 (by kernel_rfl) (by kernel_rfl) (by kernel_rfl)
/-- spec.l01Matched -/
noncomputable def fi84 : FI := fiOf Try.f84 [] [] [] false
theorem ok84 : FnOk Try.prog drawOk 84 fi84 := .of Try.func84 (by kernel_rfl) (by kernel_rfl) (by kernel_rfl)
/-- spec.l02Summary -/
noncomputable def fi85 : FI := fiOf Try.f85 [27] [] [] false
theorem ok85 : FnOk Try.prog drawOk 85 fi85 := .of Try.func85 (by kernel_rfl) (by kernel_rfl) (by kernel_rfl)
/-- laws.toBoolS -/
noncomputable def fi86 : FI := fiOf Try.f86 [] [] [] false
theorem ok86 : FnOk Try.prog drawOk 86 fi86 := .of Try.func86 (by kernel_rfl) (by kernel_rfl) (by kernel_rfl)
/-- laws.toPushSS -/
noncomputable def fi87 : FI := fiOf Try.f87 [] [] [] false
theorem ok87 : FnOk Try.prog drawOk 87 fi87 := .of Try.func87 (by kernel_rfl) (by kernel_rfl) (by kernel_rfl)
/-- laws.toInt64SSS -/
noncomputable def fi88 : FI := fiOf Try.f88 [] [] [] false
theorem ok88 : FnOk Try.prog drawOk 88 fi88 := .of Try.func88 (by kernel_rfl) (by kernel_rfl) (by kernel_rfl)
/-- laws.toInt64SS -/
noncomputable def fi89 : FI := fiOf Try.f89 [] [] [] false
theorem ok89 : FnOk Try.prog drawOk 89 fi89 := .of Try.func89 (by kernel_rfl) (by kernel_rfl) (by kernel_rfl)
/-- impl.ValidChecker -/
noncomputable def fi90 : FI := fiOf Try.f90 [] [] [] false
theorem ok90 : FnOk Try.prog drawOk 90 fi90 := .of Try.func90 (by kernel_rfl) (by kernel_rfl) (by kernel_rfl)
/-- impl.ValidWord -/
noncomputable def fi91 : FI := fiOf Try.f91 [] [] [] false
theorem ok91 : FnOk Try.prog drawOk 91 fi91 := .of Try.func91 (by kernel_rfl) (by kernel_rfl) (by kernel_rfl)
/-- impl.isMatched -/
noncomputable def fi92 : FI := fiOf Try.f92 [] [] [] false
theorem ok92 : FnOk Try.prog drawOk 92 fi92 := .of Try.func92 (by kernel_rfl) (by kernel_rfl) (by kernel_rfl)
/-- (impl.Checker).end -/
noncomputable def fi93 : FI := fiOf Try.f93 [] [(5, 1), (6, 1)] [] false
theorem ok93 : FnOk Try.prog drawOk 93 fi93 := .of Try.func93 (by kernel_rfl) (by kernel_rfl) (by kernel_rfl)
/-- laws.eqBoolS -/
noncomputable def fi94 : FI := fiOf Try.f94 [] [] [] false 1 []
theorem ok94 : FnOk Try.prog drawOk 94 fi94 := .of Try.func94 (by kernel_rfl) (by kernel_rfl) (by kernel_rfl)
/-- laws.eqPushSS -/
noncomputable def fi95 : FI := fiOf Try.f95 [] [] [] false 1 []
theorem ok95 : FnOk Try.prog drawOk 95 fi95 := .of Try.func95 (by kernel_rfl) (by kernel_rfl) (by kernel_rfl)
/-- laws.eqInt64SSS -/
noncomputable def fi96 : FI := fiOf Try.f96 [] [] [] false 1 []
theorem ok96 : FnOk Try.prog drawOk 96 fi96 := .of Try.func96 (by kernel_rfl) (by kernel_rfl) (by kernel_rfl)
/-- impl.within -/
noncomputable def fi106 : FI := fiOf Try.f106 [] [] [] false
theorem ok106 : FnOk Try.prog drawOk 106 fi106 := .of Try.func106 (by kernel_rfl) (by kernel_rfl) (by kernel_rfl)
/-- spec.l00Own -/
noncomputable def fi117 : FI := fiOf Try.f117 [] [] [] false
theorem ok117 : FnOk Try.prog drawOk 117 fi117 := .of Try.func117 (by kernel_rfl) (by kernel_rfl) (by kernel_rfl)
/-- impl.match -/
noncomputable def fi124 : FI := fiOf Try.f124 [31, 85, 92] [(3, 1)] [77, 83] false
theorem ok124 : FnOk Try.prog drawOk 124 fi124 := .of Try.func124 (by kernel_rfl) (by kernel_rfl) (by kernel_rfl)
/-- spec.l02Ok -/
noncomputable def fi125 : FI := fiOf Try.f125 [] [] [] false
theorem ok125 : FnOk Try.prog drawOk 125 fi125 := .of Try.func125 (by kernel_rfl) (by kernel_rfl) (by kernel_rfl)
/-- spec.l00In -/
noncomputable def fi132 : FI := fiOf Try.f132 [] [] [] false
theorem ok132 : FnOk Try.prog drawOk 132 fi132 := .of Try.func132 (by kernel_rfl) (by kernel_rfl) (by kernel_rfl)
/-- (impl.Checker).isState -/
noncomputable def fi133 : FI := fiOf Try.f133 [] [] [] false
theorem ok133 : FnOk Try.prog drawOk 133 fi133 := .of Try.func133 (by kernel_rfl) (by kernel_rfl) (by kernel_rfl)
/-- impl.size[bool] -/
noncomputable def fi143 : FI := fiOf Try.f143 [] [] [] false
theorem ok143 : FnOk Try.prog drawOk 143 fi143 := .of Try.func143 (by kernel_rfl) (by kernel_rfl) (by kernel_rfl)
/-- spec.l01Symbol -/
noncomputable def fi151 : FI := fiOf Try.f151 [] [] [] false
theorem ok151 : FnOk Try.prog drawOk 151 fi151 := .of Try.func151 (by kernel_rfl) (by kernel_rfl) (by kernel_rfl)
/-- slices.ContainsFunc[[]int64,int64] -/
noncomputable def fi171 : FI := fiOf Try.f171 [] [] [] false
theorem ok171 : FnOk Try.prog drawOk 171 fi171 := .of Try.func171 (by kernel_rfl) (by kernel_rfl) (by kernel_rfl)
/-- laws.szPushS -/
noncomputable def fi173 : FI := fiOf Try.f173 [] [] [] false
theorem ok173 : FnOk Try.prog drawOk 173 fi173 := .of Try.func173 (by kernel_rfl) (by kernel_rfl) (by kernel_rfl)
/-- laws.szInt64S -/
noncomputable def fi174 : FI := fiOf Try.f174 [] [] [] false
theorem ok174 : FnOk Try.prog drawOk 174 fi174 := .of Try.func174 (by kernel_rfl) (by kernel_rfl) (by kernel_rfl)
/-- spec.l01Pending -/
noncomputable def fi175 : FI := fiOf Try.f175 [] [] [] false
theorem ok175 : FnOk Try.prog drawOk 175 fi175 := .of Try.func175 (by kernel_rfl) (by kernel_rfl) (by kernel_rfl)
/-- spec.l02Go -/
noncomputable def fi176 : FI := fiOf Try.f176 [] [] [] false
theorem ok176 : FnOk Try.prog drawOk 176 fi176 := .of Try.func176 (by kernel_rfl) (by kernel_rfl) (by kernel_rfl)
/-- laws.toPushS -/
noncomputable def fi177 : FI := fiOf Try.f177 [] [] [] false
theorem ok177 : FnOk Try.prog drawOk 177 fi177 := .of Try.func177 (by kernel_rfl) (by kernel_rfl) (by kernel_rfl)
/-- laws.toInt64S -/
noncomputable def fi178 : FI := fiOf Try.f178 [] [] [] false
theorem ok178 : FnOk Try.prog drawOk 178 fi178 := .of Try.func178 (by kernel_rfl) (by kernel_rfl) (by kernel_rfl)
/-- impl.size[[]impl.Push] -/
noncomputable def fi179 : FI := fiOf Try.f179 [] [] [] false
theorem ok179 : FnOk Try.prog drawOk 179 fi179 := .of Try.func179 (by kernel_rfl) (by kernel_rfl) (by kernel_rfl)
/-- impl.size[[][]int64] -/
noncomputable def fi180 : FI := fiOf Try.f180 [] [] [] false
theorem ok180 : FnOk Try.prog drawOk 180 fi180 := .of Try.func180 (by kernel_rfl) (by kernel_rfl) (by kernel_rfl)
/-- impl.size[[]int64] -/
noncomputable def fi181 : FI := fiOf Try.f181 [] [] [] false
theorem ok181 : FnOk Try.prog drawOk 181 fi181 := .of Try.func181 (by kernel_rfl) (by kernel_rfl) (by kernel_rfl)
/-- impl.ValidChecker$1 -/
noncomputable def fi182 : FI := fiOf Try.f182 [] [] [] false
theorem ok182 : FnOk Try.prog drawOk 182 fi182 := .of Try.func182 (by kernel_rfl) (by kernel_rfl) (by kernel_rfl)
/-- impl.size[int64] -/
noncomputable def fi183 : FI := fiOf Try.f183 [] [] [] false
theorem ok183 : FnOk Try.prog drawOk 183 fi183 := .of Try.func183 (by kernel_rfl) (by kernel_rfl) (by kernel_rfl)
/-- impl.ValidChecker$1$1 -/
noncomputable def fi184 : FI := fiOf Try.f184 [] [] [] false
theorem ok184 : FnOk Try.prog drawOk 184 fi184 := .of Try.func184 (by kernel_rfl) (by kernel_rfl) (by kernel_rfl)
/-- (impl.Checker).isMark -/
noncomputable def fi185 : FI := fiOf Try.f185 [] [] [] false
theorem ok185 : FnOk Try.prog drawOk 185 fi185 := .of Try.func185 (by kernel_rfl) (by kernel_rfl) (by kernel_rfl)
/-- strings.IndexByte -/
noncomputable def fi186 : FI := fiOf Try.f186 [] [] [] false
theorem ok186 : FnOk Try.prog drawOk 186 fi186 := .of Try.func186 (by kernel_rfl) (by kernel_rfl) (by kernel_rfl)
/-- (impl.Checker).run -/
noncomputable def fi187 : FI := fiOf Try.f187 [] [] [] false
theorem ok187 : FnOk Try.prog drawOk 187 fi187 := .of Try.func187 (by kernel_rfl) (by kernel_rfl) (by kernel_rfl)
/-- (impl.Checker).end$1 -/
noncomputable def fi188 : FI := fiOf Try.f188 [] [] [] false
theorem ok188 : FnOk Try.prog drawOk 188 fi188 := .of Try.func188 (by kernel_rfl) (by kernel_rfl) (by kernel_rfl)
/-- laws.eqPushS -/
noncomputable def fi189 : FI := fiOf Try.f189 [] [] [] false 1 []
theorem ok189 : FnOk Try.prog drawOk 189 fi189 := .of Try.func189 (by kernel_rfl) (by kernel_rfl) (by kernel_rfl)
/-- spec.l01Return -/
noncomputable def fi194 : FI := fiOf Try.f194 [] [] [] false
theorem ok194 : FnOk Try.prog drawOk 194 fi194 := .of Try.func194 (by kernel_rfl) (by kernel_rfl) (by kernel_rfl)
/-- spec.l01Call -/
noncomputable def fi195 : FI := fiOf Try.f195 [] [] [] false
theorem ok195 : FnOk Try.prog drawOk 195 fi195 := .of Try.func195 (by kernel_rfl) (by kernel_rfl) (by kernel_rfl)
/-- impl.isCall -/
noncomputable def fi207 : FI := fiOf Try.f207 [] [] [] false
theorem ok207 : FnOk Try.prog drawOk 207 fi207 := .of Try.func207 (by kernel_rfl) (by kernel_rfl) (by kernel_rfl)
/-- impl.isReturn -/
noncomputable def fi209 : FI := fiOf Try.f209 [] [] [] false
theorem ok209 : FnOk Try.prog drawOk 209 fi209 := .of Try.func209 (by kernel_rfl) (by kernel_rfl) (by kernel_rfl)
/-- spec.l02List -/
noncomputable def fi212 : FI := fiOf Try.f212 [] [] [] false
theorem ok212 : FnOk Try.prog drawOk 212 fi212 := .of Try.func212 (by kernel_rfl) (by kernel_rfl) (by kernel_rfl)
/-- impl.kindOf -/
noncomputable def fi241 : FI := fiOf Try.f241 [] [] [] false
theorem ok241 : FnOk Try.prog drawOk 241 fi241 := .of Try.func241 (by kernel_rfl) (by kernel_rfl) (by kernel_rfl)
/-- spec.l01Partners -/
noncomputable def fi247 : FI := fiOf Try.f247 [] [] [17, 25, 29, 58, 66] false
theorem ok247 : FnOk Try.prog drawOk 247 fi247 := .of Try.func247 (by kernel_rfl) (by kernel_rfl) (by kernel_rfl)
/-- slices.IndexFunc[[]int64,int64] -/
noncomputable def fi256 : FI := fiOf Try.f256 [] [] [] false
theorem ok256 : FnOk Try.prog drawOk 256 fi256 := .of Try.func256 (by kernel_rfl) (by kernel_rfl) (by kernel_rfl)
/-- spec.l02Step -/
noncomputable def fi257 : FI := fiOf Try.f257 [] [] [] false
theorem ok257 : FnOk Try.prog drawOk 257 fi257 := .of Try.func257 (by kernel_rfl) (by kernel_rfl) (by kernel_rfl)
/-- laws.toPush -/
noncomputable def fi258 : FI := fiOf Try.f258 [] [(3, 1)] [] false
theorem ok258 : FnOk Try.prog drawOk 258 fi258 := .of Try.func258 (by kernel_rfl) (by kernel_rfl) (by kernel_rfl)
/-- internal/stringslite.IndexByte -/
noncomputable def fi259 : FI := fiOf Try.f259 [] [] [] false
theorem ok259 : FnOk Try.prog drawOk 259 fi259 := .of Try.func259 (by kernel_rfl) (by kernel_rfl) (by kernel_rfl)
/-- (impl.Checker).step -/
noncomputable def fi260 : FI := fiOf Try.f260 [] [] [] false
theorem ok260 : FnOk Try.prog drawOk 260 fi260 := .of Try.func260 (by kernel_rfl) (by kernel_rfl) (by kernel_rfl)
/-- laws.eqPush -/
noncomputable def fi261 : FI := fiOf Try.f261 [] [] [] false
theorem ok261 : FnOk Try.prog drawOk 261 fi261 := .of Try.func261 (by kernel_rfl) (by kernel_rfl) (by kernel_rfl)
/-- impl.isInner -/
noncomputable def fi290 : FI := fiOf Try.f290 [] [] [] false
theorem ok290 : FnOk Try.prog drawOk 290 fi290 := .of Try.func290 (by kernel_rfl) (by kernel_rfl) (by kernel_rfl)
noncomputable def fnT : Tree FI := .node (.node (.node (.node (.node (.node (.node (.leaf) 5 fi5 (.leaf)) 17 fi17 (.leaf)) 21 fi21 (.node (.leaf) 24 fi24 (.leaf))) 25 fi25 (.node (.node (.leaf) 26 fi26 (.leaf)) 27 fi27 (.node (.leaf) 28 fi28 (.leaf)))) 49 fi49 (.node (.node (.node (.node (.leaf) 62 fi62 (.leaf)) 79 fi79 (.leaf)) 80 fi80 (.node (.leaf) 81 fi81 (.leaf))) 82 fi82 (.node (.node (.leaf) 83 fi83 (.leaf)) 84 fi84 (.node (.leaf) 85 fi85 (.leaf))))) 86 fi86 (.node (.node (.node (.node (.node (.leaf) 87 fi87 (.leaf)) 88 fi88 (.leaf)) 89 fi89 (.node (.leaf) 90 fi90 (.leaf))) 91 fi91 (.node (.node (.leaf) 92 fi92 (.leaf)) 93 fi93 (.node (.leaf) 94 fi94 (.leaf)))) 95 fi95 (.node (.node (.node (.leaf) 96 fi96 (.leaf)) 106 fi106 (.node (.leaf) 117 fi117 (.leaf))) 124 fi124 (.node (.node (.leaf) 125 fi125 (.leaf)) 132 fi132 (.node (.leaf) 133 fi133 (.leaf)))))) 143 fi143 (.node (.node (.node (.node (.node (.node (.leaf) 151 fi151 (.leaf)) 171 fi171 (.leaf)) 173 fi173 (.node (.leaf) 174 fi174 (.leaf))) 175 fi175 (.node (.node (.leaf) 176 fi176 (.leaf)) 177 fi177 (.node (.leaf) 178 fi178 (.leaf)))) 179 fi179 (.node (.node (.node (.leaf) 180 fi180 (.leaf)) 181 fi181 (.node (.leaf) 182 fi182 (.leaf))) 183 fi183 (.node (.node (.leaf) 184 fi184 (.leaf)) 185 fi185 (.node (.leaf) 186 fi186 (.leaf))))) 187 fi187 (.node (.node (.node (.node (.node (.leaf) 188 fi188 (.leaf)) 189 fi189 (.leaf)) 194 fi194 (.node (.leaf) 195 fi195 (.leaf))) 207 fi207 (.node (.node (.leaf) 209 fi209 (.leaf)) 212 fi212 (.node (.leaf) 241 fi241 (.leaf)))) 247 fi247 (.node (.node (.node (.leaf) 256 fi256 (.leaf)) 257 fi257 (.node (.leaf) 258 fi258 (.leaf))) 259 fi259 (.node (.node (.leaf) 260 fi260 (.leaf)) 261 fi261 (.node (.leaf) 290 fi290 (.leaf))))))
theorem fnOk : fnT.Each (FnOk Try.prog drawOk) := ⟨ok143, ⟨ok86, ⟨ok49, ⟨ok25, ⟨ok21, ⟨ok17, ⟨ok5, trivial, trivial⟩, trivial⟩, ⟨ok24, trivial, trivial⟩⟩, ⟨ok27, ⟨ok26, trivial, trivial⟩, ⟨ok28, trivial, trivial⟩⟩⟩, ⟨ok82, ⟨ok80, ⟨ok79, ⟨ok62, trivial, trivial⟩, trivial⟩, ⟨ok81, trivial, trivial⟩⟩, ⟨ok84, ⟨ok83, trivial, trivial⟩, ⟨ok85, trivial, trivial⟩⟩⟩⟩, ⟨ok95, ⟨ok91, ⟨ok89, ⟨ok88, ⟨ok87, trivial, trivial⟩, trivial⟩, ⟨ok90, trivial, trivial⟩⟩, ⟨ok93, ⟨ok92, trivial, trivial⟩, ⟨ok94, trivial, trivial⟩⟩⟩, ⟨ok124, ⟨ok106, ⟨ok96, trivial, trivial⟩, ⟨ok117, trivial, trivial⟩⟩, ⟨ok132, ⟨ok125, trivial, trivial⟩, ⟨ok133, trivial, trivial⟩⟩⟩⟩⟩, ⟨ok187, ⟨ok179, ⟨ok175, ⟨ok173, ⟨ok171, ⟨ok151, trivial, trivial⟩, trivial⟩, ⟨ok174, trivial, trivial⟩⟩, ⟨ok177, ⟨ok176, trivial, trivial⟩, ⟨ok178, trivial, trivial⟩⟩⟩, ⟨ok183, ⟨ok181, ⟨ok180, trivial, trivial⟩, ⟨ok182, trivial, trivial⟩⟩, ⟨ok185, ⟨ok184, trivial, trivial⟩, ⟨ok186, trivial, trivial⟩⟩⟩⟩, ⟨ok247, ⟨ok207, ⟨ok194, ⟨ok189, ⟨ok188, trivial, trivial⟩, trivial⟩, ⟨ok195, trivial, trivial⟩⟩, ⟨ok212, ⟨ok209, trivial, trivial⟩, ⟨ok241, trivial, trivial⟩⟩⟩, ⟨ok259, ⟨ok257, ⟨ok256, trivial, trivial⟩, ⟨ok258, trivial, trivial⟩⟩, ⟨ok261, ⟨ok260, trivial, trivial⟩, ⟨ok290, trivial, trivial⟩⟩⟩⟩⟩⟩
/-- laws.markInt64S -/
noncomputable def fiK20 : FI := fiOf Try.f20 [] [] [] true
theorem okK20 : FnOk Try.prog drawOk 20 fiK20 := .of Try.func20 (by kernel_rfl) (by kernel_rfl) (by kernel_rfl)
/-- laws.toChecker -/
noncomputable def fiK26 : FI := fiOf Try.f26 [] [(3, 1)] [] true 0 [12, 16, 20, 24]
theorem okK26 : FnOk Try.prog drawOk 26 fiK26 := .of Try.func26 (by kernel_rfl) (by kernel_rfl) (by kernel_rfl)
/-- impl.SummaryOf -/
noncomputable def fiK27 : FI := fiOf Try.f27 [] [] [40] true 1 []
theorem okK27 : FnOk Try.prog drawOk 27 fiK27 := .of Try.func27 (by kernel_rfl) (by kernel_rfl) (by kernel_rfl)
/-- laws.markChecker -/
noncomputable def fiK29 : FI := fiOf Try.f29 [] [] [] true 0 [8, 12, 16, 20]
theorem okK29 : FnOk Try.prog drawOk 29 fiK29 := .of Try.func29 (by kernel_rfl) (by kernel_rfl) (by kernel_rfl)
/-- laws.markInt64SS -/
noncomputable def fiK50 : FI := fiOf Try.f50 [] [] [] true 0 [17]
theorem okK50 : FnOk Try.prog drawOk 50 fiK50 := .of Try.func50 (by kernel_rfl) (by kernel_rfl) (by kernel_rfl)
/-- laws.toBoolS -/
noncomputable def fiK86 : FI := fiOf Try.f86 [] [] [] true
theorem okK86 : FnOk Try.prog drawOk 86 fiK86 := .of Try.func86 (by kernel_rfl) (by kernel_rfl) (by kernel_rfl)
/-- laws.toPushSS -/
noncomputable def fiK87 : FI := fiOf Try.f87 [] [] [] true 0 [20]
theorem okK87 : FnOk Try.prog drawOk 87 fiK87 := .of Try.func87 (by kernel_rfl) (by kernel_rfl) (by kernel_rfl)
/-- laws.toInt64SSS -/
noncomputable def fiK88 : FI := fiOf Try.f88 [] [] [] true 0 [20]
theorem okK88 : FnOk Try.prog drawOk 88 fiK88 := .of Try.func88 (by kernel_rfl) (by kernel_rfl) (by kernel_rfl)
/-- laws.toInt64SS -/
noncomputable def fiK89 : FI := fiOf Try.f89 [] [] [] true 0 [20]
theorem okK89 : FnOk Try.prog drawOk 89 fiK89 := .of Try.func89 (by kernel_rfl) (by kernel_rfl) (by kernel_rfl)
/-- laws.markBoolS -/
noncomputable def fiK97 : FI := fiOf Try.f97 [] [] [] true
theorem okK97 : FnOk Try.prog drawOk 97 fiK97 := .of Try.func97 (by kernel_rfl) (by kernel_rfl) (by kernel_rfl)
/-- laws.markPushSS -/
noncomputable def fiK98 : FI := fiOf Try.f98 [] [] [] true 0 [17]
theorem okK98 : FnOk Try.prog drawOk 98 fiK98 := .of Try.func98 (by kernel_rfl) (by kernel_rfl) (by kernel_rfl)
/-- laws.markInt64SSS -/
noncomputable def fiK99 : FI := fiOf Try.f99 [] [] [] true 0 [17]
theorem okK99 : FnOk Try.prog drawOk 99 fiK99 := .of Try.func99 (by kernel_rfl) (by kernel_rfl) (by kernel_rfl)
/-- laws.toPushS -/
noncomputable def fiK177 : FI := fiOf Try.f177 [] [] [] true
theorem okK177 : FnOk Try.prog drawOk 177 fiK177 := .of Try.func177 (by kernel_rfl) (by kernel_rfl) (by kernel_rfl)
/-- laws.toInt64S -/
noncomputable def fiK178 : FI := fiOf Try.f178 [] [] [] true
theorem okK178 : FnOk Try.prog drawOk 178 fiK178 := .of Try.func178 (by kernel_rfl) (by kernel_rfl) (by kernel_rfl)
/-- laws.markPushS -/
noncomputable def fiK190 : FI := fiOf Try.f190 [] [] [] true
theorem okK190 : FnOk Try.prog drawOk 190 fiK190 := .of Try.func190 (by kernel_rfl) (by kernel_rfl) (by kernel_rfl)
noncomputable def fnKT : Tree FI := .node (.node (.node (.node (.leaf) 20 fiK20 (.leaf)) 26 fiK26 (.node (.leaf) 27 fiK27 (.leaf))) 29 fiK29 (.node (.node (.leaf) 50 fiK50 (.leaf)) 86 fiK86 (.node (.leaf) 87 fiK87 (.leaf)))) 88 fiK88 (.node (.node (.node (.leaf) 89 fiK89 (.leaf)) 97 fiK97 (.node (.leaf) 98 fiK98 (.leaf))) 99 fiK99 (.node (.node (.leaf) 177 fiK177 (.leaf)) 178 fiK178 (.node (.leaf) 190 fiK190 (.leaf))))
theorem fnKOk : fnKT.Each (FnOk Try.prog drawOk) := ⟨okK88, ⟨okK29, ⟨okK26, ⟨okK20, trivial, trivial⟩, ⟨okK27, trivial, trivial⟩⟩, ⟨okK86, ⟨okK50, trivial, trivial⟩, ⟨okK87, trivial, trivial⟩⟩⟩, ⟨okK99, ⟨okK97, ⟨okK89, trivial, trivial⟩, ⟨okK98, trivial, trivial⟩⟩, ⟨okK178, ⟨okK177, trivial, trivial⟩, ⟨okK190, trivial, trivial⟩⟩⟩⟩
end Go.Proofs.Ytddjkclabfmakaa.law
