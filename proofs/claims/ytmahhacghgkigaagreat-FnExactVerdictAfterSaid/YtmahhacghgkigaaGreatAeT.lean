/- The evaluator's tables of types and functions of this seat. -/
import Derived.Test.YtmahhacghgkigaaGreatAe2
import Derived.Test.YtmahhacghgkigaaGreatProg
import Derived.KernelRfl
set_option linter.unusedVariables false
set_option linter.unusedSimpArgs false
namespace Go.Proofs.YtmahhacghgkigaaGreat.law
open Go Go.Proofs Ae

def ty1:TI:=⟨.func,1,8,.nilfn⟩
def ty2:TI:=⟨.int .i64,1,8,.int .i64 0⟩
def ty3:TI:=⟨.int .i64,1,8,.int .i64 0⟩
def ty4:TI:=⟨.bool,1,1,.bool false⟩
def ty5:TI:=⟨.int .u8,1,1,.int .u8 0⟩
def ty6:TI:=⟨.int .u8,1,1,.int .u8 0⟩
def ty7:TI:=⟨.struct [(0,2),(1,3),(2,4),(3,6)],4,24,.agg [.int .i64 0,.int .i64 0,.bool false,.int .u8 0]⟩
def ty8:TI:=⟨.struct [(0,2),(1,3),(2,4),(3,6)],4,24,.agg [.int .i64 0,.int .i64 0,.bool false,.int .u8 0]⟩
def ty9:TI:=⟨.str,1,16,.str []⟩
def ty10:TI:=⟨.str,1,16,.str []⟩
def ty11:TI:=⟨.str,1,16,.str []⟩
def ty12:TI:=⟨.int .u64,1,8,.int .u64 0⟩
def ty13:TI:=⟨.struct [(0,9),(1,12)],2,24,.agg [.str [],.int .u64 0]⟩
def ty14:TI:=⟨.struct [(0,9),(1,12)],2,24,.agg [.str [],.int .u64 0]⟩
def ty15:TI:=⟨.ptr,1,8,.nilp⟩
def ty16:TI:=⟨.ptr,1,8,.nilp⟩
def ty17:TI:=⟨.ptr,1,8,.nilp⟩
def ty18:TI:=⟨.struct [(0,17)],1,8,.agg [.nilp]⟩
def ty19:TI:=⟨.struct [(0,17)],1,8,.agg [.nilp]⟩
def ty21:TI:=⟨.int .i32,1,4,.int .i32 0⟩
def ty22:TI:=⟨.slice 4,1,24,.sl 0 true []⟩
def ty23:TI:=⟨.slice 104,1,24,.sl 0 true []⟩
def ty24:TI:=⟨.slice 25,1,24,.sl 0 true []⟩
def ty25:TI:=⟨.slice 52,1,24,.sl 0 true []⟩
def ty26:TI:=⟨.struct [(0,2),(1,2),(2,22),(3,23),(4,24),(5,25)],6,112,.agg [.int .i64 0,.int .i64 0,.sl 0 true [],.sl 0 true [],.sl 0 true [],.sl 0 true []]⟩
def ty27:TI:=⟨.struct [(0,2),(1,2),(2,22),(3,23),(4,24),(5,25)],6,112,.agg [.int .i64 0,.int .i64 0,.sl 0 true [],.sl 0 true [],.sl 0 true [],.sl 0 true []]⟩
def ty28:TI:=⟨.slice 9,1,24,.sl 0 true []⟩
def ty29:TI:=⟨.struct [(0,27),(6,28)],7,136,.agg [.int .i64 0,.int .i64 0,.sl 0 true [],.sl 0 true [],.sl 0 true [],.sl 0 true [],.sl 0 true []]⟩
def ty30:TI:=⟨.struct [(0,27),(6,28)],7,136,.agg [.int .i64 0,.int .i64 0,.sl 0 true [],.sl 0 true [],.sl 0 true [],.sl 0 true [],.sl 0 true []]⟩
def ty31:TI:=⟨.slice 61,1,24,.sl 0 true []⟩
def ty32:TI:=⟨.func,1,8,.nilfn⟩
def ty33:TI:=⟨.func,1,8,.nilfn⟩
def ty35:TI:=⟨.func,1,8,.nilfn⟩
def ty36:TI:=⟨.slice 116,1,24,.sl 0 true []⟩
def ty37:TI:=⟨.struct [(0,2),(1,2),(2,22),(3,36),(4,24),(5,25)],6,112,.agg [.int .i64 0,.int .i64 0,.sl 0 true [],.sl 0 true [],.sl 0 true [],.sl 0 true []]⟩
def ty38:TI:=⟨.struct [(0,2),(1,2),(2,22),(3,36),(4,24),(5,25)],6,112,.agg [.int .i64 0,.int .i64 0,.sl 0 true [],.sl 0 true [],.sl 0 true [],.sl 0 true []]⟩
def ty39:TI:=⟨.struct [(0,38),(6,28)],7,136,.agg [.int .i64 0,.int .i64 0,.sl 0 true [],.sl 0 true [],.sl 0 true [],.sl 0 true [],.sl 0 true []]⟩
def ty40:TI:=⟨.struct [(0,38),(6,28)],7,136,.agg [.int .i64 0,.int .i64 0,.sl 0 true [],.sl 0 true [],.sl 0 true [],.sl 0 true [],.sl 0 true []]⟩
def ty41:TI:=⟨.func,1,8,.nilfn⟩
def ty42:TI:=⟨.slice 59,1,24,.sl 0 true []⟩
def ty43:TI:=⟨.func,1,8,.nilfn⟩
def ty44:TI:=⟨.func,1,8,.nilfn⟩
def ty45:TI:=⟨.func,1,8,.nilfn⟩
def ty46:TI:=⟨.func,1,8,.nilfn⟩
def ty47:TI:=⟨.func,1,8,.nilfn⟩
def ty48:TI:=⟨.func,1,8,.nilfn⟩
def ty49:TI:=⟨.func,1,8,.nilfn⟩
def ty50:TI:=⟨.ptr,1,8,.nilp⟩
def ty51:TI:=⟨.ptr,1,8,.nilp⟩
def ty52:TI:=⟨.slice 2,1,24,.sl 0 true []⟩
def ty54:TI:=⟨.func,1,8,.nilfn⟩
def ty55:TI:=⟨.func,1,8,.nilfn⟩
def ty56:TI:=⟨.func,1,8,.nilfn⟩
def ty57:TI:=⟨.func,1,8,.nilfn⟩
def ty58:TI:=⟨.struct [(0,2),(1,2),(2,2)],3,24,.agg [.int .i64 0,.int .i64 0,.int .i64 0]⟩
def ty59:TI:=⟨.struct [(0,2),(1,2),(2,2)],3,24,.agg [.int .i64 0,.int .i64 0,.int .i64 0]⟩
def ty60:TI:=⟨.func,1,8,.nilfn⟩
def ty61:TI:=⟨.struct [(0,2),(1,2),(2,2)],3,24,.agg [.int .i64 0,.int .i64 0,.int .i64 0]⟩
def ty62:TI:=⟨.func,1,8,.nilfn⟩
def ty63:TI:=⟨.ptr,1,8,.nilp⟩
def ty65:TI:=⟨.func,1,8,.nilfn⟩
def ty66:TI:=⟨.func,1,8,.nilfn⟩
def ty67:TI:=⟨.func,1,8,.nilfn⟩
def ty68:TI:=⟨.func,1,8,.nilfn⟩
def ty69:TI:=⟨.func,1,8,.nilfn⟩
def ty70:TI:=⟨.func,1,8,.nilfn⟩
def ty71:TI:=⟨.func,1,8,.nilfn⟩
def ty72:TI:=⟨.func,1,8,.nilfn⟩
def ty73:TI:=⟨.func,1,8,.nilfn⟩
def ty74:TI:=⟨.func,1,8,.nilfn⟩
def ty75:TI:=⟨.func,1,8,.nilfn⟩
def ty76:TI:=⟨.func,1,8,.nilfn⟩
def ty77:TI:=⟨.ptr,1,8,.nilp⟩
def ty78:TI:=⟨.struct [(0,2),(1,2),(2,52),(3,52)],4,64,.agg [.int .i64 0,.int .i64 0,.sl 0 true [],.sl 0 true []]⟩
def ty79:TI:=⟨.struct [(0,2),(1,2),(2,52),(3,52)],4,64,.agg [.int .i64 0,.int .i64 0,.sl 0 true [],.sl 0 true []]⟩
def ty80:TI:=⟨.slice 114,1,24,.sl 0 true []⟩
def ty81:TI:=⟨.struct [(0,79),(4,79),(8,80)],9,152,.agg [.int .i64 0,.int .i64 0,.sl 0 true [],.sl 0 true [],.int .i64 0,.int .i64 0,.sl 0 true [],.sl 0 true [],.sl 0 true []]⟩
def ty82:TI:=⟨.struct [(0,79),(4,79),(8,80)],9,152,.agg [.int .i64 0,.int .i64 0,.sl 0 true [],.sl 0 true [],.int .i64 0,.int .i64 0,.sl 0 true [],.sl 0 true [],.sl 0 true []]⟩
def ty83:TI:=⟨.struct [(0,50),(1,82)],10,160,.agg [.nilp,.int .i64 0,.int .i64 0,.sl 0 true [],.sl 0 true [],.int .i64 0,.int .i64 0,.sl 0 true [],.sl 0 true [],.sl 0 true []]⟩
def ty84:TI:=⟨.struct [(0,50),(1,82)],10,160,.agg [.nilp,.int .i64 0,.int .i64 0,.sl 0 true [],.sl 0 true [],.int .i64 0,.int .i64 0,.sl 0 true [],.sl 0 true [],.sl 0 true []]⟩
def ty85:TI:=⟨.func,1,8,.nilfn⟩
def ty86:TI:=⟨.func,1,8,.nilfn⟩
def ty87:TI:=⟨.ptr,1,8,.nilp⟩
def ty88:TI:=⟨.func,1,8,.nilfn⟩
def ty89:TI:=⟨.func,1,8,.nilfn⟩
def ty90:TI:=⟨.func,1,8,.nilfn⟩
def ty91:TI:=⟨.func,1,8,.nilfn⟩
def ty92:TI:=⟨.func,1,8,.nilfn⟩
def ty93:TI:=⟨.func,1,8,.nilfn⟩
def ty94:TI:=⟨.func,1,8,.nilfn⟩
def ty95:TI:=⟨.struct [(0,82),(9,40)],16,288,.agg [.int .i64 0,.int .i64 0,.sl 0 true [],.sl 0 true [],.int .i64 0,.int .i64 0,.sl 0 true [],.sl 0 true [],.sl 0 true [],.int .i64 0,.int .i64 0,.sl 0 true [],.sl 0 true [],.sl 0 true [],.sl 0 true [],.sl 0 true []]⟩
def ty96:TI:=⟨.struct [(0,82),(9,40)],16,288,.agg [.int .i64 0,.int .i64 0,.sl 0 true [],.sl 0 true [],.int .i64 0,.int .i64 0,.sl 0 true [],.sl 0 true [],.sl 0 true [],.int .i64 0,.int .i64 0,.sl 0 true [],.sl 0 true [],.sl 0 true [],.sl 0 true [],.sl 0 true []]⟩
def ty97:TI:=⟨.func,1,8,.nilfn⟩
def ty98:TI:=⟨.func,1,8,.nilfn⟩
def ty99:TI:=⟨.func,1,8,.nilfn⟩
def ty100:TI:=⟨.func,1,8,.nilfn⟩
def ty101:TI:=⟨.func,1,8,.nilfn⟩
def ty102:TI:=⟨.func,1,8,.nilfn⟩
def ty103:TI:=⟨.func,1,8,.nilfn⟩
def ty104:TI:=⟨.slice 142,1,24,.sl 0 true []⟩
def ty105:TI:=⟨.func,1,8,.nilfn⟩
def ty106:TI:=⟨.func,1,8,.nilfn⟩
def ty107:TI:=⟨.func,1,8,.nilfn⟩
def ty108:TI:=⟨.func,1,8,.nilfn⟩
def ty109:TI:=⟨.func,1,8,.nilfn⟩
def ty110:TI:=⟨.slice 3,1,24,.sl 0 true []⟩
def ty112:TI:=⟨.func,1,8,.nilfn⟩
def ty113:TI:=⟨.struct [(0,2),(1,28)],2,32,.agg [.int .i64 0,.sl 0 true []]⟩
def ty114:TI:=⟨.struct [(0,2),(1,28)],2,32,.agg [.int .i64 0,.sl 0 true []]⟩
def ty115:TI:=⟨.func,1,8,.nilfn⟩
def ty116:TI:=⟨.slice 136,1,24,.sl 0 true []⟩
def ty117:TI:=⟨.func,1,8,.nilfn⟩
def ty118:TI:=⟨.func,1,8,.nilfn⟩
def ty119:TI:=⟨.func,1,8,.nilfn⟩
def ty120:TI:=⟨.func,1,8,.nilfn⟩
def ty121:TI:=⟨.func,1,8,.nilfn⟩
def ty122:TI:=⟨.func,1,8,.nilfn⟩
def ty124:TI:=⟨.func,1,8,.nilfn⟩
def ty125:TI:=⟨.func,1,8,.nilfn⟩
def ty126:TI:=⟨.func,1,8,.nilfn⟩
def ty127:TI:=⟨.func,1,8,.nilfn⟩
def ty128:TI:=⟨.func,1,8,.nilfn⟩
def ty129:TI:=⟨.func,1,8,.nilfn⟩
def ty130:TI:=⟨.func,1,8,.nilfn⟩
def ty131:TI:=⟨.func,1,8,.nilfn⟩
def ty132:TI:=⟨.func,1,8,.nilfn⟩
def ty133:TI:=⟨.func,1,8,.nilfn⟩
def ty134:TI:=⟨.func,1,8,.nilfn⟩
def ty135:TI:=⟨.struct [(0,2),(1,2)],2,16,.agg [.int .i64 0,.int .i64 0]⟩
def ty136:TI:=⟨.struct [(0,2),(1,2)],2,16,.agg [.int .i64 0,.int .i64 0]⟩
def ty137:TI:=⟨.func,1,8,.nilfn⟩
def ty138:TI:=⟨.func,1,8,.nilfn⟩
def ty139:TI:=⟨.ptr,1,8,.nilp⟩
def ty140:TI:=⟨.func,1,8,.nilfn⟩
def ty141:TI:=⟨.func,1,8,.nilfn⟩
def ty142:TI:=⟨.struct [(0,2),(1,2)],2,16,.agg [.int .i64 0,.int .i64 0]⟩
def ty143:TI:=⟨.func,1,8,.nilfn⟩
def ty144:TI:=⟨.func,1,8,.nilfn⟩
def ty145:TI:=⟨.func,1,8,.nilfn⟩
def ty146:TI:=⟨.func,1,8,.nilfn⟩
def ty147:TI:=⟨.func,1,8,.nilfn⟩
def ty148:TI:=⟨.func,1,8,.nilfn⟩
def ty149:TI:=⟨.func,1,8,.nilfn⟩
def ty150:TI:=⟨.ptr,1,8,.nilp⟩
def ty151:TI:=⟨.slice 5,1,24,.sl 0 true []⟩
def ty152:TI:=⟨.struct [(0,150),(1,151)],2,32,.agg [.nilp,.sl 0 true []]⟩
def ty153:TI:=⟨.struct [(0,150),(1,151)],2,32,.agg [.nilp,.sl 0 true []]⟩
def ty154:TI:=⟨.func,1,8,.nilfn⟩
def ty158:TI:=⟨.func,1,8,.nilfn⟩
def ty159:TI:=⟨.func,1,8,.nilfn⟩
def ty160:TI:=⟨.func,1,8,.nilfn⟩
def ty162:TI:=⟨.func,1,8,.nilfn⟩
def ty163:TI:=⟨.func,1,8,.nilfn⟩
def ty164:TI:=⟨.func,1,8,.nilfn⟩
def ty165:TI:=⟨.func,1,8,.nilfn⟩
def ty166:TI:=⟨.func,1,8,.nilfn⟩
def ty167:TI:=⟨.ptr,1,8,.nilp⟩
def ty168:TI:=⟨.func,1,8,.nilfn⟩
def ty169:TI:=⟨.func,1,8,.nilfn⟩
def ty170:TI:=⟨.int .u64,1,8,.int .u64 0⟩
def ty171:TI:=⟨.func,1,8,.nilfn⟩
def ty172:TI:=⟨.func,1,8,.nilfn⟩
def ty173:TI:=⟨.func,1,8,.nilfn⟩
def ty174:TI:=⟨.func,1,8,.nilfn⟩
def ty176:TI:=⟨.func,1,8,.nilfn⟩
def ty177:TI:=⟨.func,1,8,.nilfn⟩
def ty178:TI:=⟨.func,1,8,.nilfn⟩
def ty179:TI:=⟨.int .i64,1,8,.int .i64 0⟩
def ty181:TI:=⟨.func,1,8,.nilfn⟩
def ty182:TI:=⟨.func,1,8,.nilfn⟩
def ty183:TI:=⟨.func,1,8,.nilfn⟩
def ty184:TI:=⟨.func,1,8,.nilfn⟩
def ty186:TI:=⟨.func,1,8,.nilfn⟩
def ty187:TI:=⟨.func,1,8,.nilfn⟩
def ty188:TI:=⟨.int .u32,1,4,.int .u32 0⟩
def ty189:TI:=⟨.func,1,8,.nilfn⟩
def ty190:TI:=⟨.int .u64,1,8,.int .u64 0⟩
def ty191:TI:=⟨.func,1,8,.nilfn⟩
def ty192:TI:=⟨.int .u64,1,8,.int .u64 0⟩
def ty193:TI:=⟨.func,1,8,.nilfn⟩
def ty194:TI:=⟨.func,1,8,.nilfn⟩
def ty195:TI:=⟨.func,1,8,.nilfn⟩
def ty196:TI:=⟨.ptr,1,8,.nilp⟩
def ty197:TI:=⟨.func,1,8,.nilfn⟩
def ty198:TI:=⟨.func,1,8,.nilfn⟩
def ty199:TI:=⟨.func,1,8,.nilfn⟩
def ty200:TI:=⟨.ptr,1,8,.nilp⟩
def ty202:TI:=⟨.func,1,8,.nilfn⟩
def ty203:TI:=⟨.struct [(0,17),(1,17),(2,17),(3,9)],4,40,.agg [.nilp,.nilp,.nilp,.str []]⟩
def ty204:TI:=⟨.struct [(0,17),(1,17),(2,17),(3,9)],4,40,.agg [.nilp,.nilp,.nilp,.str []]⟩
def ty205:TI:=⟨.array 0 16,0,0,.agg []⟩
def ty206:TI:=⟨.struct [(0,205)],0,0,.agg []⟩
def ty207:TI:=⟨.struct [(0,205)],0,0,.agg []⟩
def ty208:TI:=⟨.func,1,8,.nilfn⟩
def ty209:TI:=⟨.int .u8,1,1,.int .u8 0⟩
def ty210:TI:=⟨.int .u8,1,1,.int .u8 0⟩
def ty211:TI:=⟨.func,1,8,.nilfn⟩
def ty212:TI:=⟨.int .i32,1,4,.int .i32 0⟩
def ty213:TI:=⟨.int .i32,1,4,.int .i32 0⟩
def ty214:TI:=⟨.struct [(0,12),(1,12),(2,188),(3,209),(4,5),(5,5),(6,210),(7,211),(8,167),(9,212),(10,213)],11,48,.agg [.int .u64 0,.int .u64 0,.int .u32 0,.int .u8 0,.int .u8 0,.int .u8 0,.int .u8 0,.nilfn,.nilp,.int .i32 0,.int .i32 0]⟩
def ty215:TI:=⟨.struct [(0,12),(1,12),(2,188),(3,209),(4,5),(5,5),(6,210),(7,211),(8,167),(9,212),(10,213)],11,48,.agg [.int .u64 0,.int .u64 0,.int .u32 0,.int .u8 0,.int .u8 0,.int .u8 0,.int .u8 0,.nilfn,.nilp,.int .i32 0,.int .i32 0]⟩
def tyT:Tree TI:=.node (.node (.node (.node (.node (.node (.node (.node (.leaf) 1 ty1 (.leaf)) 2 ty2 (.node (.leaf) 3 ty3 (.leaf))) 4 ty4 (.node (.node (.leaf) 5 ty5 (.leaf)) 6 ty6 (.leaf))) 7 ty7 (.node (.node (.node (.leaf) 8 ty8 (.leaf)) 9 ty9 (.leaf)) 10 ty10 (.node (.node (.leaf) 11 ty11 (.leaf)) 12 ty12 (.leaf)))) 13 ty13 (.node (.node (.node (.node (.leaf) 14 ty14 (.leaf)) 15 ty15 (.node (.leaf) 16 ty16 (.leaf))) 17 ty17 (.node (.node (.leaf) 18 ty18 (.leaf)) 19 ty19 (.leaf))) 21 ty21 (.node (.node (.node (.leaf) 22 ty22 (.leaf)) 23 ty23 (.leaf)) 24 ty24 (.node (.node (.leaf) 25 ty25 (.leaf)) 26 ty26 (.leaf))))) 27 ty27 (.node (.node (.node (.node (.node (.leaf) 28 ty28 (.leaf)) 29 ty29 (.node (.leaf) 30 ty30 (.leaf))) 31 ty31 (.node (.node (.leaf) 32 ty32 (.leaf)) 33 ty33 (.leaf))) 35 ty35 (.node (.node (.node (.leaf) 36 ty36 (.leaf)) 37 ty37 (.leaf)) 38 ty38 (.node (.node (.leaf) 39 ty39 (.leaf)) 40 ty40 (.leaf)))) 41 ty41 (.node (.node (.node (.node (.leaf) 42 ty42 (.leaf)) 43 ty43 (.leaf)) 44 ty44 (.node (.node (.leaf) 45 ty45 (.leaf)) 46 ty46 (.leaf))) 47 ty47 (.node (.node (.node (.leaf) 48 ty48 (.leaf)) 49 ty49 (.leaf)) 50 ty50 (.node (.node (.leaf) 51 ty51 (.leaf)) 52 ty52 (.leaf)))))) 54 ty54 (.node (.node (.node (.node (.node (.node (.leaf) 55 ty55 (.leaf)) 56 ty56 (.node (.leaf) 57 ty57 (.leaf))) 58 ty58 (.node (.node (.leaf) 59 ty59 (.leaf)) 60 ty60 (.leaf))) 61 ty61 (.node (.node (.node (.leaf) 62 ty62 (.leaf)) 63 ty63 (.leaf)) 65 ty65 (.node (.node (.leaf) 66 ty66 (.leaf)) 67 ty67 (.leaf)))) 68 ty68 (.node (.node (.node (.node (.leaf) 69 ty69 (.leaf)) 70 ty70 (.leaf)) 71 ty71 (.node (.node (.leaf) 72 ty72 (.leaf)) 73 ty73 (.leaf))) 74 ty74 (.node (.node (.node (.leaf) 75 ty75 (.leaf)) 76 ty76 (.leaf)) 77 ty77 (.node (.node (.leaf) 78 ty78 (.leaf)) 79 ty79 (.leaf))))) 80 ty80 (.node (.node (.node (.node (.node (.leaf) 81 ty81 (.leaf)) 82 ty82 (.node (.leaf) 83 ty83 (.leaf))) 84 ty84 (.node (.node (.leaf) 85 ty85 (.leaf)) 86 ty86 (.leaf))) 87 ty87 (.node (.node (.node (.leaf) 88 ty88 (.leaf)) 89 ty89 (.leaf)) 90 ty90 (.node (.node (.leaf) 91 ty91 (.leaf)) 92 ty92 (.leaf)))) 93 ty93 (.node (.node (.node (.node (.leaf) 94 ty94 (.leaf)) 95 ty95 (.leaf)) 96 ty96 (.node (.node (.leaf) 97 ty97 (.leaf)) 98 ty98 (.leaf))) 99 ty99 (.node (.node (.node (.leaf) 100 ty100 (.leaf)) 101 ty101 (.leaf)) 102 ty102 (.node (.node (.leaf) 103 ty103 (.leaf)) 104 ty104 (.leaf))))))) 105 ty105 (.node (.node (.node (.node (.node (.node (.node (.leaf) 106 ty106 (.leaf)) 107 ty107 (.node (.leaf) 108 ty108 (.leaf))) 109 ty109 (.node (.node (.leaf) 110 ty110 (.leaf)) 112 ty112 (.leaf))) 113 ty113 (.node (.node (.node (.leaf) 114 ty114 (.leaf)) 115 ty115 (.leaf)) 116 ty116 (.node (.node (.leaf) 117 ty117 (.leaf)) 118 ty118 (.leaf)))) 119 ty119 (.node (.node (.node (.node (.leaf) 120 ty120 (.leaf)) 121 ty121 (.node (.leaf) 122 ty122 (.leaf))) 124 ty124 (.node (.node (.leaf) 125 ty125 (.leaf)) 126 ty126 (.leaf))) 127 ty127 (.node (.node (.node (.leaf) 128 ty128 (.leaf)) 129 ty129 (.leaf)) 130 ty130 (.node (.node (.leaf) 131 ty131 (.leaf)) 132 ty132 (.leaf))))) 133 ty133 (.node (.node (.node (.node (.node (.leaf) 134 ty134 (.leaf)) 135 ty135 (.node (.leaf) 136 ty136 (.leaf))) 137 ty137 (.node (.node (.leaf) 138 ty138 (.leaf)) 139 ty139 (.leaf))) 140 ty140 (.node (.node (.node (.leaf) 141 ty141 (.leaf)) 142 ty142 (.leaf)) 143 ty143 (.node (.node (.leaf) 144 ty144 (.leaf)) 145 ty145 (.leaf)))) 146 ty146 (.node (.node (.node (.node (.leaf) 147 ty147 (.leaf)) 148 ty148 (.leaf)) 149 ty149 (.node (.node (.leaf) 150 ty150 (.leaf)) 151 ty151 (.leaf))) 152 ty152 (.node (.node (.node (.leaf) 153 ty153 (.leaf)) 154 ty154 (.leaf)) 158 ty158 (.node (.node (.leaf) 159 ty159 (.leaf)) 160 ty160 (.leaf)))))) 162 ty162 (.node (.node (.node (.node (.node (.node (.leaf) 163 ty163 (.leaf)) 164 ty164 (.node (.leaf) 165 ty165 (.leaf))) 166 ty166 (.node (.node (.leaf) 167 ty167 (.leaf)) 168 ty168 (.leaf))) 169 ty169 (.node (.node (.node (.leaf) 170 ty170 (.leaf)) 171 ty171 (.leaf)) 172 ty172 (.node (.node (.leaf) 173 ty173 (.leaf)) 174 ty174 (.leaf)))) 176 ty176 (.node (.node (.node (.node (.leaf) 177 ty177 (.leaf)) 178 ty178 (.leaf)) 179 ty179 (.node (.node (.leaf) 181 ty181 (.leaf)) 182 ty182 (.leaf))) 183 ty183 (.node (.node (.node (.leaf) 184 ty184 (.leaf)) 186 ty186 (.leaf)) 187 ty187 (.node (.node (.leaf) 188 ty188 (.leaf)) 189 ty189 (.leaf))))) 190 ty190 (.node (.node (.node (.node (.node (.leaf) 191 ty191 (.leaf)) 192 ty192 (.node (.leaf) 193 ty193 (.leaf))) 194 ty194 (.node (.node (.leaf) 195 ty195 (.leaf)) 196 ty196 (.leaf))) 197 ty197 (.node (.node (.node (.leaf) 198 ty198 (.leaf)) 199 ty199 (.leaf)) 200 ty200 (.node (.node (.leaf) 202 ty202 (.leaf)) 203 ty203 (.leaf)))) 204 ty204 (.node (.node (.node (.node (.leaf) 205 ty205 (.leaf)) 206 ty206 (.leaf)) 207 ty207 (.node (.node (.leaf) 208 ty208 (.leaf)) 209 ty209 (.leaf))) 210 ty210 (.node (.node (.node (.leaf) 211 ty211 (.leaf)) 212 ty212 (.leaf)) 213 ty213 (.node (.node (.leaf) 214 ty214 (.leaf)) 215 ty215 (.leaf)))))))
theorem tyOk:tyT.all (tyB Tryz.prog)=true:=by kernel_rfl
/-- laws.FnExactVerdictAfter -/
noncomputable def fi3:FI:=fiOf Tryz.f3 [] [] [] false
theorem ok3:FnOk Tryz.prog drawOk 3 fi3:=.of Tryz.func3 (by kernel_rfl) (by kernel_rfl) (by kernel_rfl)
/-- laws.szStream -/
noncomputable def fi4:FI:=fiOf Tryz.f4 [] [] [] false
theorem ok4:FnOk Tryz.prog drawOk 4 fi4:=.of Tryz.func4 (by kernel_rfl) (by kernel_rfl) (by kernel_rfl)
/-- laws.szDeedS -/
noncomputable def fi5:FI:=fiOf Tryz.f5 [] [] [] false
theorem ok5:FnOk Tryz.prog drawOk 5 fi5:=.of Tryz.func5 (by kernel_rfl) (by kernel_rfl) (by kernel_rfl)
/-- spec.VerdictAfter -/
noncomputable def fi6:FI:=fiOf Tryz.f6 [] [] [] false 0 [16]
theorem ok6:FnOk Tryz.prog drawOk 6 fi6:=.of Tryz.func6 (by kernel_rfl) (by kernel_rfl) (by kernel_rfl)
/-- laws.toStream -/
noncomputable def fi7:FI:=fiOf Tryz.f7 [] [(3,1)] [] false
theorem ok7:FnOk Tryz.prog drawOk 7 fi7:=.of Tryz.func7 (by kernel_rfl) (by kernel_rfl) (by kernel_rfl)
/-- laws.toDeedS -/
noncomputable def fi8:FI:=fiOf Tryz.f8 [] [] [] false
theorem ok8:FnOk Tryz.prog drawOk 8 fi8:=.of Tryz.func8 (by kernel_rfl) (by kernel_rfl) (by kernel_rfl)
/-- impl.VerdictAfter -/
noncomputable def fi9:FI:=fiOf Tryz.f9 [] [] [] false 0 [18,22]
theorem ok9:FnOk Tryz.prog drawOk 9 fi9:=.of Tryz.func9 (by kernel_rfl) (by kernel_rfl) (by kernel_rfl)
/-- laws.eqStream -/
noncomputable def fi10:FI:=fiOf Tryz.f10 [] [] [] false
theorem ok10:FnOk Tryz.prog drawOk 10 fi10:=.of Tryz.func10 (by kernel_rfl) (by kernel_rfl) (by kernel_rfl)
/-- laws.eqDeedS -/
noncomputable def fi11:FI:=fiOf Tryz.f11 [] [] [] false
theorem ok11:FnOk Tryz.prog drawOk 11 fi11:=.of Tryz.func11 (by kernel_rfl) (by kernel_rfl) (by kernel_rfl)
/-- laws.szChecker -/
noncomputable def fi12:FI:=fiOf Tryz.f12 [] [] [] false
theorem ok12:FnOk Tryz.prog drawOk 12 fi12:=.of Tryz.func12 (by kernel_rfl) (by kernel_rfl) (by kernel_rfl)
/-- laws.szStringS -/
noncomputable def fi13:FI:=fiOf Tryz.f13 [] [] [] false
theorem ok13:FnOk Tryz.prog drawOk 13 fi13:=.of Tryz.func13 (by kernel_rfl) (by kernel_rfl) (by kernel_rfl)
/-- spec.l08Asked -/
noncomputable def fi14:FI:=fiOf Tryz.f14 [] [] [] false
theorem ok14:FnOk Tryz.prog drawOk 14 fi14:=.of Tryz.func14 (by kernel_rfl) (by kernel_rfl) (by kernel_rfl)
/-- (*spec.l08Run).verdict -/
noncomputable def fi16:FI:=fiOf Tryz.f16 [] [] [] false
theorem ok16:FnOk Tryz.prog drawOk 16 fi16:=.of Tryz.func16 (by kernel_rfl) (by kernel_rfl) (by kernel_rfl)
/-- laws.toChecker -/
noncomputable def fi17:FI:=fiOf Tryz.f17 [] [(3,1)] [] false
theorem ok17:FnOk Tryz.prog drawOk 17 fi17:=.of Tryz.func17 (by kernel_rfl) (by kernel_rfl) (by kernel_rfl)
/-- laws.toStringS -/
noncomputable def fi18:FI:=fiOf Tryz.f18 [] [] [] false
theorem ok18:FnOk Tryz.prog drawOk 18 fi18:=.of Tryz.func18 (by kernel_rfl) (by kernel_rfl) (by kernel_rfl)
/-- laws.toDeed -/
noncomputable def fi19:FI:=fiOf Tryz.f19 [] [(3,1)] [] false
theorem ok19:FnOk Tryz.prog drawOk 19 fi19:=.of Tryz.func19 (by kernel_rfl) (by kernel_rfl) (by kernel_rfl)
/-- impl.deedsCode -/
noncomputable def fi20:FI:=fiOf Tryz.f20 [] [] [] false
theorem ok20:FnOk Tryz.prog drawOk 20 fi20:=.of Tryz.func20 (by kernel_rfl) (by kernel_rfl) (by kernel_rfl)
/-- laws.eqChecker -/
noncomputable def fi23:FI:=fiOf Tryz.f23 [] [] [] false
theorem ok23:FnOk Tryz.prog drawOk 23 fi23:=.of Tryz.func23 (by kernel_rfl) (by kernel_rfl) (by kernel_rfl)
/-- laws.eqStringS -/
noncomputable def fi24:FI:=fiOf Tryz.f24 [] [] [] false
theorem ok24:FnOk Tryz.prog drawOk 24 fi24:=.of Tryz.func24 (by kernel_rfl) (by kernel_rfl) (by kernel_rfl)
/-- laws.eqDeed -/
noncomputable def fi25:FI:=fiOf Tryz.f25 [] [] [] false
theorem ok25:FnOk Tryz.prog drawOk 25 fi25:=.of Tryz.func25 (by kernel_rfl) (by kernel_rfl) (by kernel_rfl)
/-- laws.szBoolS -/
noncomputable def fi26:FI:=fiOf Tryz.f26 [] [] [] false
theorem ok26:FnOk Tryz.prog drawOk 26 fi26:=.of Tryz.func26 (by kernel_rfl) (by kernel_rfl) (by kernel_rfl)
/-- laws.szPushSS -/
noncomputable def fi27:FI:=fiOf Tryz.f27 [] [] [] false
theorem ok27:FnOk Tryz.prog drawOk 27 fi27:=.of Tryz.func27 (by kernel_rfl) (by kernel_rfl) (by kernel_rfl)
/-- laws.szInt64SSS -/
noncomputable def fi28:FI:=fiOf Tryz.f28 [] [] [] false
theorem ok28:FnOk Tryz.prog drawOk 28 fi28:=.of Tryz.func28 (by kernel_rfl) (by kernel_rfl) (by kernel_rfl)
/-- laws.szInt64SS -/
noncomputable def fi29:FI:=fiOf Tryz.f29 [] [] [] false
theorem ok29:FnOk Tryz.prog drawOk 29 fi29:=.of Tryz.func29 (by kernel_rfl) (by kernel_rfl) (by kernel_rfl)
/-- spec.l08Ok -/
noncomputable def fi30:FI:=fiOf Tryz.f30 [] [] [] false
theorem ok30:FnOk Tryz.prog drawOk 30 fi30:=.of Tryz.func30 (by kernel_rfl) (by kernel_rfl) (by kernel_rfl)
/-- spec.l08Deed -/
noncomputable def fi31:FI:=fiOf Tryz.f31 [] [] [] false
theorem ok31:FnOk Tryz.prog drawOk 31 fi31:=.of Tryz.func31 (by kernel_rfl) (by kernel_rfl) (by kernel_rfl)
/-- (*spec.l08Run).do -/
noncomputable def fi33:FI:=fiOf Tryz.f33 [42] [] [] false
theorem ok33:FnOk Tryz.prog drawOk 33 fi33:=.of Tryz.func33 (by kernel_rfl) (by kernel_rfl) (by kernel_rfl)
/-- spec.l00Has -/
noncomputable def fi34:FI:=fiOf Tryz.f34 [] [] [] false
theorem ok34:FnOk Tryz.prog drawOk 34 fi34:=.of Tryz.func34 (by kernel_rfl) (by kernel_rfl) (by kernel_rfl)
/-- spec.l08Lost -/
noncomputable def fi35:FI:=fiOf Tryz.f35 [46] [(5,1)] [] false
theorem ok35:FnOk Tryz.prog drawOk 35 fi35:=.of Tryz.func35 (by kernel_rfl) (by kernel_rfl) (by kernel_rfl)
/-- laws.toBoolS -/
noncomputable def fi36:FI:=fiOf Tryz.f36 [] [] [] false
theorem ok36:FnOk Tryz.prog drawOk 36 fi36:=.of Tryz.func36 (by kernel_rfl) (by kernel_rfl) (by kernel_rfl)
/-- laws.toPushSS -/
noncomputable def fi37:FI:=fiOf Tryz.f37 [] [] [] false
theorem ok37:FnOk Tryz.prog drawOk 37 fi37:=.of Tryz.func37 (by kernel_rfl) (by kernel_rfl) (by kernel_rfl)
/-- laws.toInt64SSS -/
noncomputable def fi38:FI:=fiOf Tryz.f38 [] [] [] false
theorem ok38:FnOk Tryz.prog drawOk 38 fi38:=.of Tryz.func38 (by kernel_rfl) (by kernel_rfl) (by kernel_rfl)
/-- laws.toInt64SS -/
noncomputable def fi39:FI:=fiOf Tryz.f39 [] [] [] false
theorem ok39:FnOk Tryz.prog drawOk 39 fi39:=.of Tryz.func39 (by kernel_rfl) (by kernel_rfl) (by kernel_rfl)
/-- impl.ValidStream -/
noncomputable def fi40:FI:=fiOf Tryz.f40 [] [] [] false
theorem ok40:FnOk Tryz.prog drawOk 40 fi40:=.of Tryz.func40 (by kernel_rfl) (by kernel_rfl) (by kernel_rfl)
/-- slices.ContainsFunc[[]impl.Deed,impl.Deed] -/
noncomputable def fi41:FI:=fiOf Tryz.f41 [] [] [] false
theorem ok41:FnOk Tryz.prog drawOk 41 fi41:=.of Tryz.func41 (by kernel_rfl) (by kernel_rfl) (by kernel_rfl)
/-- impl.deedsCode$1 -/
noncomputable def fi42:FI:=fiOf Tryz.f42 [] [] [] false
theorem ok42:FnOk Tryz.prog drawOk 42 fi42:=.of Tryz.func42 (by kernel_rfl) (by kernel_rfl) (by kernel_rfl)
/-- impl.ValidDeed -/
noncomputable def fi43:FI:=fiOf Tryz.f43 [] [] [] false
theorem ok43:FnOk Tryz.prog drawOk 43 fi43:=.of Tryz.func43 (by kernel_rfl) (by kernel_rfl) (by kernel_rfl)
/-- impl.size[string] -/
noncomputable def fi46:FI:=fiOf Tryz.f46 [] [] [] false
theorem ok46:FnOk Tryz.prog drawOk 46 fi46:=.of Tryz.func46 (by kernel_rfl) (by kernel_rfl) (by kernel_rfl)
/-- slices.Contains[[]int64,int64] -/
noncomputable def fi47:FI:=fiOf Tryz.f47 [] [] [] false 1
theorem ok47:FnOk Tryz.prog drawOk 47 fi47:=.of Tryz.func47 (by kernel_rfl) (by kernel_rfl) (by kernel_rfl)
/-- (impl.Checker).lost -/
noncomputable def fi48:FI:=fiOf Tryz.f48 [21] [(5,1)] [] false
theorem ok48:FnOk Tryz.prog drawOk 48 fi48:=.of Tryz.func48 (by kernel_rfl) (by kernel_rfl) (by kernel_rfl)
/-- laws.eqBoolS -/
noncomputable def fi49:FI:=fiOf Tryz.f49 [] [] [] false
theorem ok49:FnOk Tryz.prog drawOk 49 fi49:=.of Tryz.func49 (by kernel_rfl) (by kernel_rfl) (by kernel_rfl)
/-- laws.eqPushSS -/
noncomputable def fi50:FI:=fiOf Tryz.f50 [] [] [] false
theorem ok50:FnOk Tryz.prog drawOk 50 fi50:=.of Tryz.func50 (by kernel_rfl) (by kernel_rfl) (by kernel_rfl)
/-- laws.eqInt64SSS -/
noncomputable def fi51:FI:=fiOf Tryz.f51 [] [] [] false
theorem ok51:FnOk Tryz.prog drawOk 51 fi51:=.of Tryz.func51 (by kernel_rfl) (by kernel_rfl) (by kernel_rfl)
/-- laws.eqInt64SS -/
noncomputable def fi52:FI:=fiOf Tryz.f52 [] [] [] false
theorem ok52:FnOk Tryz.prog drawOk 52 fi52:=.of Tryz.func52 (by kernel_rfl) (by kernel_rfl) (by kernel_rfl)
/-- laws.szPushS -/
noncomputable def fi53:FI:=fiOf Tryz.f53 [] [] [] false
theorem ok53:FnOk Tryz.prog drawOk 53 fi53:=.of Tryz.func53 (by kernel_rfl) (by kernel_rfl) (by kernel_rfl)
/-- laws.szInt64S -/
noncomputable def fi54:FI:=fiOf Tryz.f54 [] [] [] false
theorem ok54:FnOk Tryz.prog drawOk 54 fi54:=.of Tryz.func54 (by kernel_rfl) (by kernel_rfl) (by kernel_rfl)
/-- spec.l02Ok -/
noncomputable def fi55:FI:=fiOf Tryz.f55 [] [] [] false
theorem ok55:FnOk Tryz.prog drawOk 55 fi55:=.of Tryz.func55 (by kernel_rfl) (by kernel_rfl) (by kernel_rfl)
/-- spec.l00In -/
noncomputable def fi56:FI:=fiOf Tryz.f56 [] [] [] false
theorem ok56:FnOk Tryz.prog drawOk 56 fi56:=.of Tryz.func56 (by kernel_rfl) (by kernel_rfl) (by kernel_rfl)
/-- spec.l01Ok -/
noncomputable def fi57:FI:=fiOf Tryz.f57 [] [] [] false
theorem ok57:FnOk Tryz.prog drawOk 57 fi57:=.of Tryz.func57 (by kernel_rfl) (by kernel_rfl) (by kernel_rfl)
/-- spec.l08Whole -/
noncomputable def fi58:FI:=fiOf Tryz.f58 [] [] [] false
theorem ok58:FnOk Tryz.prog drawOk 58 fi58:=.of Tryz.func58 (by kernel_rfl) (by kernel_rfl) (by kernel_rfl)
/-- spec.l08Words -/
noncomputable def fi59:FI:=fiOf Tryz.f59 [] [] [] false
theorem ok59:FnOk Tryz.prog drawOk 59 fi59:=.of Tryz.func59 (by kernel_rfl) (by kernel_rfl) (by kernel_rfl)
/-- spec.l08Copy -/
noncomputable def fi60:FI:=fiOf Tryz.f60 [] [] [] false
theorem ok60:FnOk Tryz.prog drawOk 60 fi60:=.of Tryz.func60 (by kernel_rfl) (by kernel_rfl) (by kernel_rfl)
/-- (*spec.l08Run).wire -/
noncomputable def fi61:FI:=fiOf Tryz.f61 [] [] [] false
theorem ok61:FnOk Tryz.prog drawOk 61 fi61:=.of Tryz.func61 (by kernel_rfl) (by kernel_rfl) (by kernel_rfl)
/-- spec.l02Used -/
noncomputable def fi62:FI:=fiOf Tryz.f62 [25,26,39,83] [] [] false
theorem ok62:FnOk Tryz.prog drawOk 62 fi62:=.of Tryz.func62 (by kernel_rfl) (by kernel_rfl) (by kernel_rfl)
/-- laws.toPushS -/
noncomputable def fi63:FI:=fiOf Tryz.f63 [] [] [] false
theorem ok63:FnOk Tryz.prog drawOk 63 fi63:=.of Tryz.func63 (by kernel_rfl) (by kernel_rfl) (by kernel_rfl)
/-- laws.toInt64S -/
noncomputable def fi64:FI:=fiOf Tryz.f64 [] [] [] false
theorem ok64:FnOk Tryz.prog drawOk 64 fi64:=.of Tryz.func64 (by kernel_rfl) (by kernel_rfl) (by kernel_rfl)
/-- impl.ValidChecker -/
noncomputable def fi65:FI:=fiOf Tryz.f65 [] [] [] false
theorem ok65:FnOk Tryz.prog drawOk 65 fi65:=.of Tryz.func65 (by kernel_rfl) (by kernel_rfl) (by kernel_rfl)
/-- impl.within -/
noncomputable def fi66:FI:=fiOf Tryz.f66 [] [] [] false
theorem ok66:FnOk Tryz.prog drawOk 66 fi66:=.of Tryz.func66 (by kernel_rfl) (by kernel_rfl) (by kernel_rfl)
/-- slices.ContainsFunc[[]string,string] -/
noncomputable def fi67:FI:=fiOf Tryz.f67 [] [] [] false
theorem ok67:FnOk Tryz.prog drawOk 67 fi67:=.of Tryz.func67 (by kernel_rfl) (by kernel_rfl) (by kernel_rfl)
/-- impl.ValidStream$1 -/
noncomputable def fi68:FI:=fiOf Tryz.f68 [] [] [] false
theorem ok68:FnOk Tryz.prog drawOk 68 fi68:=.of Tryz.func68 (by kernel_rfl) (by kernel_rfl) (by kernel_rfl)
/-- impl.ValidWord -/
noncomputable def fi69:FI:=fiOf Tryz.f69 [] [] [] false
theorem ok69:FnOk Tryz.prog drawOk 69 fi69:=.of Tryz.func69 (by kernel_rfl) (by kernel_rfl) (by kernel_rfl)
/-- slices.IndexFunc[[]impl.Deed,impl.Deed] -/
noncomputable def fi71:FI:=fiOf Tryz.f71 [] [] [] false
theorem ok71:FnOk Tryz.prog drawOk 71 fi71:=.of Tryz.func71 (by kernel_rfl) (by kernel_rfl) (by kernel_rfl)
/-- impl.deedWord -/
noncomputable def fi72:FI:=fiOf Tryz.f72 [] [] [] false
theorem ok72:FnOk Tryz.prog drawOk 72 fi72:=.of Tryz.func72 (by kernel_rfl) (by kernel_rfl) (by kernel_rfl)
/-- impl.size[impl.Parcel] -/
noncomputable def fi74:FI:=fiOf Tryz.f74 [] [] [] false 1
theorem ok74:FnOk Tryz.prog drawOk 74 fi74:=.of Tryz.func74 (by kernel_rfl) (by kernel_rfl) (by kernel_rfl)
/-- slices.Delete[[]impl.Parcel,impl.Parcel] -/
noncomputable def fi75:FI:=fiOf Tryz.f75 [] [] [26] false
theorem ok75:FnOk Tryz.prog drawOk 75 fi75:=.of Tryz.func75 (by kernel_rfl) (by kernel_rfl) (by kernel_rfl)
/-- slices.Index[[]int64,int64] -/
noncomputable def fi77:FI:=fiOf Tryz.f77 [] [] [] false
theorem ok77:FnOk Tryz.prog drawOk 77 fi77:=.of Tryz.func77 (by kernel_rfl) (by kernel_rfl) (by kernel_rfl)
/-- slices.ContainsFunc[[]int64,int64] -/
noncomputable def fi78:FI:=fiOf Tryz.f78 [] [] [] false
theorem ok78:FnOk Tryz.prog drawOk 78 fi78:=.of Tryz.func78 (by kernel_rfl) (by kernel_rfl) (by kernel_rfl)
/-- (impl.Checker).used -/
noncomputable def fi79:FI:=fiOf Tryz.f79 [] [] [11,73] false
theorem ok79:FnOk Tryz.prog drawOk 79 fi79:=.of Tryz.func79 (by kernel_rfl) (by kernel_rfl) (by kernel_rfl)
/-- (impl.Checker).lost$1 -/
noncomputable def fi80:FI:=fiOf Tryz.f80 [] [] [] false
theorem ok80:FnOk Tryz.prog drawOk 80 fi80:=.of Tryz.func80 (by kernel_rfl) (by kernel_rfl) (by kernel_rfl)
/-- laws.eqPushS -/
noncomputable def fi81:FI:=fiOf Tryz.f81 [] [] [] false
theorem ok81:FnOk Tryz.prog drawOk 81 fi81:=.of Tryz.func81 (by kernel_rfl) (by kernel_rfl) (by kernel_rfl)
/-- laws.eqInt64S -/
noncomputable def fi82:FI:=fiOf Tryz.f82 [] [] [] false
theorem ok82:FnOk Tryz.prog drawOk 82 fi82:=.of Tryz.func82 (by kernel_rfl) (by kernel_rfl) (by kernel_rfl)
/-- spec.l02List -/
noncomputable def fi83:FI:=fiOf Tryz.f83 [] [] [] false
theorem ok83:FnOk Tryz.prog drawOk 83 fi83:=.of Tryz.func83 (by kernel_rfl) (by kernel_rfl) (by kernel_rfl)
/-- spec.l01Symbol -/
noncomputable def fi84:FI:=fiOf Tryz.f84 [] [] [] false
theorem ok84:FnOk Tryz.prog drawOk 84 fi84:=.of Tryz.func84 (by kernel_rfl) (by kernel_rfl) (by kernel_rfl)
/-- spec.l00Own -/
noncomputable def fi85:FI:=fiOf Tryz.f85 [] [] [] false
theorem ok85:FnOk Tryz.prog drawOk 85 fi85:=.of Tryz.func85 (by kernel_rfl) (by kernel_rfl) (by kernel_rfl)
/-- (*spec.l08Run).come -/
noncomputable def fi86:FI:=fiOf Tryz.f86 [] [] [] false
theorem ok86:FnOk Tryz.prog drawOk 86 fi86:=.of Tryz.func86 (by kernel_rfl) (by kernel_rfl) (by kernel_rfl)
/-- spec.l00Put -/
noncomputable def fi87:FI:=fiOf Tryz.f87 [31,35,44] [] [] false
theorem ok87:FnOk Tryz.prog drawOk 87 fi87:=.of Tryz.func87 (by kernel_rfl) (by kernel_rfl) (by kernel_rfl)
/-- laws.toPush -/
noncomputable def fi88:FI:=fiOf Tryz.f88 [] [(3,1)] [] false
theorem ok88:FnOk Tryz.prog drawOk 88 fi88:=.of Tryz.func88 (by kernel_rfl) (by kernel_rfl) (by kernel_rfl)
/-- impl.size[bool] -/
noncomputable def fi89:FI:=fiOf Tryz.f89 [] [] [] false
theorem ok89:FnOk Tryz.prog drawOk 89 fi89:=.of Tryz.func89 (by kernel_rfl) (by kernel_rfl) (by kernel_rfl)
/-- (impl.Checker).isState -/
noncomputable def fi90:FI:=fiOf Tryz.f90 [] [] [] false
theorem ok90:FnOk Tryz.prog drawOk 90 fi90:=.of Tryz.func90 (by kernel_rfl) (by kernel_rfl) (by kernel_rfl)
/-- impl.size[[]impl.Push] -/
noncomputable def fi91:FI:=fiOf Tryz.f91 [] [] [] false
theorem ok91:FnOk Tryz.prog drawOk 91 fi91:=.of Tryz.func91 (by kernel_rfl) (by kernel_rfl) (by kernel_rfl)
/-- impl.size[[][]int64] -/
noncomputable def fi92:FI:=fiOf Tryz.f92 [] [] [] false
theorem ok92:FnOk Tryz.prog drawOk 92 fi92:=.of Tryz.func92 (by kernel_rfl) (by kernel_rfl) (by kernel_rfl)
/-- impl.size[[]int64] -/
noncomputable def fi93:FI:=fiOf Tryz.f93 [] [] [] false
theorem ok93:FnOk Tryz.prog drawOk 93 fi93:=.of Tryz.func93 (by kernel_rfl) (by kernel_rfl) (by kernel_rfl)
/-- impl.ValidChecker$1 -/
noncomputable def fi94:FI:=fiOf Tryz.f94 [] [] [] false
theorem ok94:FnOk Tryz.prog drawOk 94 fi94:=.of Tryz.func94 (by kernel_rfl) (by kernel_rfl) (by kernel_rfl)
/-- impl.size[int64] -/
noncomputable def fi95:FI:=fiOf Tryz.f95 [] [] [] false 1
theorem ok95:FnOk Tryz.prog drawOk 95 fi95:=.of Tryz.func95 (by kernel_rfl) (by kernel_rfl) (by kernel_rfl)
/-- impl.ValidChecker$1$1 -/
noncomputable def fi96:FI:=fiOf Tryz.f96 [] [] [] false
theorem ok96:FnOk Tryz.prog drawOk 96 fi96:=.of Tryz.func96 (by kernel_rfl) (by kernel_rfl) (by kernel_rfl)
/-- (impl.Checker).isMark -/
noncomputable def fi97:FI:=fiOf Tryz.f97 [] [] [] false
theorem ok97:FnOk Tryz.prog drawOk 97 fi97:=.of Tryz.func97 (by kernel_rfl) (by kernel_rfl) (by kernel_rfl)
/-- slices.IndexFunc[[]string,string] -/
noncomputable def fi98:FI:=fiOf Tryz.f98 [] [] [] false
theorem ok98:FnOk Tryz.prog drawOk 98 fi98:=.of Tryz.func98 (by kernel_rfl) (by kernel_rfl) (by kernel_rfl)
/-- strings.IndexByte -/
noncomputable def fi99:FI:=fiOf Tryz.f99 [] [] [] false
theorem ok99:FnOk Tryz.prog drawOk 99 fi99:=.of Tryz.func99 (by kernel_rfl) (by kernel_rfl) (by kernel_rfl)
/-- slices.Sort[[]int64,int64] -/
noncomputable def fi104:FI:=fiOf Tryz.f104 [] [] [] false
theorem ok104:FnOk Tryz.prog drawOk 104 fi104:=.of Tryz.func104 (by kernel_rfl) (by kernel_rfl) (by kernel_rfl)
/-- (impl.Checker).end -/
noncomputable def fi105:FI:=fiOf Tryz.f105 [] [(5,1),(6,1)] [] false
theorem ok105:FnOk Tryz.prog drawOk 105 fi105:=.of Tryz.func105 (by kernel_rfl) (by kernel_rfl) (by kernel_rfl)
/-- slices.IndexFunc[[]int64,int64] -/
noncomputable def fi106:FI:=fiOf Tryz.f106 [] [] [] false
theorem ok106:FnOk Tryz.prog drawOk 106 fi106:=.of Tryz.func106 (by kernel_rfl) (by kernel_rfl) (by kernel_rfl)
/-- slices.Concat[[]int64,int64] -/
noncomputable def fi107:FI:=fiOf Tryz.f107 [31] [] [] false
theorem ok107:FnOk Tryz.prog drawOk 107 fi107:=.of Tryz.func107 (by kernel_rfl) (by kernel_rfl) (by kernel_rfl)
/-- laws.eqPush -/
noncomputable def fi108:FI:=fiOf Tryz.f108 [] [] [] false
theorem ok108:FnOk Tryz.prog drawOk 108 fi108:=.of Tryz.func108 (by kernel_rfl) (by kernel_rfl) (by kernel_rfl)
/-- spec.l02Go -/
noncomputable def fi109:FI:=fiOf Tryz.f109 [] [] [] false
theorem ok109:FnOk Tryz.prog drawOk 109 fi109:=.of Tryz.func109 (by kernel_rfl) (by kernel_rfl) (by kernel_rfl)
/-- internal/stringslite.IndexByte -/
noncomputable def fi110:FI:=fiOf Tryz.f110 [] [] [] false
theorem ok110:FnOk Tryz.prog drawOk 110 fi110:=.of Tryz.func110 (by kernel_rfl) (by kernel_rfl) (by kernel_rfl)
/-- slices.pdqsortOrdered[int64] -/
noncomputable def fi113:FI:=fiOf Tryz.f113 [] [] [] false
theorem ok113:FnOk Tryz.prog drawOk 113 fi113:=.of Tryz.func113 (by kernel_rfl) (by kernel_rfl) (by kernel_rfl)
/-- math/bits.Len -/
noncomputable def fi114:FI:=fiOf Tryz.f114 [] [] [] false
theorem ok114:FnOk Tryz.prog drawOk 114 fi114:=.of Tryz.func114 (by kernel_rfl) (by kernel_rfl) (by kernel_rfl)
/-- (impl.Checker).run -/
noncomputable def fi115:FI:=fiOf Tryz.f115 [] [] [] false
theorem ok115:FnOk Tryz.prog drawOk 115 fi115:=.of Tryz.func115 (by kernel_rfl) (by kernel_rfl) (by kernel_rfl)
/-- (impl.Checker).end$1 -/
noncomputable def fi116:FI:=fiOf Tryz.f116 [] [] [] false
theorem ok116:FnOk Tryz.prog drawOk 116 fi116:=.of Tryz.func116 (by kernel_rfl) (by kernel_rfl) (by kernel_rfl)
/-- slices.Grow[[]int64,int64] -/
noncomputable def fi117:FI:=fiOf Tryz.f117 [] [] [22] false
theorem ok117:FnOk Tryz.prog drawOk 117 fi117:=.of Tryz.func117 (by kernel_rfl) (by kernel_rfl) (by kernel_rfl)
/-- spec.l02Step -/
noncomputable def fi118:FI:=fiOf Tryz.f118 [] [] [] false
theorem ok118:FnOk Tryz.prog drawOk 118 fi118:=.of Tryz.func118 (by kernel_rfl) (by kernel_rfl) (by kernel_rfl)
/-- slices.insertionSortOrdered[int64] -/
noncomputable def fi122:FI:=fiOf Tryz.f122 [] [] [] false
theorem ok122:FnOk Tryz.prog drawOk 122 fi122:=.of Tryz.func122 (by kernel_rfl) (by kernel_rfl) (by kernel_rfl)
/-- slices.heapSortOrdered[int64] -/
noncomputable def fi123:FI:=fiOf Tryz.f123 [] [] [] false
theorem ok123:FnOk Tryz.prog drawOk 123 fi123:=.of Tryz.func123 (by kernel_rfl) (by kernel_rfl) (by kernel_rfl)
/-- slices.breakPatternsOrdered[int64] -/
noncomputable def fi124:FI:=fiOf Tryz.f124 [] [(7,1)] [] false
theorem ok124:FnOk Tryz.prog drawOk 124 fi124:=.of Tryz.func124 (by kernel_rfl) (by kernel_rfl) (by kernel_rfl)
/-- slices.choosePivotOrdered[int64] -/
noncomputable def fi125:FI:=fiOf Tryz.f125 [] [(9,1)] [] false
theorem ok125:FnOk Tryz.prog drawOk 125 fi125:=.of Tryz.func125 (by kernel_rfl) (by kernel_rfl) (by kernel_rfl)
/-- slices.reverseRangeOrdered[int64] -/
noncomputable def fi126:FI:=fiOf Tryz.f126 [] [] [] false
theorem ok126:FnOk Tryz.prog drawOk 126 fi126:=.of Tryz.func126 (by kernel_rfl) (by kernel_rfl) (by kernel_rfl)
/-- slices.partialInsertionSortOrdered[int64] -/
noncomputable def fi127:FI:=fiOf Tryz.f127 [] [] [] false
theorem ok127:FnOk Tryz.prog drawOk 127 fi127:=.of Tryz.func127 (by kernel_rfl) (by kernel_rfl) (by kernel_rfl)
/-- cmp.Less[int64] -/
noncomputable def fi128:FI:=fiOf Tryz.f128 [] [] [] false
theorem ok128:FnOk Tryz.prog drawOk 128 fi128:=.of Tryz.func128 (by kernel_rfl) (by kernel_rfl) (by kernel_rfl)
/-- slices.partitionEqualOrdered[int64] -/
noncomputable def fi129:FI:=fiOf Tryz.f129 [] [] [] false
theorem ok129:FnOk Tryz.prog drawOk 129 fi129:=.of Tryz.func129 (by kernel_rfl) (by kernel_rfl) (by kernel_rfl)
/-- slices.partitionOrdered[int64] -/
noncomputable def fi130:FI:=fiOf Tryz.f130 [] [] [] false
theorem ok130:FnOk Tryz.prog drawOk 130 fi130:=.of Tryz.func130 (by kernel_rfl) (by kernel_rfl) (by kernel_rfl)
/-- math/bits.Len32 -/
noncomputable def fi131:FI:=fiOf Tryz.f131 [] [] [] false
theorem ok131:FnOk Tryz.prog drawOk 131 fi131:=.of Tryz.func131 (by kernel_rfl) (by kernel_rfl) (by kernel_rfl)
/-- math/bits.Len64 -/
noncomputable def fi132:FI:=fiOf Tryz.f132 [] [] [] false
theorem ok132:FnOk Tryz.prog drawOk 132 fi132:=.of Tryz.func132 (by kernel_rfl) (by kernel_rfl) (by kernel_rfl)
/-- (impl.Checker).step -/
noncomputable def fi133:FI:=fiOf Tryz.f133 [] [] [] false
theorem ok133:FnOk Tryz.prog drawOk 133 fi133:=.of Tryz.func133 (by kernel_rfl) (by kernel_rfl) (by kernel_rfl)
/-- slices.siftDownOrdered[int64] -/
noncomputable def fi134:FI:=fiOf Tryz.f134 [] [] [] false
theorem ok134:FnOk Tryz.prog drawOk 134 fi134:=.of Tryz.func134 (by kernel_rfl) (by kernel_rfl) (by kernel_rfl)
/-- slices.nextPowerOfTwo -/
noncomputable def fi135:FI:=fiOf Tryz.f135 [] [] [] false
theorem ok135:FnOk Tryz.prog drawOk 135 fi135:=.of Tryz.func135 (by kernel_rfl) (by kernel_rfl) (by kernel_rfl)
/-- (*slices.xorshift).Next -/
noncomputable def fi136:FI:=fiOf Tryz.f136 [] [] [] false
theorem ok136:FnOk Tryz.prog drawOk 136 fi136:=.of Tryz.func136 (by kernel_rfl) (by kernel_rfl) (by kernel_rfl)
/-- slices.medianAdjacentOrdered[int64] -/
noncomputable def fi137:FI:=fiOf Tryz.f137 [] [] [] false
theorem ok137:FnOk Tryz.prog drawOk 137 fi137:=.of Tryz.func137 (by kernel_rfl) (by kernel_rfl) (by kernel_rfl)
/-- slices.medianOrdered[int64] -/
noncomputable def fi138:FI:=fiOf Tryz.f138 [] [] [] false
theorem ok138:FnOk Tryz.prog drawOk 138 fi138:=.of Tryz.func138 (by kernel_rfl) (by kernel_rfl) (by kernel_rfl)
/-- cmp.isNaN[int64] -/
noncomputable def fi139:FI:=fiOf Tryz.f139 [] [] [] false
theorem ok139:FnOk Tryz.prog drawOk 139 fi139:=.of Tryz.func139 (by kernel_rfl) (by kernel_rfl) (by kernel_rfl)
/-- impl.kindOf -/
noncomputable def fi140:FI:=fiOf Tryz.f140 [] [] [] false
theorem ok140:FnOk Tryz.prog drawOk 140 fi140:=.of Tryz.func140 (by kernel_rfl) (by kernel_rfl) (by kernel_rfl)
/-- impl.isCall -/
noncomputable def fi141:FI:=fiOf Tryz.f141 [] [] [] false
theorem ok141:FnOk Tryz.prog drawOk 141 fi141:=.of Tryz.func141 (by kernel_rfl) (by kernel_rfl) (by kernel_rfl)
/-- impl.isInner -/
noncomputable def fi142:FI:=fiOf Tryz.f142 [] [] [] false
theorem ok142:FnOk Tryz.prog drawOk 142 fi142:=.of Tryz.func142 (by kernel_rfl) (by kernel_rfl) (by kernel_rfl)
/-- slices.order2Ordered[int64] -/
noncomputable def fi143:FI:=fiOf Tryz.f143 [] [] [] false
theorem ok143:FnOk Tryz.prog drawOk 143 fi143:=.of Tryz.func143 (by kernel_rfl) (by kernel_rfl) (by kernel_rfl)
noncomputable def fnT:Tree FI:=.node (.node (.node (.node (.node (.node (.node (.leaf) 3 fi3 (.leaf)) 4 fi4 (.node (.leaf) 5 fi5 (.leaf))) 6 fi6 (.node (.node (.leaf) 7 fi7 (.leaf)) 8 fi8 (.node (.leaf) 9 fi9 (.leaf)))) 10 fi10 (.node (.node (.node (.leaf) 11 fi11 (.leaf)) 12 fi12 (.node (.leaf) 13 fi13 (.leaf))) 14 fi14 (.node (.node (.leaf) 16 fi16 (.leaf)) 17 fi17 (.node (.leaf) 18 fi18 (.leaf))))) 19 fi19 (.node (.node (.node (.node (.leaf) 20 fi20 (.leaf)) 23 fi23 (.node (.leaf) 24 fi24 (.leaf))) 25 fi25 (.node (.node (.leaf) 26 fi26 (.leaf)) 27 fi27 (.node (.leaf) 28 fi28 (.leaf)))) 29 fi29 (.node (.node (.node (.leaf) 30 fi30 (.leaf)) 31 fi31 (.node (.leaf) 33 fi33 (.leaf))) 34 fi34 (.node (.node (.leaf) 35 fi35 (.leaf)) 36 fi36 (.leaf))))) 37 fi37 (.node (.node (.node (.node (.node (.leaf) 38 fi38 (.leaf)) 39 fi39 (.node (.leaf) 40 fi40 (.leaf))) 41 fi41 (.node (.node (.leaf) 42 fi42 (.leaf)) 43 fi43 (.node (.leaf) 46 fi46 (.leaf)))) 47 fi47 (.node (.node (.node (.leaf) 48 fi48 (.leaf)) 49 fi49 (.node (.leaf) 50 fi50 (.leaf))) 51 fi51 (.node (.node (.leaf) 52 fi52 (.leaf)) 53 fi53 (.node (.leaf) 54 fi54 (.leaf))))) 55 fi55 (.node (.node (.node (.node (.leaf) 56 fi56 (.leaf)) 57 fi57 (.node (.leaf) 58 fi58 (.leaf))) 59 fi59 (.node (.node (.leaf) 60 fi60 (.leaf)) 61 fi61 (.node (.leaf) 62 fi62 (.leaf)))) 63 fi63 (.node (.node (.node (.leaf) 64 fi64 (.leaf)) 65 fi65 (.node (.leaf) 66 fi66 (.leaf))) 67 fi67 (.node (.node (.leaf) 68 fi68 (.leaf)) 69 fi69 (.leaf)))))) 71 fi71 (.node (.node (.node (.node (.node (.node (.leaf) 72 fi72 (.leaf)) 74 fi74 (.node (.leaf) 75 fi75 (.leaf))) 77 fi77 (.node (.node (.leaf) 78 fi78 (.leaf)) 79 fi79 (.node (.leaf) 80 fi80 (.leaf)))) 81 fi81 (.node (.node (.node (.leaf) 82 fi82 (.leaf)) 83 fi83 (.node (.leaf) 84 fi84 (.leaf))) 85 fi85 (.node (.node (.leaf) 86 fi86 (.leaf)) 87 fi87 (.node (.leaf) 88 fi88 (.leaf))))) 89 fi89 (.node (.node (.node (.node (.leaf) 90 fi90 (.leaf)) 91 fi91 (.node (.leaf) 92 fi92 (.leaf))) 93 fi93 (.node (.node (.leaf) 94 fi94 (.leaf)) 95 fi95 (.node (.leaf) 96 fi96 (.leaf)))) 97 fi97 (.node (.node (.node (.leaf) 98 fi98 (.leaf)) 99 fi99 (.node (.leaf) 104 fi104 (.leaf))) 105 fi105 (.node (.node (.leaf) 106 fi106 (.leaf)) 107 fi107 (.leaf))))) 108 fi108 (.node (.node (.node (.node (.node (.leaf) 109 fi109 (.leaf)) 110 fi110 (.node (.leaf) 113 fi113 (.leaf))) 114 fi114 (.node (.node (.leaf) 115 fi115 (.leaf)) 116 fi116 (.node (.leaf) 117 fi117 (.leaf)))) 118 fi118 (.node (.node (.node (.leaf) 122 fi122 (.leaf)) 123 fi123 (.node (.leaf) 124 fi124 (.leaf))) 125 fi125 (.node (.node (.leaf) 126 fi126 (.leaf)) 127 fi127 (.node (.leaf) 128 fi128 (.leaf))))) 129 fi129 (.node (.node (.node (.node (.leaf) 130 fi130 (.leaf)) 131 fi131 (.node (.leaf) 132 fi132 (.leaf))) 133 fi133 (.node (.node (.leaf) 134 fi134 (.leaf)) 135 fi135 (.node (.leaf) 136 fi136 (.leaf)))) 137 fi137 (.node (.node (.node (.leaf) 138 fi138 (.leaf)) 139 fi139 (.node (.leaf) 140 fi140 (.leaf))) 141 fi141 (.node (.node (.leaf) 142 fi142 (.leaf)) 143 fi143 (.leaf))))))
theorem fnOk:fnT.Each (FnOk Tryz.prog drawOk):=⟨ok71,⟨ok37,⟨ok19,⟨ok10,⟨ok6,⟨ok4,⟨ok3,trivial,trivial⟩,⟨ok5,trivial,trivial⟩⟩,⟨ok8,⟨ok7,trivial,trivial⟩,⟨ok9,trivial,trivial⟩⟩⟩,⟨ok14,⟨ok12,⟨ok11,trivial,trivial⟩,⟨ok13,trivial,trivial⟩⟩,⟨ok17,⟨ok16,trivial,trivial⟩,⟨ok18,trivial,trivial⟩⟩⟩⟩,⟨ok29,⟨ok25,⟨ok23,⟨ok20,trivial,trivial⟩,⟨ok24,trivial,trivial⟩⟩,⟨ok27,⟨ok26,trivial,trivial⟩,⟨ok28,trivial,trivial⟩⟩⟩,⟨ok34,⟨ok31,⟨ok30,trivial,trivial⟩,⟨ok33,trivial,trivial⟩⟩,⟨ok36,⟨ok35,trivial,trivial⟩,trivial⟩⟩⟩⟩,⟨ok55,⟨ok47,⟨ok41,⟨ok39,⟨ok38,trivial,trivial⟩,⟨ok40,trivial,trivial⟩⟩,⟨ok43,⟨ok42,trivial,trivial⟩,⟨ok46,trivial,trivial⟩⟩⟩,⟨ok51,⟨ok49,⟨ok48,trivial,trivial⟩,⟨ok50,trivial,trivial⟩⟩,⟨ok53,⟨ok52,trivial,trivial⟩,⟨ok54,trivial,trivial⟩⟩⟩⟩,⟨ok63,⟨ok59,⟨ok57,⟨ok56,trivial,trivial⟩,⟨ok58,trivial,trivial⟩⟩,⟨ok61,⟨ok60,trivial,trivial⟩,⟨ok62,trivial,trivial⟩⟩⟩,⟨ok67,⟨ok65,⟨ok64,trivial,trivial⟩,⟨ok66,trivial,trivial⟩⟩,⟨ok69,⟨ok68,trivial,trivial⟩,trivial⟩⟩⟩⟩⟩,⟨ok108,⟨ok89,⟨ok81,⟨ok77,⟨ok74,⟨ok72,trivial,trivial⟩,⟨ok75,trivial,trivial⟩⟩,⟨ok79,⟨ok78,trivial,trivial⟩,⟨ok80,trivial,trivial⟩⟩⟩,⟨ok85,⟨ok83,⟨ok82,trivial,trivial⟩,⟨ok84,trivial,trivial⟩⟩,⟨ok87,⟨ok86,trivial,trivial⟩,⟨ok88,trivial,trivial⟩⟩⟩⟩,⟨ok97,⟨ok93,⟨ok91,⟨ok90,trivial,trivial⟩,⟨ok92,trivial,trivial⟩⟩,⟨ok95,⟨ok94,trivial,trivial⟩,⟨ok96,trivial,trivial⟩⟩⟩,⟨ok105,⟨ok99,⟨ok98,trivial,trivial⟩,⟨ok104,trivial,trivial⟩⟩,⟨ok107,⟨ok106,trivial,trivial⟩,trivial⟩⟩⟩⟩,⟨ok129,⟨ok118,⟨ok114,⟨ok110,⟨ok109,trivial,trivial⟩,⟨ok113,trivial,trivial⟩⟩,⟨ok116,⟨ok115,trivial,trivial⟩,⟨ok117,trivial,trivial⟩⟩⟩,⟨ok125,⟨ok123,⟨ok122,trivial,trivial⟩,⟨ok124,trivial,trivial⟩⟩,⟨ok127,⟨ok126,trivial,trivial⟩,⟨ok128,trivial,trivial⟩⟩⟩⟩,⟨ok137,⟨ok133,⟨ok131,⟨ok130,trivial,trivial⟩,⟨ok132,trivial,trivial⟩⟩,⟨ok135,⟨ok134,trivial,trivial⟩,⟨ok136,trivial,trivial⟩⟩⟩,⟨ok141,⟨ok139,⟨ok138,trivial,trivial⟩,⟨ok140,trivial,trivial⟩⟩,⟨ok143,⟨ok142,trivial,trivial⟩,trivial⟩⟩⟩⟩⟩⟩
/-- spec.l08Play -/
noncomputable def fiK15:FI:=fiOf Tryz.f15 [] [] [26] true 0 [10]
theorem okK15:FnOk Tryz.prog drawOk 15 fiK15:=.of Tryz.func15 (by kernel_rfl) (by kernel_rfl) (by kernel_rfl)
/-- impl.after -/
noncomputable def fiK21:FI:=fiOf Tryz.f21 [] [] [] true 0 [11,20]
theorem okK21:FnOk Tryz.prog drawOk 21 fiK21:=.of Tryz.func21 (by kernel_rfl) (by kernel_rfl) (by kernel_rfl)
/-- (*impl.works).verdict -/
noncomputable def fiK22:FI:=fiOf Tryz.f22 [] [] [] true 0 [] [] [] [3]
theorem okK22:FnOk Tryz.prog drawOk 22 fiK22:=.of Tryz.func22 (by kernel_rfl) (by kernel_rfl) (by kernel_rfl)
/-- spec.l08Begin -/
noncomputable def fiK32:FI:=fiOf Tryz.f32 [] [(15,1)] [] true
theorem okK32:FnOk Tryz.prog drawOk 32 fiK32:=.of Tryz.func32 (by kernel_rfl) (by kernel_rfl) (by kernel_rfl)
/-- impl.newWorks -/
noncomputable def fiK44:FI:=fiOf Tryz.f44 [] [(13,1)] [] true
theorem okK44:FnOk Tryz.prog drawOk 44 fiK44:=.of Tryz.func44 (by kernel_rfl) (by kernel_rfl) (by kernel_rfl)
/-- (*impl.works).do -/
noncomputable def fiK45:FI:=fiOf Tryz.f45 [] [] [98] true 0 [49,110,122] [] [40] [9,23,36,38,54,56,60,84,91,93]
theorem okK45:FnOk Tryz.prog drawOk 45 fiK45:=.of Tryz.func45 (by kernel_rfl) (by kernel_rfl) (by kernel_rfl)
/-- (impl.Desk).copied -/
noncomputable def fiK73:FI:=fiOf Tryz.f73 [] [] [] true 0 [] [] [12] [4,6,8,11]
theorem okK73:FnOk Tryz.prog drawOk 73 fiK73:=.of Tryz.func73 (by kernel_rfl) (by kernel_rfl) (by kernel_rfl)
/-- (*impl.works).comeIn -/
noncomputable def fiK76:FI:=fiOf Tryz.f76 [] [] [43,110] true
theorem okK76:FnOk Tryz.prog drawOk 76 fiK76:=.of Tryz.func76 (by kernel_rfl) (by kernel_rfl) (by kernel_rfl)
noncomputable def fnKT:Tree FI:=.node (.node (.node (.node (.leaf) 15 fiK15 (.leaf)) 21 fiK21 (.leaf)) 22 fiK22 (.node (.leaf) 32 fiK32 (.leaf))) 44 fiK44 (.node (.node (.leaf) 45 fiK45 (.leaf)) 73 fiK73 (.node (.leaf) 76 fiK76 (.leaf)))
theorem fnKOk:fnKT.Each (FnOk Tryz.prog drawOk):=⟨okK44,⟨okK22,⟨okK21,⟨okK15,trivial,trivial⟩,trivial⟩,⟨okK32,trivial,trivial⟩⟩,⟨okK73,⟨okK45,trivial,trivial⟩,⟨okK76,trivial,trivial⟩⟩⟩
end Go.Proofs.YtmahhacghgkigaaGreat.law
