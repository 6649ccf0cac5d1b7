import Derived.Orders
import Derived.Below
import Derived.WalkKit
import Derived.Deep.AppendSrc
set_option linter.unusedVariables false
set_option linter.unusedSimpArgs false
namespace Ae
open Go

inductive AV where
 | undef
 | bool (b:Bool) | int (k:IntKind) (n:Int) | str (s:List UInt8)
 | nilp | ptr (b off:Nat) | eptr (cells:List AV) (off:Nat)
 | sl (sz:Nat) (full:Bool) (els:List AV)
 | ms (ag:Bool) (sz b off len:Nat)
 | agg (cells:List AV) | tup (vs:List AV)
 | fn (g:Nat) (cap:List AV) | nilfn
 | pend (sz:Nat)
 deriving Inhabited

def AV.cells:AV→List AV
 | .agg cs=>cs
 | v=>[v]

def AV.one:AV→Bool
 | .agg _ | .tup _ | .undef | .pend _=>false
 | _=>true

structure Env where
 w:World
 pr:Nat→Nat
 μ:Nat→Nat
 n:Nat
 cp:Nat→Nat × Nat

abbrev Env.sz (E:Env) (b:Nat):Nat:=(E.cp b).1
abbrev Env.off (E:Env) (b:Nat):Nat:=(E.cp b).2

inductive V (E:Env):AV→Value→Prop
 | undef (v:Value):V E .undef v
 | bool (b:Bool):V E (.bool b) (.bool b)
 | int (k:IntKind) (n:Int):V E (.int k n) (.int k n)
 | str (s:ByteArray):V E (.str s.data.toList) (.string s)
 | nilp:V E .nilp (.pointer none)
 | ptr (b off:Nat) (h:b<E.n):V E (.ptr b off) (.pointer (some ⟨E.μ b,E.off b+off,none⟩))
 | eptr (cells:List AV) (off g o:Nat) (vals:Nat→Value)
   (h0:∀ (j:Nat) c,cells[j]?=some c→c.one=true)
   (h1:∀ (j:Nat) c,cells[j]?=some c→o+j<E.pr g)
   (h2:∀ (j:Nat) c,cells[j]?=some c→E.w.cell? ⟨g,o+j,none⟩=some (vals j))
   (h3:∀ (j:Nat) c,cells[j]?=some c→V E c (vals j)):V E (.eptr cells off) (.pointer (some ⟨g,o+off,none⟩))
 | slNil (sz:Nat) (f:Bool) (A:Option Addr):V E (.sl sz f []) (.slice A 0 0)
 | sl (sz:Nat) (f:Bool) (els:List AV) (g o cap:Nat) (vals:Nat→Nat→Value)
   (hc:els.length≤cap) (hf:f=true→cap=els.length)
   (hz:∀ (i:Nat) el,els[i]?=some el→el.cells.length=sz)
   (h0:∀ (i:Nat) el (j:Nat) c,els[i]?=some el→el.cells[j]?=some c→c.one=true)
   (h1:∀ (i:Nat) el (j:Nat) c,els[i]?=some el→el.cells[j]?=some c→o+i*sz+j<E.pr g)
   (h2:∀ (i:Nat) el (j:Nat) c,els[i]?=some el→el.cells[j]?=some c→E.w.cell? ⟨g,o+i*sz+j,none⟩=some (vals i j))
   (h3:∀ (i:Nat) el (j:Nat) c,els[i]?=some el→el.cells[j]?=some c→V E c (vals i j)) :
   V E (.sl sz f els) (.slice (some ⟨g,o,none⟩) els.length cap)
 | ms (ag:Bool) (sz b off len cap:Nat) (h:b<E.n) (hc:len≤cap) (hp:E.off b+off+cap*sz≤E.sz b):V E (.ms ag sz b off len) (.slice (some ⟨E.μ b,E.off b+off,none⟩) len cap)
 | msE (ag:Bool) (sz b off:Nat) (A:Option Addr) (h:b<E.n) (hA:∀ x,A=some x→x.spot=none):V E (.ms ag sz b off 0) (.slice A 0 0)
 | agg (cs:List AV) (vs:Array Value) (hl:cs.length=vs.size)
   (h0:∀ (i:Nat) c,cs[i]?=some c→c.one=true)
   (h:∀ (i:Nat) c v,cs[i]?=some c→vs[i]?=some v→V E c v):V E (.agg cs) (.agg vs)
 | tup (cs:List AV) (vs:Array Value) (hl:cs.length=vs.size)
   (h:∀ (i:Nat) c v,cs[i]?=some c→vs[i]?=some v→V E c v):V E (.tup cs) (.tuple vs)
 | fn (g:Nat) (cs:List AV) (vs:Array Value) (hl:cs.length=vs.size)
   (h:∀ (i:Nat) c v,cs[i]?=some c→vs[i]?=some v→V E c v):V E (.fn g cs) (.func (.func g) #[] vs)
 | nilfn:V E .nilfn .nilFunc
 | pend (sz g:Nat):V E (.pend sz) (.pointer (some ⟨g,0,none⟩))

structure Env.le (E E':Env):Prop where
 n:E.n≤E'.n
 μ:∀ b,b<E.n→E'.μ b=E.μ b
 pr:∀ g,E.pr g≤E'.pr g
 cell:∀ g o,o<E.pr g→E'.w.cell? ⟨g,o,none⟩=E.w.cell? ⟨g,o,none⟩
 cp:∀ b,b<E.n→E'.cp b=E.cp b

theorem Env.le.refl (E:Env):E.le E:=⟨Nat.le_refl _,fun _ _=>rfl,fun _=>Nat.le_refl _,fun _ _ _=>rfl,fun _ _=>rfl⟩
theorem Env.le.trans {A B D:Env} (h:A.le B) (k:B.le D):A.le D :=
 ⟨Nat.le_trans h.n k.n,fun b hb=>(k.μ b (Nat.lt_of_lt_of_le hb h.n)).trans (h.μ b hb),fun g=>Nat.le_trans (h.pr g) (k.pr g),
  fun g o ho=>(k.cell g o (Nat.lt_of_lt_of_le ho (h.pr g))).trans (h.cell g o ho),fun b hb=>(k.cp b (Nat.lt_of_lt_of_le hb h.n)).trans (h.cp b hb)⟩

theorem Env.le.off {E E':Env} (h:E.le E') {b:Nat} (hb:b<E.n):E'.off b=E.off b:=by unfold Env.off; rw[h.cp b hb]
theorem Env.le.sz {E E':Env} (h:E.le E') {b:Nat} (hb:b<E.n):E'.sz b=E.sz b:=by unfold Env.sz; rw[h.cp b hb]

theorem V.le {E E':Env} (hE:E.le E') {a:AV} {v:Value} (h:V E a v):V E' a v:=by
 induction h with
 | undef v=>exact .undef v
 | bool b=>exact .bool b
 | int k n=>exact .int k n
 | str s=>exact .str s
 | nilp=>exact .nilp
 | ptr b off h=>rw[← hE.μ b h,← hE.off h]; exact .ptr b off (Nat.lt_of_lt_of_le h hE.n)
 | eptr cells off g o vals h0 h1 h2 h3 ih =>
  exact .eptr cells off g o vals h0 (fun j c hc=>Nat.lt_of_lt_of_le (h1 j c hc) (hE.pr g)) (fun j c hc=>(hE.cell _ _ (h1 j c hc)).trans (h2 j c hc)) ih
 | slNil sz f A=>exact .slNil sz f A
 | sl sz f els g o cap vals hc hf hz h0 h1 h2 h3 ih =>
  exact .sl sz f els g o cap vals hc hf hz h0 (fun i el j c a b=>Nat.lt_of_lt_of_le (h1 i el j c a b) (hE.pr g)) (fun i el j c a b=>(hE.cell _ _ (h1 i el j c a b)).trans (h2 i el j c a b)) ih
 | ms ag sz b off len cap h hc hp=>rw[← hE.μ b h,← hE.off h]; exact .ms ag sz b off len cap (Nat.lt_of_lt_of_le h hE.n) hc (by rw[hE.sz h,hE.off h]; exact hp)
 | msE ag sz b off A h hA=>exact .msE ag sz b off A (Nat.lt_of_lt_of_le h hE.n) hA
 | agg cs vs hl h0 h ih=>exact .agg cs vs hl h0 ih
 | tup cs vs hl h ih=>exact .tup cs vs hl ih
 | fn g cs vs hl h ih=>exact .fn g cs vs hl ih
 | nilfn=>exact .nilfn
 | pend sz g=>exact .pend sz g

def isOne:Value→Bool
 | .agg _ | .tuple _=>false
 | _=>true

theorem V.one {E:Env} {a:AV} {v:Value} (h:V E a v) (ha:a.one=true):isOne v=true:=by
 cases h<;>first | rfl | (simp[AV.one] at ha)

theorem cells_one {v:Value} (h:isOne v=true):v.cells=#[v]:=by
 cases v<;>first | rfl | (simp[isOne] at h)

theorem AV.cells_one {a:AV} (h:a.one=true):a.cells=[a]:=by
 cases a<;>first | rfl | (simp[AV.one] at h)

theorem V.cells {E:Env} {a:AV} {v:Value} (h:V E a v) (ha:a.one=true∨∃ cs,a=.agg cs) :
  a.cells.length=v.cells.size∧(∀ (i:Nat) c,a.cells[i]?=some c→c.one=true)∧∀ (i:Nat) c x,a.cells[i]?=some c→v.cells[i]?=some x→V E c x:=by
 rcases ha with ha | ⟨cs,rfl⟩
 ·rw[AV.cells_one ha,Ae.cells_one (h.one ha)]
  refine ⟨rfl,?_,?_⟩
  ·intro i c hc
   cases i with
   | zero=>simp at hc; subst hc; exact ha
   | succ i=>simp at hc
  ·intro i c x hc hx
   cases i with
   | zero=>simp at hc hx; subst hc; subst hx; exact h
   | succ i=>simp at hc
 ·cases h with
  | agg cs vs hl h0 h=>exact ⟨hl,h0,h⟩

end Ae
namespace Ae
open Go

mutual
def AV.pureB (n:Nat):AV→Bool
 | .ptr b _=>decide (b<n)
 | .ms _ _ b _ _=>decide (b<n)
 | .eptr cs _=>AV.pureL n cs
 | .sl _ _ els=>AV.pureL n els
 | .agg cs=>AV.pureL n cs
 | .tup cs=>AV.pureL n cs
 | .fn _ cs=>AV.pureL n cs
 | _=>true
def AV.pureL (n:Nat):List AV→Bool
 | []=>true
 | a::l=>AV.pureB n a&&AV.pureL n l
end

inductive UK where
 | int (k:IntKind) | bool | str | slice (elem:Nat) | struct (fs:List (Nat × Nat)) | array (len elem:Nat) | ptr | func | other

structure TI where
 u:UK
 size:Nat
 bytes:Nat
 zero:AV

def TI.isAgg (t:TI):Bool:=match t.u with | .struct _ | .array _ _=>true | _=>false

structure FI where
 body:Code
 nt:Nat
 res:List ResultVar
 mv:List Nat
 bk:List (Nat × Nat)
 dy:List Nat
 keep:Bool
 rd:Nat
 al:List Nat
 fz:List (Nat × Nat)
 ef:List Nat:=[]
 im:List Nat:=[]   -- loads of what is fixed

structure St where
 n:Nat
 h:Nat→Option (List AV)
 ow:Nat→Nat→Bool
 ro:Nat
 lo:Nat

structure Cfg where
 fn:Nat→Option FI
 fnK:Nat→Option FI:=fun _=>none
 ty:Nat→Option TI
 ext:Nat→Option (List AV→St→Option (AV × Bool × St))
 tab:List (Nat × List Value):=[]

def pureX (φ:List AV→Option (AV × Bool)):List AV→St→Option (AV × Bool × St):=fun args s=>(φ args).map fun p=>(p.1,p.2,s)

structure Fr where
 tm:Nat→AV
 os:Nat→Bool
 s:St

def upd {α:Type} (f:Nat→α) (i:Nat) (c:α):Nat→α:=fun j=>if j=i then c else f j

def LIM:Nat:=549755813888

def evalO (tm:Nat→AV):Operand→AV
 | .tmp t=>tm t
 | .const (.int k n)=>.int k n
 | .const (.bool b)=>.bool b
 | .const (.string s)=>.str s.data.toList
 | .const (.pointer none)=>.nilp
 | .const (.slice none 0 0)=>.sl 0 true []
 | .const .nilFunc=>.nilfn
 | .func f=>.fn f []
 | _=>.undef

def Fr.put (f:Fr) (d:Option Nat) (v:AV) (o:Bool):Fr :=
 match d with
 | some d=>{ f with tm:=upd f.tm d v,os:=upd f.os d o }
 | none=>f

def idx (i:Int) (n:Nat):Option Nat:=if 0≤i∧i<n then some i.toNat else none

def bitsI (k:IntKind) (f:BitVec k.bits→BitVec k.bits→BitVec k.bits) (a b:Int):AV :=
 .int k (k.wrap (f (BitVec.ofInt k.bits a) (BitVec.ofInt k.bits b)).toNat)

def binI (op:BinOp) (k:IntKind) (a b:Int):Option AV :=
 match op with
 | .add=>some (.int k (k.wrap (a+b)))
 | .sub=>some (.int k (k.wrap (a - b)))
 | .mul=>some (.int k (k.wrap (a*b)))
 | .quo=>if b=0 then none else some (.int k (k.wrap (a.tdiv b)))
 | .rem=>if b=0 then none else some (.int k (a.tmod b))
 | .and=>some (bitsI k (· &&& ·) a b)
 | .or=>some (bitsI k (· ||| ·) a b)
 | .xor=>some (bitsI k (· ^^^ ·) a b)
 | .andNot=>some (bitsI k (fun x y=>x &&& ~~~y) a b)
 | .eql=>some (.bool (a == b))
 | .neq=>some (.bool (a != b))
 | .lss=>some (.bool (decide (a<b)))
 | .leq=>some (.bool (decide (a≤b)))
 | .gtr=>some (.bool (decide (a>b)))
 | .geq=>some (.bool (decide (a≥b)))
 | _=>none

def shiftI (op:BinOp) (k:IntKind) (a b:Int):Option AV :=
 if b<0 then none else
 match op with
 | .shl=>some (.int k (k.wrap (a*2 ^ min b.toNat k.bits)))
 | .shr=>some (.int k (a.fdiv (2 ^ min b.toNat k.bits)))
 | _=>none

def strA (op:BinOp) (a b:List UInt8):Option AV :=
 match op with
 | .add=>if a.length+b.length≤LIM then some (.str (a++b)) else none
 | .eql=>some (.bool (a == b))
 | .neq=>some (.bool !(a == b))
 | .lss=>some (.bool (Op.bytesLess a b))
 | .leq=>some (.bool (Op.bytesLess a b||a == b))
 | .gtr=>some (.bool !(Op.bytesLess a b||a == b))
 | .geq=>some (.bool !(Op.bytesLess a b))
 | _=>none

def isShift:BinOp→Bool
 | .shl | .shr=>true
 | _=>false

def eqOp:BinOp→Option Bool
 | .eql=>some true
 | .neq=>some false
 | _=>none

def nilEq:AV→AV→Option Bool
 | .nilp,.nilp=>some true
 | .nilp,.ptr .. | .nilp,.eptr .. | .ptr ..,.nilp | .eptr ..,.nilp=>some false
 | _,_=>none

def nilEqF:AV→AV→Option Bool
 | .nilfn,.nilfn=>some true
 | .nilfn,.fn .. | .fn ..,.nilfn=>some false
 | _,_=>none

def binA (C:Cfg) (op:BinOp) (t:Nat) (x y:AV):Option AV :=
 match x,y with
 | .int k a,.int k' b=>if isShift op then shiftI op k a b else if k=k' then binI op k a b else none
 | .str a,.str b=>strA op a b
 | .bool a,.bool b =>
  match C.ty t,eqOp op with
  | some ⟨.bool,_,_,_⟩,some e=>some (.bool (if e then a == b else !(a == b)))
  | _,_=>none
 | x,y =>
  match C.ty t,eqOp op with
  | some ⟨.ptr,_,_,_⟩,some e=>(nilEq x y).map fun r=>.bool (if e then r else !r)
  | some ⟨.func,_,_,_⟩,some e=>(nilEqF x y).map fun r=>.bool (if e then r else !r)
  | _,_=>none

def unA (op:UnOp) (x:AV):Option AV :=
 match op,x with
 | .not,.bool b=>some (.bool !b)
 | .neg,.int k n=>some (.int k (k.wrap (0 - n)))
 | .xor,.int k n=>some (bitsI k (· ^^^ ·) (if k.signed then -1 else k.max) n)
 | _,_=>none

def layable:AV→Bool
 | .agg cs=>cs.all AV.one
 | v=>v.one

def part (t:TI) (cs:List AV) (off:Nat):Option AV :=
 if t.isAgg then if off+t.size≤cs.length then some (.agg ((cs.drop off).take t.size)) else none
 else cs[off]?

def over (cs:List AV) (off:Nat) (new:List AV):List AV:=cs.take off++new++cs.drop (off+new.length)

def chunk (sz:Nat) (agg:Bool) (cs:List AV):Nat→List AV
 | 0=>[]
 | n+1=>(if agg then .agg (cs.take sz) else cs.headD .undef)::chunk sz agg (cs.drop sz) n

def fillA (place:Nat→Option (Nat × Nat)) (cs:List AV):List (Nat × AV)→Option (List AV)
 | []=>some cs
 | (i,v)::rest =>
  match place i with
  | none=>none
  | some (off,size) =>
   if layable v&&decide (v.cells.length=size)&&decide (off+size≤cs.length) then fillA place (over cs off v.cells) rest else none

def buildA (C:Cfg) (t:Nat) (parts:List (Nat × AV)):Option AV :=
 match C.ty t with
 | some ⟨.struct fs,_,_,z⟩ =>
  if layable z&&fs.all fun p=>(C.ty p.2).isSome then
   (fillA (fun i=>(fs[i]?).bind fun p=>(C.ty p.2).map fun ti=>(p.1,ti.size)) z.cells parts).map .agg
  else none
 | some ⟨.array _ e,_,_,z⟩ =>
  match C.ty e with
  | some ei=>if layable z then (fillA (fun i=>some (i*ei.size,ei.size)) z.cells parts).map .agg else none
  | none=>none
 | _=>none

def elsA (ei:TI):Nat→Nat→List (Nat × AV)→Option (List AV)
 | _,0,[]=>some []
 | i,n+1,(j,v)::rest =>
  if j=i then if layable v&&decide (v.cells.length=ei.size) then (elsA ei (i+1) n rest).map (v::·) else none else none
 | _,_,_=>none

def lookBk (l:List (Nat × Nat)) (t:Nat):Option Nat:=(l.find? fun p=>p.1 == t).map (·.2)

def St.push (s:St) (cs:List AV):St:={ s with n:=s.n+1,h:=upd s.h s.n (some cs),ow:=upd s.ow s.n (fun _=>false) }

def St.kill (s:St) (b:Nat):St:={ s with h:=upd s.h b none }

def St.setBox (s:St) (b:Nat) (cs:List AV) (fl:Nat→Bool):St:={ s with h:=upd s.h b (some cs),ow:=upd s.ow b fl }

def bnd (x:AV) (lim:Nat):Option Nat :=
 match x with
 | .int _ i=>if 0≤i∧i≤lim then some i.toNat else none
 | _=>none

def bndO (x:Option AV) (lim d:Nat):Option Nat :=
 match x with
 | some x=>bnd x lim
 | none=>some d

def sliceA (sz:Nat) (f:Bool) (els:List AV) (lo hi mx:Option AV):Option AV :=
 match mx with
 | none=>(bndO hi els.length els.length).bind fun h=>(bndO lo h 0).map fun l=>.sl sz (f&&decide (h=els.length)) ((els.drop l).take (h - l))
 | some m =>
  match hi with
  | none=>none
  | some hi=>(bnd m els.length).bind fun m=>(bnd hi m).bind fun h=>(bndO lo h 0).map fun l=>.sl sz (decide (m=h)) ((els.drop l).take (h - l))

def strSliceA (s:List UInt8) (lo hi:Option AV):Option AV :=
 (bndO hi s.length s.length).bind fun h=>(bndO lo h 0).map fun l=>.str ((s.drop l).take (h - l))

def bytesA:List AV→Option (List UInt8)
 | []=>some []
 | .int .u8 n::l=>(bytesA l).map (UInt8.ofNat n.toNat::·)
 | _=>none
def bytesStr (sz:Nat) (els:List AV):Option AV:=if sz=1∨els=[] then (bytesA els).map .str else none

def nilSl (C:Cfg) (op:BinOp) (t:Nat) (x:AV) (y:Operand):Option AV :=
 match y,C.ty t,eqOp op,x with
 | .const (.slice none 0 0),some ⟨.slice _,_,_,_⟩,some e,.sl _ _ (_::_)=>some (.bool !e)
 | _,_,_,_=>none
def pureOp (C:Cfg) (o:Oper) (tm:Nat→AV):Option AV :=
 match o.op with
 | .move x | .assign x=>some (evalO tm x)
 | .pick c a b=>match evalO tm c with | .bool t=>some (if t then evalO tm a else evalO tm b) | _=>none
 | .binOp op t x y _=>match nilSl C op t (evalO tm x) y with | some v=>some v | none=>binA C op t (evalO tm x) (evalO tm y)
 | .unOp op _ x=>unA op (evalO tm x)
 | .convert src dst x =>
  match C.ty src,C.ty dst,evalO tm x with
  | some ⟨.int _,_,_,_⟩,some ⟨.int k,_,_,_⟩,.int _ n=>some (.int k (k.wrap n))
  | some ⟨.str,_,_,_⟩,some ⟨.str,_,_,_⟩,.str s=>some (.str s)
  | some ⟨.slice e,_,_,_⟩,some ⟨.str,_,_,_⟩,.sl sz _ els=>match C.ty e with | some ⟨.int .u8,_,_,_⟩=>bytesStr sz els | _=>none
  | _,_,_=>none
 | .nilCheck x =>
  match evalO tm x with
  | .ptr b o=>some (.ptr b o)
  | .eptr cs o=>some (.eptr cs o)
  | .fn g cs=>some (.fn g cs)
  | _=>none
 | .index t x i =>
  match C.ty t,evalO tm x,evalO tm i with
  | some ⟨.str,_,_,_⟩,.str s,.int _ n=>(idx n s.length).map fun m=>.int .u8 (s.getD m 0).toNat
  | some ⟨.array len e,_,_,_⟩,.agg cs,.int _ n =>
   match C.ty e with
   | some ei=>(idx n len).bind fun m=>part ei cs (m*ei.size)
   | none=>none
  | _,_,_=>none
 | .indexAddr t x i =>
  match C.ty t,evalO tm x,evalO tm i with
  | some ⟨.slice e,_,_,_⟩,.sl sz _ els,.int _ n =>
   match C.ty e with
   | some ei=>if sz=ei.size then (idx n els.length).map fun m=>.eptr (els.getD m .undef).cells 0 else none
   | none=>none
  | some ⟨.slice e,_,_,_⟩,.ms _ sz b off len,.int _ n =>
   match C.ty e with
   | some ei=>if sz=ei.size then (idx n len).map fun m=>.ptr b (off+m*sz) else none
   | none=>none
  | some ⟨.array len e,_,_,_⟩,.ptr b off,.int _ n =>
   match C.ty e with
   | some ei=>(idx n len).map fun m=>.ptr b (off+m*ei.size)
   | none=>none
  | some ⟨.array len e,_,_,_⟩,.eptr cs off,.int _ n =>
   match C.ty e with
   | some ei=>(idx n len).map fun m=>.eptr cs (off+m*ei.size)
   | none=>none
  | _,_,_=>none
 | .fieldAddr t x f =>
  match C.ty t with
  | some ⟨.struct fs,_,_,_⟩ =>
   match fs[f]? with
   | some (off,ft) =>
    match C.ty ft,evalO tm x with
    | some fi,.ptr b o=>if fi.size=0 then none else some (.ptr b (o+off))
    | some fi,.eptr cs o=>if fi.size=0 then none else some (.eptr cs (o+off))
    | _,_=>none
   | none=>none
  | _=>none
 | .field t x f =>
  match C.ty t,evalO tm x with
  | some ⟨.struct fs,_,_,_⟩,.agg cs =>
   match fs[f]? with
   | some (off,ft)=>match C.ty ft with | some fi=>part fi cs off | none=>none
   | none=>none
  | _,_=>none
 | .extract x i=>match evalO tm x with | .tup vs=>vs[i]? | _=>none
 | .slice t x lo hi mx =>
  match C.ty t,evalO tm x with
  | some ⟨.str,_,_,_⟩,.str s=>if mx.isSome then none else strSliceA s (lo.map (evalO tm)) (hi.map (evalO tm))
  | some ⟨.slice e,_,_,_⟩,.sl sz f els =>
   match C.ty e with
   | some ei=>if sz=ei.size∨els.isEmpty=true then sliceA sz f els (lo.map (evalO tm)) (hi.map (evalO tm)) (mx.map (evalO tm)) else none
   | none=>none
  | some ⟨.slice e,_,_,_⟩,.ms ag sz b off len =>
   match C.ty e with
   | some ei=>if sz=ei.size∧mx.isNone then (bndO (hi.map (evalO tm)) len len).bind fun h=>(bndO (lo.map (evalO tm)) h 0).map fun l=>.ms ag sz b (off+l*sz) (h - l) else none
   | none=>none
  | _,_=>none
 | .makeFunc (.func g) first captured=>if first.size=0 then some (.fn g (captured.toList.map (evalO tm))) else none
 | .build t parts=>buildA C t (parts.toList.map fun p=>(p.1,evalO tm p.2))
 | .call { callee:=.builtin .len,args,argTypes } =>
  match argTypes[0]?.bind C.ty,args[0]?.map (evalO tm) with
  | some ⟨.str,_,_,_⟩,some (.str s)=>some (.int .i64 s.length)
  | some ⟨.slice _,_,_,_⟩,some (.sl _ _ els)=>some (.int .i64 els.length)
  | some ⟨.slice _,_,_,_⟩,some (.ms _ _ _ _ len)=>some (.int .i64 len)
  | some ⟨.array n _,_,_,_⟩,some _=>some (.int .i64 n)
  | _,_=>none
 | .call { callee:=.builtin .max,args,.. } =>
  match args.toList.map (evalO tm) with
  | [.int k m,.int k' n]=>if k=k' then some (.int k (if m<n then n else m)) else none
  | _=>none
 | _=>none

def makeOp (C:Cfg) (I:FI) (o:Oper) (tm:Nat→AV):Option AV :=
 match o.op with
 | .buildSlice t len parts =>
  if o.dst.any fun d=>I.dy.contains d then none else
  match C.ty t with
  | some ⟨.slice e,_,_,_⟩ =>
   match C.ty e with
   | some ei=>if len*ei.size≤16777216 then (elsA ei 0 len (parts.toList.map fun p=>(p.1,evalO tm p.2))).map (.sl ei.size true) else none
   | none=>none
  | _=>none
 | .box t x =>
  if (o.dst.bind (lookBk I.bk)).isSome then none else
  match C.ty t with
  | some ti=>let v:=evalO tm x; if layable v&&decide (v.cells.length=ti.size) then some (.eptr v.cells 0) else none
  | none=>none
 | .alloc t =>
  if o.dst.bind (lookBk I.bk)=some 3 then (C.ty t).bind fun ti=>if layable ti.zero then some (.eptr ti.zero.cells 0) else none else none
 | _=>none

def mayApp (f:Fr) (x:Operand):AV→Option (Nat × List AV)
 | .sl sz true els=>some (sz,els)
 | .sl sz false els=>match x with | .tmp t=>if f.os t then some (sz,els) else none | _=>none
 | _=>none

def clearO (os:Nat→Bool):Operand→(Nat→Bool)
 | .tmp t=>upd os t false
 | _=>os

def appSrc (C:Cfg) (ei:TI) (xt:Nat) (v:AV):Option (List AV) :=
 match C.ty xt with
 | some ⟨.slice _,_,_,_⟩ =>
  match v with
  | .sl sz _ ys=>if sz=ei.size then some ys else match ys with | []=>some [] | _=>none
  | _=>none
 | some ⟨.str,_,_,_⟩ =>
  match v with
  | .str s=>if ei.size=1 then some (s.map fun b=>.int .u8 b.toNat) else none
  | _=>none
 | _=>none

def isFull:AV→Bool
 | .sl _ f _=>f
 | _=>false

def flatA (els:List AV):List AV:=(els.map AV.cells).flatten

def appM (C:Cfg) (f:Fr) (o:Oper) (ei:TI) (yt:Nat) (x y:AV):Option Fr :=
 match x with
 | .ms ag sz b off len =>
  match appSrc C ei yt y with
  | some ys =>
   match f.s.h b with
   | some cs =>
    if sz=ei.size∧ag=ei.isAgg∧off=0∧len*sz≤cs.length∧f.s.ro≤b∧0<ei.size∧ei.bytes≤256∧layable ei.zero=true∧ei.zero.cells.length=ei.size∧len+ys.length≤LIM then
     some { (f.put o.dst (.ms ag sz f.s.n 0 (len+ys.length)) false) with s:=(f.s.kill b).push (cs.take (len*sz)++flatA ys) }
    else none
   | none=>none
  | none=>none
 | _=>none

def imH (I:FI) (o:Oper) (s:St) (b:Nat):Option (List AV):=if I.im.contains (o.dst.getD 0) then none else s.h b

theorem imH_some {I:FI} {o:Oper} {s:St} {b:Nat} {cs:List AV} (h:imH I o s b=some cs):I.im.contains (o.dst.getD 0)=false∧s.h b=some cs:=by
 unfold imH at h
 split at h
 ·cases h
 ·rename_i hi
  exact ⟨by simpa using hi,h⟩

theorem imH_of {I:FI} {o:Oper} {s:St} {b:Nat} {cs:List AV} (h:I.im.contains (o.dst.getD 0)=false) (k:s.h b=some cs):imH I o s b=some cs:=by
 unfold imH; rw[if_neg (by rw[h]; simp)]; exact k

def stPd (I:FI) (a:Operand):Bool:=match a with | .tmp d=>I.im.contains d | _=>false
def imS (I:FI) (a:Operand) (s:St) (b:Nat):Option (List AV):=if stPd I a then none else s.h b
theorem imS_some {I:FI} {a:Operand} {s:St} {b:Nat} {cs:List AV} (h:imS I a s b=some cs):stPd I a=false∧s.h b=some cs:=by
 unfold imS at h
 split at h
 ·cases h
 ·rename_i hi
  exact ⟨by simpa using hi,h⟩
theorem imS_of {I:FI} {a:Operand} {s:St} {b:Nat} {cs:List AV} (h:stPd I a=false) (k:s.h b=some cs):imS I a s b=some cs:=by
 unfold imS; rw[if_neg (by rw[h]; simp)]; exact k

def memOp (C:Cfg) (I:FI) (o:Oper) (f:Fr):Option Fr :=
 match o.op with
 | .alloc t =>
  match C.ty t with
  | some ti =>
   if o.dst.bind (lookBk I.bk)=some 1 then
    (if layable ti.zero then some { (f.put o.dst (.ptr f.s.n 0) false) with s:=f.s.push ti.zero.cells } else none)
   else match o.dst with
    | some d=>if lookBk I.bk d=none∧layable ti.zero=true∧ti.zero.cells.length=ti.size then some (f.put (some d) (.pend ti.size) true) else none
    | none=>none
  | none=>none
 | .box t x =>
  match C.ty t with
  | some ti =>
   let v:=evalO f.tm x
   if o.dst.bind (lookBk I.bk)=some 1 then
    if layable v&&decide (v.cells.length=ti.size) then some { (f.put o.dst (.ptr f.s.n 0) false) with s:=f.s.push v.cells } else none
   else none
  | none=>none
 | .load t a =>
  match C.ty t with
  | none=>none
  | some ti =>
   match evalO f.tm a with
   | .ptr b off =>
    match imH I o f.s b with
    | some cs =>
     (part ti cs off).bind fun v =>
      if I.mv.contains (o.dst.getD 0)&&!ti.isAgg&&!isFull v then
       if f.s.ow b off=true then some { (f.put o.dst v true) with s:={ f.s with ow:=upd f.s.ow b (upd (f.s.ow b) off false) } } else none
      else some (f.put o.dst v false)
    | none=>none
   | .eptr cs off=>(part ti cs off).map fun v=>f.put o.dst v false
   | _=>none
 | .store t a x =>
  match C.ty t with
  | none=>none
  | some ti =>
   let v:=evalO f.tm x
   if layable v&&decide (v.cells.length=ti.size)&&o.dst.isNone&&decide (0<ti.size) then
    match evalO f.tm a with
    | .ptr b off =>
     match imS I a f.s b with
     | some cs =>
      if f.s.ro≤b∧off+ti.size≤cs.length then
       if f.s.lo≤b∨v.pureB 0=true then
        let fl:Nat→Bool:=fun i=>if off≤i∧i<off+ti.size then (match x with | .tmp t=>decide (i=off)&&v.one&&f.os t | _=>false) else f.s.ow b i
        some { tm:=f.tm,os:=clearO f.os x,s:=f.s.setBox b (over cs off v.cells) fl }
       else none
      else none
     | none=>none
    | .pend sz =>
     match a with
     | .tmp d=>if f.os d&&decide (sz=ti.size) then some { f with tm:=upd f.tm d (.eptr v.cells 0),os:=upd f.os d false } else none
     | _=>none
    | _=>none
   else none
 | .makeSlice t len cap =>
  match C.ty t with
  | some ⟨.slice e,_,_,_⟩ =>
   match C.ty e,evalO f.tm len,evalO f.tm cap with
   | some ei,.int .i64 l,.int .i64 c =>
    if layable ei.zero&&decide (ei.zero.cells.length=ei.size)&&decide (ei.bytes≤256) then
     if l=c∧0≤l∧l≤LIM then
      some { (f.put o.dst (.ms ei.isAgg ei.size f.s.n 0 l.toNat) false) with s:=f.s.push (List.replicate l.toNat ei.zero.cells).flatten }
     else if l=0∧0≤c∧c≤LIM∧0<ei.size then some (f.put o.dst (.sl ei.size false []) true)
     else none
    else none
   | _,_,_=>none
  | _=>none
 | .buildSlice t len parts =>
  if o.dst.any fun d=>I.dy.contains d then
   match C.ty t with
   | some ⟨.slice e,_,_,_⟩ =>
    match C.ty e with
    | some ei =>
     if len*ei.size≤16777216 then
      match elsA ei 0 len (parts.toList.map fun p=>(p.1,evalO f.tm p.2)) with
      | some els=>some { (f.put o.dst (.ms ei.isAgg ei.size f.s.n 0 len) false) with s:=f.s.push (flatA els) }
      | none=>none
     else none
    | none=>none
   | _=>none
  else none
 | .call { callee:=.builtin .append,args,argTypes } =>
  match args.toList,argTypes.toList with
  | [x,y],[st,yt] =>
   match C.ty st with
   | some ⟨.slice e,_,_,_⟩ =>
    match C.ty e,mayApp f x (evalO f.tm x) with
    | some ei,some (sz,xs) =>
     match appSrc C ei yt (evalO f.tm y) with
     | some ys =>
      if (sz=ei.size∨sz=0∧xs=[])∧0<ei.size∧ei.bytes≤256∧layable ei.zero=true∧ei.zero.cells.length=ei.size then
       if xs.length+ys.length≤LIM then
        if o.dst.any fun d=>I.dy.contains d then
         if isFull (evalO f.tm x)&&!ys.isEmpty then
          some { (f.put o.dst (.ms ei.isAgg ei.size f.s.n 0 (xs.length+ys.length)) false) with s:=f.s.push (flatA (xs++ys)) }
         else if isFull (evalO f.tm x)&&xs.isEmpty then some (f.put o.dst (.sl ei.size true []) false) else none
        else some (({ f with os:=clearO f.os x }).put o.dst (.sl ei.size false (xs++ys)) true)
       else none
      else none
     | none=>none
    | some ei,none=>if o.dst.any fun d=>I.dy.contains d then appM C f o ei yt (evalO f.tm x) (evalO f.tm y) else none
    | _,_=>none
   | _=>none
  | _,_=>none
 | _=>none

def cutV (C:Cfg) (I:FI) (o:Oper) (tm:Nat→AV) (s:St):Option (Nat × Bool × Nat × Nat × List AV) :=
 match o.op with
 | .slice t x lo hi none =>
  if o.dst.any fun d=>I.dy.contains d then
   match evalO tm x with
   | .ms ag sz b off len =>
    match C.ty t,s.h b with
    | some ⟨.slice e,_,_,_⟩,some cs =>
     match C.ty e with
     | some ei =>
      if sz=ei.size∧off=0∧len*sz≤cs.length∧s.ro≤b then
       (bndO (hi.map (evalO tm)) len len).bind fun h=>(bndO (lo.map (evalO tm)) h 0).map fun l=>(b,ag,sz,h - l,(cs.drop (l*sz)).take ((h - l)*sz))
      else none
     | none=>none
    | _,_=>none
   | _=>none
  else none
 | _=>none
def cutM (C:Cfg) (I:FI) (o:Oper) (f:Fr):Option Fr :=
 (cutV C I o f.tm f.s).map fun r=>{ (f.put o.dst (.ms r.2.1 r.2.2.1 f.s.n 0 r.2.2.2.1) false) with s:=(f.s.kill r.1).push r.2.2.2.2 }

def moveOp (C:Cfg) (I:FI) (o:Oper) (f:Fr):Option Fr :=
 match o.op with
 | .slice _ (.tmp t) _ none none=>if I.mv.contains (o.dst.getD 0) then (pureOp C o f.tm).map fun v=>{ f with os:=upd f.os t false }.put o.dst v (f.os t) else cutM C I o f
 | .assign (.tmp t)=>some ({ f with os:=upd f.os t false }.put o.dst (f.tm t) (f.os t))
 | .move (.tmp t)=>if I.mv.contains (o.dst.getD 0) then some ({ f with os:=upd f.os t false }.put o.dst (f.tm t) (f.os t)) else none
 | _=>cutM C I o f

def opF (C:Cfg) (I:FI) (o:Oper) (f:Fr):Option Fr :=
 match moveOp C I o f with
 | some f'=>some f'
 | none =>
  match pureOp C o f.tm with
  | some v=>some (f.put o.dst v false)
  | none =>
   match makeOp C I o f.tm with
   | some v=>some (f.put o.dst v false)
   | none=>memOp C I o f

end Ae
namespace Ae
open Go

mutual
def AV.canonB (n:Nat):AV→Bool
 | .ptr b _=>decide (b<n)
 | .ms _ _ b _ _=>decide (b<n)
 | .eptr cs _=>AV.canonL n cs
 | .sl _ f els=>!f&&AV.canonL n els
 | .agg cs=>AV.canonL n cs
 | .tup cs=>AV.canonL n cs
 | .fn _ cs=>AV.canonL n cs
 | .pend _=>false
 | _=>true
def AV.canonL (n:Nat):List AV→Bool
 | []=>true
 | a::l=>AV.canonB n a&&AV.canonL n l
end

def fin (s:St) (n:Nat):Nat→AV→Option AV
 | 0,_=>none
 | k+1,v =>
  if v.canonB n then some v else
  match v with
  | .sl sz _ els=>(els.mapM (fin s n k)).map (.sl sz false)
  | .agg cs=>(cs.mapM (fin s n k)).map .agg
  | .tup cs=>(cs.mapM (fin s n k)).map .tup
  | .fn g cs=>(cs.mapM (fin s n k)).map (.fn g)
  | .eptr cs off=>(cs.mapM (fin s n k)).map (.eptr · off)
  | .ms ag sz b off len =>
   match s.h b with
   | some cs=>if off+len*sz≤cs.length∧(ag=true∨sz=1) then ((chunk sz ag (cs.drop off) len).mapM (fin s n k)).map (.sl sz false) else none
   | none=>none
  | .ptr b off =>
   match s.h b with
   | some cs=>(cs.mapM (fin s n k)).map (.eptr · off)
   | none=>none
  | _=>none

inductive Item where
 | code (c:Code)
 | inLoop (c:Code)
 | inBlock (id:Nat)

def exitTo (id:Nat):List Item→Option (List Item)
 | []=>none
 | .inBlock i::t=>if i=id then some t else exitTo id t
 | _::t=>exitTo id t

def wantedA (o:Oper) (all:Array Oper) (tm:Nat→AV):Option Bool :=
 match o.guard with
 | none=>some true
 | some (j,w) =>
  match (all[j]?).bind (·.dst) with
  | some d=>match tm d with | .bool b=>some (b == w) | .tup _=>some false | _=>none
  | none=>none

def callee? (o:Oper) (tm:Nat→AV):Option (Nat × List AV) :=
 match o.op with
 | .call { callee:=.value f,args,.. } =>
  match evalO tm f with
  | .fn g cap=>some (g,args.toList.map (evalO tm)++cap)
  | _=>none
 | _=>none

def St.still (s:St):St:={ s with ro:=s.n,ow:=fun _ _=>false }

abbrev CallFn:=Nat→List AV→St→Option (AV × Bool × St)

def alias (I:FI) (o:Oper):Bool:=match o.dst with | some d=>I.al.contains d | none=>false
def eff (I:FI) (o:Oper):Bool:=match o.dst with | some d=>I.ef.contains d | none=>false
def tbl (C:Cfg) (al:Bool) (g:Nat):Option FI:=if al then C.fnK g else C.fn g

def opsF (C:Cfg) (I:FI) (call:Bool→CallFn) (draw:Bool) (all:Array Oper):List Oper→Fr→Option Fr
 | [],f=>some f
 | o::l,f =>
  match wantedA o all f.tm with
  | some true =>
   match callee? o f.tm with
   | some (g,args) =>
    if draw then
     if eff I o then
      match call (alias I o) g args f.s with
      | some (v,ow,s')=>if f.s.n≤s'.n then opsF C I call draw all l { f.put o.dst v ow with s:=s' } else none
      | none=>none
     else
     match call (alias I o) g args f.s.still with
     | some (v,ow,_)=>if v.pureB f.s.n then opsF C I call draw all l (f.put o.dst v ow) else none
     | none=>none
    else
     match call (alias I o) g args f.s with
     | some (v,ow,s')=>opsF C I call draw all l { f.put o.dst v ow with s:=s' }
     | none=>none
   | none =>
    match opF C I o f with
    | some f'=>opsF C I call draw all l f'
    | none=>none
  | some false=>opsF C I call draw all l (f.put o.dst (.tup []) false)
  | none=>none

def enterTm (args:List AV):Nat→AV:=fun i=>args.getD i (.tup [])

def resOne (C:Cfg) (kp:Bool) (f:Fr):ResultVar→Option (AV × Bool)
 | .tmp t=>if kp then some (f.tm t,false) else some (match f.tm t with | .sl sz fl els=>(.sl sz false els,f.os t||fl) | v=>(v,false))
 | .cell a t =>
  match C.ty t,f.tm a with
  | some ti,.ptr b off =>
   match f.s.h b with
   | some cs=>(part ti cs off).map fun v=>(v,false)
   | none=>none
  | some ti,.eptr cs off=>(part ti cs off).map fun v=>(v,false)
  | _,_=>none

def resA (C:Cfg) (I:FI) (f:Fr):Option (AV × Bool) :=
 match I.res with
 | [r]=>resOne C I.keep f r
 | rs=>(rs.mapM fun r=>(resOne C I.keep f r).map (·.1)).map fun vs=>(.tup vs,false)

def St.back (s s1:St):St :=
 { n:=s.n,h:=fun b=>if b<s.n then s1.h b else s.h b,ow:=fun b=>if b<s.n then s1.ow b else s.ow b,ro:=s.ro,lo:=s.lo }

def FINK:Nat:=9

mutual
def AV.flatB (n:Nat):AV→Bool
 | .ptr b _=>decide (n≤b)
 | .ms _ _ b _ _=>decide (n≤b)
 | .eptr _ _=>false
 | .sl _ _ els=>els.isEmpty
 | .agg cs=>AV.flatL n cs
 | .tup cs=>AV.flatL n cs
 | .fn _ cs=>AV.flatL n cs
 | .pend _=>false
 | _=>true
def AV.flatL (n:Nat):List AV→Bool
 | []=>true
 | a::l=>AV.flatB n a&&AV.flatL n l
end

def St.blind (s:St):St:={ n:=s.n,h:=fun _=>none,ow:=fun _ _=>false,ro:=s.n,lo:=s.n }

def St.join (s s1:St):St :=
 { n:=s1.n,h:=fun b=>if b<s.n then s.h b else (s1.h b).filter (AV.flatL s.n),ow:=fun b=>if b<s.n then s.ow b else s1.ow b,ro:=s.ro,lo:=s.lo }

def lendC (C:Cfg) (al:Bool) (call:CallFn):CallFn:=fun g args s =>
 match C.ext g with
 | some _=>call g args s
 | none =>
  match tbl C al g with
  | none=>none
  | some J =>
   if J.rd=0 then call g args s else
   match args.mapM (fin s 0 FINK) with
   | none=>none
   | some args' =>
    match call g args' s.blind with
    | none=>none
    | some (v,ow,s1) =>
     if J.rd=1 then
      if v.flatB s.n then some (v,false,if J.keep then s.join s1 else s) else none
     else if s.ro=0 then some (v,ow,{ s1 with ro:=s.ro,lo:=s.lo }) else none

def firstReg:Code→Option Nat
 | .seq a b=>match firstReg a with | some r=>some r | none=>firstReg b
 | .block _ c=>firstReg c
 | .loop c=>firstReg c
 | .region id _ _=>some id
 | _=>none

def frz (d:Nat) (f:Fr):Option Fr :=
 if f.s.ro≤f.s.lo then
  (fin f.s f.s.lo FINK (f.tm d)).map fun v=>⟨upd f.tm d v,upd f.os d false,{ f.s with h:=fun b=>if b<f.s.lo then f.s.h b else none,ow:=fun b=>if b<f.s.lo then f.s.ow b else fun _=>false }⟩
 else none

def thaw (I:FI) (c:Code) (f:Fr):Option Fr :=
 match I.fz.find? (fun p=>firstReg c == some p.1) with
 | none=>some f
 | some p=>frz p.2 f

def run (C:Cfg):Nat→FI→List Item→Fr→Option Fr
 | 0,_,_,_=>none
 | _+1,_,[],f=>some f
 | n+1,I,.inLoop c::t,f=>match thaw I c f with | some f'=>run C n I (.code c::.inLoop c::t) f' | none=>none
 | n+1,I,.inBlock _::t,f=>run C n I t f
 | n+1,I,.code c::t,f =>
  match c with
  | .skip=>run C n I t f
  | .ret=>some f
  | .seq a b=>run C n I (.code a::.code b::t) f
  | .cond x a b=>match evalO f.tm x with
   | .bool true=>run C n I (.code a::t) f
   | .bool false=>run C n I (.code b::t) f
   | _=>none
  | .block id c=>run C n I (.code c::.inBlock id::t) f
  | .loop c=>run C n I (.code c::.inLoop c::t) f
  | .exit id=>match exitTo id t with | some t'=>run C n I t' f | none=>none
  | .region _ ops draw =>
   match opsF C I (fun al=>lendC C al fun g args s =>
    match C.ext g with
    | some φ=>φ args s
    | none =>
     match tbl C al g with
     | none=>none
     | some J =>
      match run C n J [.code J.body] ⟨enterTm args,fun _=>false,if J.keep then s else { s with lo:=s.n }⟩ with
      | none=>none
      | some f1 =>
       match resA C J f1 with
       | none=>none
       | some (v,o)=>if J.keep then some (v,o,f1.s) else (fin f1.s s.n FINK v).map fun v'=>(v',o,s.back f1.s)) draw ops ops.toList f with
   | some f'=>run C n I t f'
   | none=>none
  | _=>none

def callN (C:Cfg) (n:Nat) (al:Bool):CallFn:=fun g args s =>
 match C.ext g with
 | some φ=>φ args s
 | none =>
  match tbl C al g with
  | none=>none
  | some J =>
   match run C n J [.code J.body] ⟨enterTm args,fun _=>false,if J.keep then s else { s with lo:=s.n }⟩ with
   | none=>none
   | some f1 =>
    match resA C J f1 with
    | none=>none
    | some (v,o)=>if J.keep then some (v,o,f1.s) else (fin f1.s s.n FINK v).map fun v'=>(v',o,s.back f1.s)

def callF (C:Cfg) (n:Nat) (al:Bool):CallFn:=lendC C al (callN C n al)

theorem run_region (C:Cfg) (n:Nat) (I:FI) (id:Nat) (ops:Array Oper) (draw:Bool) (t:List Item) (f:Fr) :
  run C (n+1) I (.code (.region id ops draw)::t) f =
   match opsF C I (callF C n) draw ops ops.toList f with
   | some f'=>run C n I t f'
   | none=>none:=rfl

theorem opsF_mono {C:Cfg} {I:FI} {c c':Bool→CallFn} {draw:Bool} {all:Array Oper} (hc:∀ al g a s r,c al g a s=some r→c' al g a s=some r) :
  ∀ (l:List Oper) (f r:Fr),opsF C I c draw all l f=some r→opsF C I c' draw all l f=some r
 | [],f,r,h=>h
 | o::l,f,r,h=>by
  unfold opsF at h⊢
  cases hw:wantedA o all f.tm with
  | none=>rw[hw] at h; cases h
  | some b =>
   cases b with
   | true =>
    rw[hw] at h
    simp only at h⊢
    cases hg:callee? o f.tm with
    | some p =>
     obtain ⟨g,args⟩:=p
     rw[hg] at h
     simp only at h⊢
     by_cases hd:draw=true
     ·rw[if_pos hd] at h⊢
      by_cases he:eff I o=true
      ·rw[if_pos he] at h⊢
       cases hr:c (alias I o) g args f.s with
       | none=>rw[hr] at h; cases h
       | some p =>
        obtain ⟨v,ow,s'⟩:=p
        rw[hr] at h
        rw[hc _ _ _ _ _ hr]
        simp only at h⊢
        by_cases hp:f.s.n≤s'.n
        ·rw[if_pos hp] at h⊢; exact opsF_mono hc l _ _ h
        ·rw[if_neg hp] at h; cases h
      rw[if_neg he] at h⊢
      cases hr:c (alias I o) g args f.s.still with
      | none=>rw[hr] at h; cases h
      | some p =>
       obtain ⟨v,ow,s'⟩:=p
       rw[hr] at h
       rw[hc _ _ _ _ _ hr]
       simp only at h⊢
       by_cases hp:v.pureB f.s.n=true
       ·rw[if_pos hp] at h⊢; exact opsF_mono hc l _ _ h
       ·rw[if_neg hp] at h; cases h
     ·rw[if_neg hd] at h⊢
      cases hr:c (alias I o) g args f.s with
      | none=>rw[hr] at h; cases h
      | some p =>
       obtain ⟨v,ow,s'⟩:=p
       rw[hr] at h
       rw[hc _ _ _ _ _ hr]
       exact opsF_mono hc l _ _ h
    | none =>
     rw[hg] at h
     simp only at h⊢
     cases hf:opF C I o f with
     | none=>rw[hf] at h; cases h
     | some f'=>rw[hf] at h; exact opsF_mono hc l _ _ h
   | false =>
    rw[hw] at h
    exact opsF_mono hc l _ _ h

theorem lendC_mono {C:Cfg} {al:Bool} {c c':CallFn} (hc:∀ g a s r,c g a s=some r→c' g a s=some r):∀ g a s r,lendC C al c g a s=some r→lendC C al c' g a s=some r:=by
 intro g a s r h
 unfold lendC at h⊢
 cases hφ:C.ext g with
 | some φ=>rw[hφ] at h; exact hc _ _ _ _ h
 | none =>
  rw[hφ] at h
  simp only at h⊢
  cases hJ:tbl C al g with
  | none=>rw[hJ] at h; cases h
  | some J =>
   rw[hJ] at h
   simp only at h⊢
   split at h
   ·rename_i h0
    rw[if_pos h0]
    exact hc _ _ _ _ h
   ·rename_i h0
    rw[if_neg h0]
    split at h
    ·cases h
    ·rename_i args' ha
     cases hr:c g args' s.blind with
     | none=>rw[hr] at h; cases h
     | some p =>
      rw[hr] at h
      rw[hc _ _ _ _ hr]
      exact h

theorem callN_mono {C:Cfg} {n m:Nat} (hr:∀ I t f r,run C n I t f=some r→run C m I t f=some r) :
  ∀ al g a s r,callN C n al g a s=some r→callN C m al g a s=some r:=by
 intro al g a s r h
 unfold callN at h⊢
 cases hφ:C.ext g with
 | some φ=>rw[hφ] at h; exact h
 | none =>
  rw[hφ] at h
  simp only at h⊢
  cases hJ:tbl C al g with
  | none=>rw[hJ] at h; cases h
  | some J =>
   rw[hJ] at h
   simp only at h⊢
   cases hf:run C n J [.code J.body] ⟨enterTm a,fun _=>false,if J.keep then s else { s with lo:=s.n }⟩ with
   | none=>rw[hf] at h; cases h
   | some f1 =>
    rw[hf] at h
    rw[hr _ _ _ _ hf]
    exact h

theorem callF_mono {C:Cfg} {n m:Nat} (hr:∀ I t f r,run C n I t f=some r→run C m I t f=some r) :
  ∀ al g a s r,callF C n al g a s=some r→callF C m al g a s=some r:=fun al=>lendC_mono (callN_mono hr al)

theorem run_succ (C:Cfg):∀ n I t f r,run C n I t f=some r→run C (n+1) I t f=some r:=by
 intro n
 induction n with
 | zero=>intro I t f r h; simp[run] at h
 | succ n ih =>
  intro I t f r h
  cases t with
  | nil=>exact h
  | cons i t =>
   cases i with
   | inLoop c =>
    simp only[run] at h⊢
    cases hz:thaw I c f with
    | none=>rw[hz] at h; cases h
    | some f'=>rw[hz] at h; exact ih _ _ _ _ h
   | inBlock id=>exact ih _ _ _ _ h
   | code c =>
    cases c with
    | skip=>exact ih _ _ _ _ h
    | ret=>exact h
    | seq a b=>exact ih _ _ _ _ h
    | cond x a b =>
     simp only[run] at h⊢
     cases hx:evalO f.tm x with
     | bool b=>rw[hx] at h; cases b<;>exact ih _ _ _ _ h
     | _=>rw[hx] at h; cases h
    | block id c=>exact ih _ _ _ _ h
    | loop c=>exact ih _ _ _ _ h
    | exit id =>
     simp only[run] at h⊢
     cases hx:exitTo id t with
     | none=>rw[hx] at h; cases h
     | some t'=>rw[hx] at h; exact ih _ _ _ _ h
    | region id ops draw =>
     rw[run_region] at h⊢
     cases ho:opsF C I (callF C n) draw ops ops.toList f with
     | none=>rw[ho] at h; cases h
     | some f' =>
      rw[ho] at h
      rw[opsF_mono (callF_mono ih) _ _ _ ho]
      exact ih _ _ _ _ h
    | _=>cases h

theorem run_mono (C:Cfg) {n m:Nat} (hm:n≤m):∀ I t f r,run C n I t f=some r→run C m I t f=some r:=by
 induction hm with
 | refl=>exact fun _ _ _ _ h=>h
 | step _ ih=>exact fun I t f r h=>run_succ C _ _ _ _ _ (ih I t f r h)

def AW (C:Cfg) (I:FI) (t:List Item) (f:Fr) (Q:Fr→Prop):Prop:=∃ n r,run C n I t f=some r∧Q r
def AOps (C:Cfg) (I:FI) (draw:Bool) (all:Array Oper) (l:List Oper) (f:Fr) (Q:Fr→Prop):Prop:=∃ n r,opsF C I (callF C n) draw all l f=some r∧Q r
def ACall (C:Cfg) (g:Nat) (args:List AV) (s:St) (Q:AV→Bool→St→Prop) (al:Bool:=false):Prop:=∃ n v o s',callF C n al g args s=some (v,o,s')∧Q v o s'

section
variable {C:Cfg} {I:FI} {t:List Item} {f:Fr} {Q:Fr→Prop} {all:Array Oper} {l:List Oper} {o:Oper} {draw:Bool}

theorem AW.step {t t':List Item} {f':Fr} (h:∀ n,run C (n+1) I t f=run C n I t' f') (k:AW C I t' f' Q):AW C I t f Q:=by
 obtain ⟨n,a,hr,hq⟩:=k
 exact ⟨n+1,a,(h n).trans hr,hq⟩
theorem AW.seq {a b:Code} (k:AW C I (.code a::.code b::t) f Q):AW C I (.code (.seq a b)::t) f Q:=k.step fun _=>rfl
theorem AW.skip (k:AW C I t f Q):AW C I (.code .skip::t) f Q:=k.step fun _=>rfl
theorem AW.block {id c} (k:AW C I (.code c::.inBlock id::t) f Q):AW C I (.code (.block id c)::t) f Q:=k.step fun _=>rfl
theorem AW.inBlock {id} (k:AW C I t f Q):AW C I (.inBlock id::t) f Q:=k.step fun _=>rfl
theorem AW.loop {c} (k:AW C I (.code c::.inLoop c::t) f Q):AW C I (.code (.loop c)::t) f Q:=k.step fun _=>rfl
theorem AW.thaw {c} {f':Fr} (hz:Ae.thaw I c f=some f') (k:AW C I (.code c::.inLoop c::t) f' Q):AW C I (.inLoop c::t) f Q:=k.step fun _=>by simp only[run,hz]
theorem AW.inLoop {c} (hz:∀ f,Ae.thaw I c f=some f) (k:AW C I (.code c::.inLoop c::t) f Q):AW C I (.inLoop c::t) f Q:=.thaw (hz f) k
theorem AW.ret (k:Q f):AW C I (.code .ret::t) f Q:=⟨1,f,rfl,k⟩
theorem AW.nil (k:Q f):AW C I [] f Q:=⟨1,f,rfl,k⟩
theorem AW.exit {id t'} (h:exitTo id t=some t') (k:AW C I t' f Q):AW C I (.code (.exit id)::t) f Q:=k.step fun n=>by simp[run,h]
theorem AW.condT {x a b} (h:evalO f.tm x=.bool true) (k:AW C I (.code a::t) f Q):AW C I (.code (.cond x a b)::t) f Q :=
 k.step fun n=>by simp[run,h]
theorem AW.condF {x a b} (h:evalO f.tm x=.bool false) (k:AW C I (.code b::t) f Q):AW C I (.code (.cond x a b)::t) f Q :=
 k.step fun n=>by simp[run,h]
theorem AW.region {id} (k:AOps C I draw all all.toList f fun f'=>AW C I t f' Q):AW C I (.code (.region id all draw)::t) f Q:=by
 obtain ⟨n,r,h,m,r',h',hq⟩:=k
 refine ⟨max n m+1,r',?_,hq⟩
 rw[run_region,opsF_mono (callF_mono (run_mono C (Nat.le_max_left n m))) _ _ _ h]
 exact run_mono C (Nat.le_max_right n m) _ _ _ _ h'
theorem AOps.nil (k:Q f):AOps C I draw all [] f Q:=⟨0,f,rfl,k⟩
theorem AOps.skip (hw:wantedA o all f.tm=some false) (k:AOps C I draw all l (f.put o.dst (.tup []) false) Q):AOps C I draw all (o::l) f Q:=by
 obtain ⟨n,r,h,hq⟩:=k
 exact ⟨n,r,by unfold opsF; rw[hw]; exact h,hq⟩
theorem AOps.op {f':Fr} (hw:wantedA o all f.tm=some true) (hc:callee? o f.tm=none) (h:opF C I o f=some f') (k:AOps C I draw all l f' Q):AOps C I draw all (o::l) f Q:=by
 obtain ⟨n,r,hr,hq⟩:=k
 exact ⟨n,r,by unfold opsF; rw[hw]; simp only[hc,h]; exact hr,hq⟩
theorem AOps.callA {g args} (hw:wantedA o all f.tm=some true) (hc:callee? o f.tm=some (g,args)) {al:Bool} (ha:alias I o=al)
  (k:ACall C g args f.s (fun v ow s'=>AOps C I false all l { f.put o.dst v ow with s:=s' } Q) al):AOps C I false all (o::l) f Q:=by
 subst ha
 obtain ⟨n,v,ow,s',h,m,r,hr,hq⟩:=k
 refine ⟨max n m,r,?_,hq⟩
 unfold opsF
 rw[hw]
 simp only[hc,Bool.false_eq_true,if_false,callF_mono (run_mono C (Nat.le_max_left n m)) _ _ _ _ _ h]
 exact opsF_mono (callF_mono (run_mono C (Nat.le_max_right n m))) _ _ _ hr
theorem AOps.call {g args} (hw:wantedA o all f.tm=some true) (hc:callee? o f.tm=some (g,args))
  (k:ACall C g args f.s fun v ow s'=>AOps C I false all l { f.put o.dst v ow with s:=s' } Q) (ha:alias I o=false:=by rfl):AOps C I false all (o::l) f Q:=.callA hw hc ha k
theorem AOps.callD {g args} (hw:wantedA o all f.tm=some true) (hc:callee? o f.tm=some (g,args))
  (k:ACall C g args f.s.still fun v ow _=>v.pureB f.s.n=true∧AOps C I true all l (f.put o.dst v ow) Q) (ha:alias I o=false:=by rfl) (he:eff I o=false:=by rfl):AOps C I true all (o::l) f Q:=by
 obtain ⟨n,v,ow,s',h,hp,m,r,hr,hq⟩:=k
 refine ⟨max n m,r,?_,hq⟩
 unfold opsF
 rw[hw]
 simp only[hc,ha,he,Bool.false_eq_true,if_false,if_true,callF_mono (run_mono C (Nat.le_max_left n m)) _ _ _ _ _ h,hp]
 exact opsF_mono (callF_mono (run_mono C (Nat.le_max_right n m))) _ _ _ hr
theorem AOps.callE {g args} (hw:wantedA o all f.tm=some true) (hc:callee? o f.tm=some (g,args)) {al:Bool} (ha:alias I o=al) (he:eff I o=true)
  (k:ACall C g args f.s (fun v ow s'=>f.s.n≤s'.n∧AOps C I true all l { f.put o.dst v ow with s:=s' } Q) al):AOps C I true all (o::l) f Q:=by
 subst ha
 obtain ⟨n,v,ow,s',h,hp,m,r,hr,hq⟩:=k
 refine ⟨max n m,r,?_,hq⟩
 unfold opsF
 rw[hw]
 simp only[hc,he,if_true,callF_mono (run_mono C (Nat.le_max_left n m)) _ _ _ _ _ h,hp]
 exact opsF_mono (callF_mono (run_mono C (Nat.le_max_right n m))) _ _ _ hr
theorem ACall.mono {g args} {s:St} {al:Bool} {Q Q':AV→Bool→St→Prop} (h:ACall C g args s Q al) (k:∀ v o s',Q v o s'→Q' v o s'):ACall C g args s Q' al:=by
 obtain ⟨n,v,o,s',hr,hq⟩:=h
 exact ⟨n,v,o,s',hr,k _ _ _ hq⟩
def ACallN (C:Cfg) (g:Nat) (args:List AV) (s:St) (Q:AV→Bool→St→Prop) (al:Bool:=false):Prop:=∃ n v o s',callN C n al g args s=some (v,o,s')∧Q v o s'
theorem ACallN.mono {g args} {s:St} {al:Bool} {Q Q':AV→Bool→St→Prop} (h:ACallN C g args s Q al) (k:∀ v o s',Q v o s'→Q' v o s'):ACallN C g args s Q' al:=by
 obtain ⟨n,v,o,s',hr,hq⟩:=h
 exact ⟨n,v,o,s',hr,k _ _ _ hq⟩
theorem ACallN.toCall {g args} {s:St} {al:Bool} {Q:AV→Bool→St→Prop} {J:FI} (h0:C.ext g=none) (h1:tbl C al g=some J) (h3:J.rd=0) (h:ACallN C g args s Q al):ACall C g args s Q al:=by
 obtain ⟨n,v,o,s',hr,hq⟩:=h
 exact ⟨n,v,o,s',by unfold callF lendC; simp only[h0,h1,if_pos h3,hr],hq⟩
theorem ACallN.lend {g args args'} {s:St} {al:Bool} {Q:AV→Bool→St→Prop} {J:FI} (h0:C.ext g=none) (h1:tbl C al g=some J) (h2:J.rd=1) (ha:args.mapM (fin s 0 FINK)=some args')
  (h:ACallN C g args' s.blind (fun v _ s1=>v.flatB s.n=true∧Q v false (if J.keep then s.join s1 else s)) al):ACall C g args s Q al:=by
 obtain ⟨n,v,o,s',hr,hv,hq⟩:=h
 refine ⟨n,v,false,_,?_,hq⟩
 unfold callF lendC
 simp only[h0,h1]
 rw[if_neg (by rw[h2]; omega)]
 simp only[ha,hr,h2,if_true,hv]
theorem ACallN.give {g args args'} {s:St} {al:Bool} {Q:AV→Bool→St→Prop} {J:FI} (h0:C.ext g=none) (h1:tbl C al g=some J) (h2:J.rd=2) (hro:s.ro=0) (ha:args.mapM (fin s 0 FINK)=some args')
  (h:ACallN C g args' s.blind (fun v o s1=>Q v o { s1 with ro:=s.ro,lo:=s.lo }) al):ACall C g args s Q al:=by
 obtain ⟨n,v,o,s',hr,hq⟩:=h
 refine ⟨n,v,o,_,?_,hq⟩
 unfold callF lendC
 simp only[h0,h1]
 rw[if_neg (by rw[h2]; omega)]
 simp only[ha,hr,h2,if_neg (show ¬ (2=1) by omega),if_pos hro]
theorem ACallN.enter {g args} {s:St} {al:Bool} {Q:AV→Bool→St→Prop} {J:FI} (h0:C.ext g=none) (h1:tbl C al g=some J) (h2:J.keep=false)
  (k:AW C J [.code J.body] ⟨enterTm args,fun _=>false,{ s with lo:=s.n }⟩ fun f1=>∃ v o v',resA C J f1=some (v,o)∧fin f1.s s.n FINK v=some v'∧Q v' o (s.back f1.s)):ACallN C g args s Q al:=by
 obtain ⟨n,r,hr,v,o,v',hres,hfin,hq⟩:=k
 refine ⟨n,v',o,_,?_,hq⟩
 simp[callN,h0,h1,h2,hr,hres,hfin]
theorem ACallN.enterKeep {g args} {s:St} {al:Bool} {Q:AV→Bool→St→Prop} {J:FI} (h0:C.ext g=none) (h1:tbl C al g=some J) (h2:J.keep=true)
  (k:AW C J [.code J.body] ⟨enterTm args,fun _=>false,s⟩ fun f1=>∃ v o,resA C J f1=some (v,o)∧Q v o f1.s):ACallN C g args s Q al:=by
 obtain ⟨n,r,hr,v,o,hres,hq⟩:=k
 refine ⟨n,v,o,_,?_,hq⟩
 simp[callN,h0,h1,h2,hr,hres]
end
end Ae
namespace Ae
open Go

def updL {α:Type} (f:Nat→α):List (Nat × α)→Nat→α
 | []=>f
 | (i,c)::l=>upd (updL f l) i c

section
variable {C:Cfg} {I:FI} {t:List Item} {tm:Nat→AV} {os:Nat→Bool} {s:St} {Q:Fr→Prop} {all:Array Oper} {l:List Oper} {o:Oper} {draw:Bool}

theorem AOps.skipR {d:Nat} (hw:wantedA o all tm=some false) (hd:o.dst=some d) (k:AOps C I draw all l ⟨upd tm d (.tup []),upd os d false,s⟩ Q):AOps C I draw all (o::l) ⟨tm,os,s⟩ Q :=
 .skip hw (by rw[hd]; exact k)
theorem AOps.pureR {d:Nat} {v v':AV} (hw:wantedA o all tm=some true) (hc:callee? o tm=none) (hm:moveOp C I o ⟨tm,os,s⟩=none) (h:pureOp C o tm=some v) (hd:o.dst=some d) (hv:v=v')
  (k:AOps C I draw all l ⟨upd tm d v',upd os d false,s⟩ Q):AOps C I draw all (o::l) ⟨tm,os,s⟩ Q:=by
 subst hv
 exact .op hw hc (f':=⟨upd tm d v,upd os d false,s⟩) (by unfold opF; rw[hm]; simp[h,Fr.put,hd]) k
theorem AOps.p {d:Nat} {v v':AV} (h:(wantedA o all tm,callee? o tm,moveOp C I o ⟨tm,os,s⟩,pureOp C o tm,o.dst)=(some true,none,none,some v,some d)) (hv:v=v')
  (k:AOps C I draw all l ⟨upd tm d v',upd os d false,s⟩ Q):AOps C I draw all (o::l) ⟨tm,os,s⟩ Q:=by
 simp only[Prod.mk.injEq] at h
 exact .pureR h.1 h.2.1 h.2.2.1 h.2.2.2.1 h.2.2.2.2 hv k
theorem AOps.assignR {d x:Nat} {v':AV} {b:Bool} (hw:wantedA o all tm=some true) (hx:o.op=.assign (.tmp x)) (hd:o.dst=some d) (hv:tm x=v') (hb:os x=b)
  (k:AOps C I draw all l ⟨upd tm d v',upd (upd os x false) d b,s⟩ Q):AOps C I draw all (o::l) ⟨tm,os,s⟩ Q:=by
 subst hv; subst hb
 exact .op hw (by unfold callee?; rw[hx]) (f':=⟨upd tm d (tm x),upd (upd os x false) d (os x),s⟩) (by unfold opF moveOp; rw[hx]; simp[Fr.put,hd]) k
theorem AOps.makeR {d:Nat} {v v':AV} (hw:wantedA o all tm=some true) (hc:callee? o tm=none) (hm:moveOp C I o ⟨tm,os,s⟩=none) (hp:pureOp C o tm=none) (h:makeOp C I o tm=some v) (hd:o.dst=some d) (hv:v=v')
  (k:AOps C I draw all l ⟨upd tm d v',upd os d false,s⟩ Q):AOps C I draw all (o::l) ⟨tm,os,s⟩ Q:=by
 subst hv
 exact .op hw hc (f':=⟨upd tm d v,upd os d false,s⟩) (by unfold opF; rw[hm]; simp[hp,h,Fr.put,hd]) k
theorem AOps.callR {d g args} (hw:wantedA o all tm=some true) (hc:callee? o tm=some (g,args)) (hd:o.dst=some d)
  (k:ACall C g args s fun v ow s'=>AOps C I false all l ⟨upd tm d v,upd os d ow,s'⟩ Q) (ha:alias I o=false:=by rfl):AOps C I false all (o::l) ⟨tm,os,s⟩ Q :=
 .call hw hc (by simpa[Fr.put,hd] using k) ha
theorem AOps.callRA {d g args} {al:Bool} (hw:wantedA o all tm=some true) (hc:callee? o tm=some (g,args)) (hd:o.dst=some d) (ha:alias I o=al)
  (k:ACall C g args s (fun v ow s'=>AOps C I false all l ⟨upd tm d v,upd os d ow,s'⟩ Q) al):AOps C I false all (o::l) ⟨tm,os,s⟩ Q :=
 .callA hw hc ha (by simpa[Fr.put,hd] using k)
theorem AOps.callDR {d g args} (hw:wantedA o all tm=some true) (hc:callee? o tm=some (g,args)) (hd:o.dst=some d)
  (k:ACall C g args s.still fun v ow _=>v.pureB s.n=true∧AOps C I true all l ⟨upd tm d v,upd os d ow,s⟩ Q) (ha:alias I o=false:=by rfl) (he:eff I o=false:=by rfl):AOps C I true all (o::l) ⟨tm,os,s⟩ Q :=
 .callD hw hc (by simpa[Fr.put,hd] using k) ha he
theorem AOps.callER {d g args} (hw:wantedA o all tm=some true) (hc:callee? o tm=some (g,args)) (hd:o.dst=some d) {al:Bool} (ha:alias I o=al) (he:eff I o=true)
  (k:ACall C g args s (fun v ow s'=>s.n≤s'.n∧AOps C I true all l ⟨upd tm d v,upd os d ow,s'⟩ Q) al):AOps C I true all (o::l) ⟨tm,os,s⟩ Q :=
 .callE hw hc ha he (by simpa[Fr.put,hd] using k)
theorem AOps.nilR (k:Q ⟨tm,os,s⟩):AOps C I draw all [] ⟨tm,os,s⟩ Q:=.nil k
theorem updL_self {α:Type} {f:Nat→α}:∀ {L:List (Nat × α)},(∀ p∈L,f p.1=p.2)→updL f L=f
 | [],_=>rfl
 | (i,c)::L,h=>by
  rw[updL,updL_self (fun p hp=>h p (by simp[hp]))]
  funext j
  unfold upd
  split
  ·rename_i e; subst e; exact (h (_,c) (by simp)).symm
  ·rfl
end
end Ae
namespace Ae
open Go

def UOk (P:Program) (t:Nat):UK→Prop
 | .int k=>P.underlying t=some (.int k)
 | .bool=>P.underlying t=some .bool
 | .str=>P.underlying t=some .string
 | .slice e=>P.underlying t=some (.slice e)
 | .struct fs=>∃ F,P.underlying t=some (.struct F)∧F.toList.map (fun f=>(f.offset,f.type))=fs
 | .array n e=>P.underlying t=some (.array n e)
 | .ptr=>∃ e,P.underlying t=some (.pointer e)
 | .func=>∃ a b c,P.underlying t=some (.func a b c)
 | .other=>True

structure TIok (P:Program) (t:Nat) (ti:TI):Prop where
 u:UOk P t ti.u
 n:ti.u≠.other
 i:∃ i,P.info? t=some i∧i.size=ti.size∧i.bytes=ti.bytes∧∃ z,i.zero=some z∧∀ E,V E ti.zero z

def TysOk (P:Program) (C:Cfg):Prop:=∀ t ti,C.ty t=some ti→TIok P t ti

section
variable {P:Program} {C:Cfg} {E:Env} {a:Act} {tm:Nat→AV}

theorem evalO_ok (h:∀ t,V E (tm t) (a.tmps.getD t undef)) (x:Operand):V E (evalO tm x) (a.eval x):=by
 cases x with
 | tmp t=>exact h t
 | const v =>
  cases v with
  | int k n=>exact .int k n
  | bool b=>exact .bool b
  | string s=>exact .str s
  | pointer p=>cases p with
   | none=>exact .nilp
   | some p=>exact .undef _
  | slice p n c =>
   cases p with
   | none =>
    cases n with
    | zero=>cases c with
     | zero=>exact .slNil 0 true none
     | succ c=>exact .undef _
    | succ n=>exact .undef _
   | some p=>exact .undef _
  | nilFunc=>exact .nilfn
  | _=>exact .undef _
 | global g=>exact .undef _
 | func f=>exact .fn f [] #[] rfl (fun i c v hc=>by simp at hc)

theorem sizeOf_run {t:Nat} {ti:TI} (ht:TIok P t ti) (w:World):(Go.sizeOf t).run P w=.ok ti.size w:=by
 obtain ⟨i,hi,hs,_⟩:=ht.i
 simp[Go.sizeOf,typeInfo,hi,hs]

theorem isAgg_run {t:Nat} {ti:TI} (ht:TIok P t ti) (hn:ti.u≠.other) (w:World):(isAgg t).run P w=.ok ti.isAgg w:=by
 have hu:=ht.u
 unfold TI.isAgg
 cases h:ti.u<;>rw[h] at hu<;>simp only[UOk] at hu
 case other=>exact absurd h hn
 case struct fs=>obtain ⟨F,hF,_⟩:=hu; simp[isAgg,underlying,hF]
 case ptr=>obtain ⟨e,he⟩:=hu; simp[isAgg,underlying,he]
 case func=>obtain ⟨p,q,r,he⟩:=hu; simp[isAgg,underlying,he]
 all_goals simp[isAgg,underlying,hu]

def Yld (P:Program) (E:Env) (a:Act) (o:Oper) (v:AV):Prop:=∃ x,(execOp a.eval o).run P E.w=.ok (.value x) E.w∧V E v x

theorem binOp_same {op:BinOp} (hs:isShift op=false) (k:IntKind) (m n:Int) (t:Nat):binOp op t (.int k m) (.int k n)=match op with
  | .add | .sub | .mul=>Op.intArith op k m n
  | .quo | .rem=>Op.intDiv op k m n
  | .and | .or | .xor | .andNot=>Op.intBits op k m n
  | _=>Op.intCmp op m n:=by
 cases op<;>simp only[isShift] at hs<;>first | (cases hs; done) | (simp only[binOp]; rw[if_neg (fun h=>h rfl)])

theorem binI_ok {op:BinOp} {k:IntKind} {m n:Int} {v:AV} (hs:isShift op=false) (h:binI op k m n=some v) (t:Nat):∃ x,(binOp op t (.int k m) (.int k n)).run P E.w=.ok x E.w∧V E v x:=by
 rw[binOp_same hs]
 cases op<;>simp only[binI] at h
 case quo =>
  by_cases hz:n=0
  ·simp[hz] at h
  ·rw[if_neg hz] at h; cases h
   refine ⟨.int k (k.wrap (m.tdiv n)),?_,.int _ _⟩
   simp[Op.intDiv,hz]
 case rem =>
  by_cases hz:n=0
  ·simp[hz] at h
  ·rw[if_neg hz] at h; cases h
   refine ⟨.int k (m.tmod n),?_,.int _ _⟩
   simp[Op.intDiv,hz]
 all_goals first
  | (cases h; done)
  | (cases h; exact ⟨_,rfl,.int _ _⟩)
  | (cases h; exact ⟨_,rfl,.bool _⟩)

theorem shiftI_ok {op:BinOp} {k k':IntKind} {m n:Int} {v:AV} (hs:isShift op=true) (h:shiftI op k m n=some v) (t:Nat):∃ x,(binOp op t (.int k m) (.int k' n)).run P E.w=.ok x E.w∧V E v x:=by
 unfold shiftI at h
 by_cases hn:n<0
 ·simp[hn] at h
 ·rw[if_neg hn] at h
  cases op<;>simp[isShift] at hs<;>simp only[Option.some.injEq] at h<;>subst h
  ·exact ⟨_,by simp[binOp,Op.shift,hn],.int _ _⟩
  ·exact ⟨_,by simp[binOp,Op.shift,hn],.int _ _⟩

theorem strA_ok {op:BinOp} {p q:ByteArray} {v:AV} (h:strA op p.data.toList q.data.toList=some v) (t:Nat):∃ x,(binOp op t (.string p) (.string q)).run P E.w=.ok x E.w∧V E v x:=by
 cases op<;>simp only[strA] at h<;>try (first | cases h)
 case add =>
  split at h
  ·rename_i hl
   cases h
   refine ⟨.string (p++q),?_,?_⟩
   ·have h2:p.size+q.size≤549755813888:=hl
    have h3:IntKind.i64.max=9223372036854775807:=by decide
    have:¬ (((p.size+q.size:Nat):Int)>IntKind.i64.max):=by rw[h3]; omega
    simp only[binOp,Op.stringOp]
    rw[if_neg this]
    rfl
   ·have e:(p++q).data.toList=p.data.toList++q.data.toList:=by simp
    rw[← e]; exact .str _
  ·cases h
 all_goals (refine ⟨_,by simp only[binOp,Op.stringOp,ByteArray.toList_eq]; rfl,?_⟩; exact .bool _)

theorem equal_run {t:Nat} {x y:Value} {r:Bool} (w:World) (h:∀ d,(Op.equalIn (d+1) t x y).run P w=.ok r w):(Op.equal t x y).run P w=.ok r w:=h 9999

theorem equal_bool {t:Nat} (ht:P.underlying t=some .bool) (p q:Bool) (w:World):(Op.equal t (.bool p) (.bool q)).run P w=.ok (p == q) w :=
 equal_run w fun d=>by simp[Op.equalIn,underlying,ht]

theorem nilEq_ok {x y:AV} {r:Bool} {t:Nat} {X Y:Value} (h:nilEq x y=some r) (hX:V E x X) (hY:V E y Y) (ht:∃ e,P.underlying t=some (.pointer e)) :
  (∃ p,X=.pointer p)∧(Op.equal t X Y).run P E.w=.ok r E.w:=by
 obtain ⟨e,he⟩:=ht
 cases hX<;>cases hY<;>simp only[nilEq] at h<;>first
  | (cases h; done)
  | (cases h; exact ⟨⟨_,rfl⟩,equal_run _ fun d=>by simp[Op.equalIn,underlying,he]⟩)

theorem nilEqF_ok {x y:AV} {r:Bool} {t:Nat} {X Y:Value} (h:nilEqF x y=some r) (hX:V E x X) (hY:V E y Y) (ht:∃ a b c,P.underlying t=some (.func a b c)) :
  (X=.nilFunc∨∃ g vs,X=.func (.func g) #[] vs)∧(Op.equal t X Y).run P E.w=.ok r E.w:=by
 obtain ⟨q,b,c,he⟩:=ht
 cases hX<;>cases hY<;>simp only[nilEqF] at h<;>first
  | (cases h; done)
  | (cases h; exact ⟨.inl rfl,equal_run _ fun d=>by simp[Op.equalIn,underlying,he]⟩)
  | (cases h; exact ⟨.inr ⟨_,_,rfl⟩,equal_run _ fun d=>by simp[Op.equalIn,underlying,he]⟩)

theorem binOp_eq {op:BinOp} {e:Bool} (he:eqOp op=some e) {t:Nat} {X Y:Value} {r:Bool} (hX:(∃ b,X=.bool b)∨(∃ p,X=.pointer p)∨X=.nilFunc∨∃ g vs,X=.func (.func g) #[] vs)
  (h:(Op.equal t X Y).run P E.w=.ok r E.w):(binOp op t X Y).run P E.w=.ok (.bool (if e then r else !r)) E.w:=by
 cases op<;>simp only[eqOp] at he<;>try (first | cases he)
 all_goals rcases hX with ⟨b,rfl⟩ | ⟨p,rfl⟩ | rfl | ⟨g,vs,rfl⟩<;>cases Y<;>simp[binOp,h]

theorem eqGuard_run (op:BinOp) (t:Nat) (x y:Operand) {X Y:Value} (hX:∀ vs,X≠.agg vs) (hI:X≠.nilIface) (w:World):(eqGuard op t x y X Y).run P w=.ok () w:=by
 have:eqGuard op t x y X Y=pure ():=by
  unfold eqGuard
  generalize (!(match op with | .eql | .neq=>true | _=>false))=c
  cases c
  ·cases X<;>first
    | exact absurd rfl (hX _)
    | exact absurd rfl hI
    | (cases Y<;>rfl)
  ·rfl
 rw[this]; rfl

theorem binA_ok {op:BinOp} {t:Nat} {x y:AV} {v:AV} (hty:TysOk P C) (h:binA C op t x y=some v) {X Y:Value} (hX:V E x X) (hY:V E y Y) (ox oy:Operand) :
  ∃ z,(do eqGuard op t ox oy X Y; binOp op t X Y:Sem Value).run P E.w=.ok z E.w∧V E v z:=by
 have key:∀ {z},(∀ vs,X≠.agg vs)→X≠.nilIface→(binOp op t X Y).run P E.w=.ok z E.w→(do eqGuard op t ox oy X Y; binOp op t X Y:Sem Value).run P E.w=.ok z E.w:=by
  intro z h1 h2 h3
  rw[Sem.run_bind,eqGuard_run op t ox oy h1 h2]
  exact h3
 unfold binA at h
 split at h
 ·rename_i k m k' n
  cases hX with | int=>?_
  cases hY with | int=>?_
  by_cases hs:isShift op=true
  ·rw[if_pos hs] at h
   obtain ⟨z,hz,hv⟩:=shiftI_ok (P:=P) (E:=E) (k':=k') hs h t
   exact ⟨z,key (by simp) (by simp) hz,hv⟩
  ·rw[if_neg hs] at h
   by_cases hk:k=k'
   ·subst hk
    rw[if_pos rfl] at h
    obtain ⟨z,hz,hv⟩:=binI_ok (P:=P) (E:=E) (by simpa using hs) h t
    exact ⟨z,key (by simp) (by simp) hz,hv⟩
   ·rw[if_neg hk] at h; cases h
 ·cases hX with | str p=>?_
  cases hY with | str q=>?_
  obtain ⟨z,hz,hv⟩:=strA_ok (P:=P) (E:=E) h t
  exact ⟨z,key (by simp) (by simp) hz,hv⟩
 ·rename_i p q
  cases hX with | bool=>?_
  cases hY with | bool=>?_
  split at h
  ·rename_i e hT he
   have hu:=(hty _ _ hT).u
   cases h
   exact ⟨_,key (by simp) (by simp) (binOp_eq he (.inl ⟨_,rfl⟩) (equal_bool hu p q E.w)),.bool _⟩
  ·cases h
 ·split at h
  ·rename_i e hT he
   have hu:=(hty _ _ hT).u
   cases hr:nilEq x y with
   | none=>rw[hr] at h; cases h
   | some r =>
    rw[hr] at h; cases h
    obtain ⟨hp,h3⟩:=nilEq_ok (P:=P) (t:=t) hr hX hY hu
    exact ⟨_,key (by obtain ⟨p,rfl⟩:=hp; simp) (by obtain ⟨p,rfl⟩:=hp; simp) (binOp_eq he (.inr (.inl hp)) h3),.bool _⟩
  ·rename_i e hT he
   have hu:=(hty _ _ hT).u
   cases hr:nilEqF x y with
   | none=>rw[hr] at h; cases h
   | some r =>
    rw[hr] at h; cases h
    obtain ⟨hp,h3⟩:=nilEqF_ok (P:=P) (t:=t) hr hX hY hu
    exact ⟨_,key (by rcases hp with rfl | ⟨g,vs,rfl⟩<;>simp) (by rcases hp with rfl | ⟨g,vs,rfl⟩<;>simp) (binOp_eq he (.inr (.inr hp)) h3),.bool _⟩
  ·cases h
theorem nilSl_ok {op:BinOp} {t:Nat} {x:AV} {y:Operand} {v:AV} (hty:TysOk P C) (h:nilSl C op t x y=some v) {X:Value} (hX:V E x X) {a:Act} (ox:Operand) :
  ∃ z,(do eqGuard op t ox y X (a.eval y); binOp op t X (a.eval y):Sem Value).run P E.w=.ok z E.w∧V E v z:=by
 unfold nilSl at h
 split at h
 ·rename_i e _ _ _ b sz f c cs hT he
  cases h
  have hu:=(hty _ _ hT).u
  cases hX with
  | sl _ _ _ g o cap vals =>
   have e0:a.eval (.const (.slice none 0 0))=.slice none 0 0:=rfl
   rw[e0]
   have key:(binOp op t (.slice (some ⟨g,o,none⟩) (c::cs).length cap) (.slice none 0 0)).run P E.w=.ok (.bool !b) E.w:=by
    have hu':P.underlying t=some (.slice e):=hu
    have h9:∀ d (n:Nat),(Op.equalIn (d+1) t (.slice (some ⟨g,o,none⟩) n cap) (.slice none 0 0)).run P E.w=.ok false E.w:=by
     intro d n
     simp[Op.equalIn,run_underlying hu']
    have h8:∀ n:Nat,(Op.equal t (.slice (some ⟨g,o,none⟩) n cap) (.slice none 0 0)).run P E.w=.ok false E.w:=h9 9999
    cases op<;>simp only[eqOp] at he<;>try (cases he; done)
    ·cases he
     simp only[binOp]
     simp[h8]
    ·cases he
     simp only[binOp]
     simp[h8]
   exact ⟨_,by rw[Sem.run_bind,eqGuard_run op t ox _ (by simp) (by simp)]; exact key,.bool _⟩
 ·cases h
end
end Ae
namespace Ae
open Go
section
variable {P:Program} {C:Cfg} {E:Env} {a:Act} {tm:Nat→AV}

theorem unA_ok {op:UnOp} {x v:AV} (h:unA op x=some v) {X:Value} (hX:V E x X):∃ z,(Op.unary op X).run P E.w=.ok z E.w∧V E v z:=by
 cases op<;>cases hX<;>simp only[unA] at h<;>first
  | (cases h; done)
  | (cases h; exact ⟨_,rfl,.bool _⟩)
  | (cases h; exact ⟨_,rfl,.int _ _⟩)

theorem idx_some {i:Int} {n m:Nat} (h:idx i n=some m):0≤i∧i<n∧m=i.toNat∧m<n:=by
 unfold idx at h
 split at h
 ·rename_i hi
  cases h
  exact ⟨hi.1,hi.2,rfl,by omega⟩
 ·cases h

theorem part_ok {t:Nat} {ti:TI} (ht:TIok P t ti) (hn:ti.u≠.other) {cs:List AV} {off:Nat} {v:AV} (h:part ti cs off=some v) {vs:Array Value}
  (hl:cs.length=vs.size) (h0:∀ (i:Nat) c,cs[i]?=some c→c.one=true) (hv:∀ (i:Nat) c x,cs[i]?=some c→vs[i]?=some x→V E c x) (w:World) :
  ∃ z,(Go.part t vs off).run P w=.ok z w∧V E v z:=by
 unfold part at h
 unfold Go.part
 rw[Sem.run_bind,isAgg_run ht hn]
 simp only[Result.andThen_ok]
 by_cases ha:ti.isAgg=true
 ·rw[if_pos ha] at h
  simp only[ha,if_true]
  split at h
  ·rename_i hle
   cases h
   refine ⟨.agg (vs.extract off (off+ti.size)),by simp[sizeOf_run ht],?_⟩
   refine .agg _ _ ?_ ?_ ?_
   ·simp; omega
   ·intro i c hc
    rw[List.getElem?_take] at hc
    split at hc
    ·rw[List.getElem?_drop] at hc; exact h0 _ _ hc
    ·cases hc
   ·intro i c x hc hx
    rw[List.getElem?_take] at hc
    split at hc
    ·rename_i hi
     rw[List.getElem?_drop] at hc
     refine hv _ _ _ hc ?_
     rw[Array.getElem?_extract] at hx
     split at hx
     ·exact hx
     ·cases hx
    ·cases hc
  ·cases h
 ·rw[if_neg ha] at h
  simp only[ha]
  have hlt:off<vs.size:=by
   rcases Nat.lt_or_ge off cs.length with h' | h'
   ·omega
   ·rw[List.getElem?_eq_none h'] at h; cases h
  have hx:vs[off]?=some vs[off]:=Array.getElem?_eq_getElem hlt
  exact ⟨vs[off],by simp[hx],hv off v _ h hx⟩

theorem index_str_ok {t:Nat} (ht:P.underlying t=some .string) {s:ByteArray} {k:IntKind} {n:Int} {m:Nat} (h:idx n s.data.toList.length=some m) (w:World) :
  (Instr.index t (.string s) (.int k n)).run P w=.ok (.int .u8 ((s.data.toList.getD m 0).toNat:Int)) w:=by
 obtain ⟨h0,h1,rfl,h2⟩:=idx_some h
 have hs:n.toNat<s.size:=by simpa using h2
 have e:s.data.toList.getD n.toNat 0=s[n.toNat]:=by
  rw[List.getD_eq_getElem?_getD,List.getElem?_eq_getElem h2]
  rfl
 rw[e]
 simp[Instr.index,asIntOf,underlying,ht,h0,ByteArray.getElem?_lt' s n.toNat hs]

theorem V.elem {sz:Nat} {f:Bool} {els:List AV} {g o n cap:Nat} (h:V E (.sl sz f els) (.slice (some ⟨g,o,none⟩) n cap)) {m:Nat} (hm:m<els.length) :
  V E (.eptr (els.getD m .undef).cells 0) (.pointer (some ⟨g,o+m*sz,none⟩))∧(els.getD m .undef).cells.length=sz:=by
 cases h with
 | slNil=>simp at hm
 | sl sz f els g o cap vals hc hf hz h0 h1 h2 h3 =>
  have he:els[m]?=some (els.getD m .undef):=by rw[List.getD_eq_getElem?_getD,List.getElem?_eq_getElem hm]; rfl
  refine ⟨?_,hz m _ he⟩
  have:=V.eptr (E:=E) (els.getD m .undef).cells 0 g (o+m*sz) (vals m) (fun j c hc=>h0 m _ j c he hc) (fun j c hc=>h1 m _ j c he hc) (fun j c hc=>h2 m _ j c he hc) (fun j c hc=>h3 m _ j c he hc)
  simpa using this

theorem addr_add (g o n:Nat):(⟨g,o,none⟩:Addr).add n=⟨g,o+n,none⟩:=by
 unfold Addr.add
 split
 ·rename_i h; subst h; rfl
 ·rfl

theorem indexAt_slice {t e:Nat} {ei:TI} (ht:P.underlying t=some (.slice e)) (he:TIok P e ei) {g o len cap:Nat} {k:IntKind} {n:Int} {m:Nat} (h:idx n len=some m) (w:World) :
  (Instr.indexAt t (.slice (some ⟨g,o,none⟩) len cap) (.int k n)).run P w=.ok (.pointer (some ⟨g,o+m*ei.size,none⟩)) w:=by
 obtain ⟨h0,h1,rfl,h2⟩:=idx_some h
 simp[Instr.indexAt,asIntOf,underlying,ht,h0,h1,sizeOf_run he,addr_add]

theorem indexAt_array {t e n':Nat} {ei:TI} (ht:P.underlying t=some (.array n' e)) (he:TIok P e ei) {g o:Nat} {k:IntKind} {n:Int} {m:Nat} (h:idx n n'=some m) (w:World) :
  (Instr.indexAt t (.pointer (some ⟨g,o,none⟩)) (.int k n)).run P w=.ok (.pointer (some ⟨g,o+m*ei.size,none⟩)) w:=by
 obtain ⟨h0,h1,rfl,h2⟩:=idx_some h
 simp[Instr.indexAt,asIntOf,underlying,ht,h0,h1,sizeOf_run he,addr_add,Instr.sureAddr]

theorem index_array_ok {t e n':Nat} {ei:TI} (ht:P.underlying t=some (.array n' e)) (he:TIok P e ei) (hn:ei.u≠.other) {k:IntKind} {n:Int} {m:Nat} (h:idx n n'=some m) {cs:List AV} {v:AV} {vs:Array Value} (hp:part ei cs (m*ei.size)=some v)
  (hV:V E (.agg cs) (.agg vs)) (w:World):∃ z,(Instr.index t (.agg vs) (.int k n)).run P w=.ok z w∧V E v z:=by
 obtain ⟨h0,h1,rfl,h2⟩:=idx_some h
 cases hV with
 | agg cs vs hl hh0 hh =>
  obtain ⟨z,hz,hv⟩:=part_ok he hn hp hl hh0 hh w
  exact ⟨z,by simp[Instr.index,asIntOf,underlying,ht,h0,h1,sizeOf_run he,hz],hv⟩

theorem fieldAt_ok {t f off ft:Nat} {fs:List (Nat × Nat)} {F:Array Field} (ht:P.underlying t=some (.struct F)) (hF:F.toList.map (fun f=>(f.offset,f.type))=fs) (hf:fs[f]?=some (off,ft)) {fi:TI} (hfi:TIok P ft fi) (hz:fi.size≠0) {g o:Nat} (w:World) :
  (Instr.fieldAt t (.pointer (some ⟨g,o,none⟩)) f).run P w=.ok (.pointer (some ⟨g,o+off,none⟩)) w:=by
 subst hF
 rw[List.getElem?_map] at hf
 cases hx:F.toList[f]? with
 | none=>rw[hx] at hf; cases hf
 | some d =>
  rw[hx] at hf
  simp only[Option.map_some,Option.some.injEq,Prod.mk.injEq] at hf
  obtain ⟨rfl,rfl⟩:=hf
  have hx':F[f]?=some d:=by simpa using hx
  simp[Instr.fieldAt,underlying,ht,hx',Instr.sureAddr,fieldPlace,sizeOf_run hfi,hz,addr_add]

theorem field_ok {t f off ft:Nat} {fs:List (Nat × Nat)} {F:Array Field} (ht:P.underlying t=some (.struct F)) (hF:F.toList.map (fun f=>(f.offset,f.type))=fs) (hf:fs[f]?=some (off,ft)) {fi:TI} (hfi:TIok P ft fi) (hn:fi.u≠.other) {cs:List AV} {v:AV} {vs:Array Value} (hp:part fi cs off=some v)
  (hV:V E (.agg cs) (.agg vs)) (w:World):∃ z,(Instr.field t (.agg vs) f).run P w=.ok z w∧V E v z:=by
 subst hF
 rw[List.getElem?_map] at hf
 cases hx:F.toList[f]? with
 | none=>rw[hx] at hf; cases hf
 | some d =>
  rw[hx] at hf
  simp only[Option.map_some,Option.some.injEq,Prod.mk.injEq] at hf
  obtain ⟨rfl,rfl⟩:=hf
  have hx':F[f]?=some d:=by simpa using hx
  cases hV with
  | agg cs vs hl hh0 hh =>
   obtain ⟨z,hz,hv⟩:=part_ok hfi hn hp hl hh0 hh w
   exact ⟨z,by simp[Instr.field,underlying,ht,hx',asAgg,hz],hv⟩
end
end Ae
namespace Ae
open Go
section
variable {P:Program} {C:Cfg} {E:Env} {a:Act} {tm:Nat→AV}

def VO (E:Env):Option AV→Option Value→Prop
 | some x,some X=>V E x X
 | none,none=>True
 | _,_=>False

theorem vo_map (h:∀ t,V E (tm t) (a.tmps.getD t undef)) (x:Option Operand):VO E (x.map (evalO tm)) (x.map a.eval):=by
 cases x with
 | none=>trivial
 | some x=>exact evalO_ok h x

theorem sliceBound_run {k:IntKind} {i:Int} {y:Nat} {code:BoundsCode} (h0:0≤i) (h1:i≤y) (w:World):(Instr.sliceBound (.int k i) y code).run P w=.ok i.toNat w:=by
 simp[Instr.sliceBound,asIntOf,h0,h1]

theorem bnd_ok {x:AV} {lim r:Nat} (h:bnd x lim=some r) {X:Value} (hX:V E x X):∃ k n,X=.int k n∧0≤n∧n≤(lim:Int)∧r=n.toNat∧r≤lim:=by
 cases x<;>simp only[bnd] at h<;>try (cases h; done)
 rename_i k n
 cases hX
 split at h
 ·rename_i hx; cases h; exact ⟨k,n,rfl,hx.1,hx.2,rfl,by omega⟩
 ·cases h

theorem low_ok {lo:Option AV} {LO:Option Value} (hV:VO E lo LO) {h l:Nat} (hl:bndO lo h 0=some l) :
  l≤h∧((LO=none∧l=0)∨∃ k n,LO=some (.int k n)∧0≤n∧n≤(h:Int)∧l=n.toNat):=by
 cases lo with
 | none=>cases LO with
  | none=>cases hl; exact ⟨Nat.zero_le _,.inl ⟨rfl,rfl⟩⟩
  | some X=>exact hV.elim
 | some x=>cases LO with
  | none=>exact hV.elim
  | some X =>
   obtain ⟨k,n,rfl,h0,h1,rfl,h2⟩:=bnd_ok (E:=E) hl hV
   exact ⟨h2,.inr ⟨k,n,rfl,h0,h1,rfl⟩⟩

theorem sliceBounds_run {isS:Bool} {len cap l h m:Nat} {LO HI MX:Option Value} (hm:(MX=none∧m=cap)∨∃ k n,MX=some (.int k n)∧0≤n∧n≤(cap:Int)∧m=n.toNat)
  (hh:(HI=none∧MX=none∧h=len)∨∃ k n,HI=some (.int k n)∧0≤n∧n≤(m:Int)∧h=n.toNat)
  (hl:(LO=none∧l=0)∨∃ k n,LO=some (.int k n)∧0≤n∧n≤(h:Int)∧l=n.toNat) (w:World) :
  (Instr.sliceBounds isS len cap LO HI MX).run P w=.ok (l,h,m) w:=by
 unfold Instr.sliceBounds
 rcases hm with ⟨rfl,rfl⟩ | ⟨k0,n0,rfl,p0,q0,rfl⟩
 ·rcases hh with ⟨rfl,-,rfl⟩ | ⟨k1,n1,rfl,p1,q1,rfl⟩
  ·rcases hl with ⟨rfl,rfl⟩ | ⟨k2,n2,rfl,p2,q2,rfl⟩
   ·simp
   ·simp[sliceBound_run p2 q2]
  ·rcases hl with ⟨rfl,rfl⟩ | ⟨k2,n2,rfl,p2,q2,rfl⟩
   ·simp[sliceBound_run p1 q1]
   ·simp[sliceBound_run p1 q1,sliceBound_run p2 q2]
 ·rcases hh with ⟨rfl,h',rfl⟩ | ⟨k1,n1,rfl,p1,q1,rfl⟩
  ·cases h'
  ·rcases hl with ⟨rfl,rfl⟩ | ⟨k2,n2,rfl,p2,q2,rfl⟩
   ·simp[sliceBound_run p0 q0,sliceBound_run p1 q1]
   ·simp[sliceBound_run p0 q0,sliceBound_run p1 q1,sliceBound_run p2 q2]

theorem sliceA_bounds {sz:Nat} {f:Bool} {els:List AV} {lo hi mx:Option AV} {v:AV} (h:sliceA sz f els lo hi mx=some v) {cap:Nat} (hc:els.length≤cap) (hf:f=true→cap=els.length)
  {LO HI MX:Option Value} (hlo:VO E lo LO) (hhi:VO E hi HI) (hmx:VO E mx MX) :
  ∃ l hh M f',v=.sl sz f' ((els.drop l).take (hh - l))∧l≤hh∧hh≤M∧M≤cap∧hh≤els.length∧(f'=true→M=hh)∧∀ w:World,(Instr.sliceBounds true els.length cap LO HI MX).run P w=.ok (l,hh,M) w:=by
 unfold sliceA at h
 cases mx with
 | none =>
  cases MX with
  | some X=>exact hmx.elim
  | none =>
   simp only[Option.bind_eq_some_iff,Option.map_eq_some_iff] at h
   obtain ⟨hh,h1,l,h2,rfl⟩:=h
   obtain ⟨h3,h4⟩:=low_ok (E:=E) hlo h2
   cases hi with
   | none =>
    cases HI with
    | some X=>exact hhi.elim
    | none =>
     cases h1
     exact ⟨l,_,cap,_,rfl,h3,hc,Nat.le_refl _,Nat.le_refl _,fun hx=>hf (by simpa using hx),fun w=>sliceBounds_run (.inl ⟨rfl,rfl⟩) (.inl ⟨rfl,rfl,rfl⟩) h4 w⟩
   | some y =>
    cases HI with
    | none=>exact hhi.elim
    | some Y =>
     obtain ⟨k,n,rfl,p0,p1,rfl,p2⟩:=bnd_ok (E:=E) h1 hhi
     refine ⟨l,_,cap,_,rfl,h3,by omega,Nat.le_refl _,p2,fun hx=>?_,fun w=>sliceBounds_run (.inl ⟨rfl,rfl⟩) (.inr ⟨k,n,rfl,p0,by omega,rfl⟩) h4 w⟩
     simp only[Bool.and_eq_true,decide_eq_true_eq] at hx
     rw[hf hx.1,hx.2]
 | some q =>
  cases MX with
  | none=>exact hmx.elim
  | some Q =>
   cases hi with
   | none=>cases h
   | some y =>
    cases HI with
    | none=>exact hhi.elim
    | some Y =>
     simp only[Option.bind_eq_some_iff,Option.map_eq_some_iff] at h
     obtain ⟨m,h0,hh,h1,l,h2,rfl⟩:=h
     obtain ⟨h3,h4⟩:=low_ok (E:=E) hlo h2
     obtain ⟨k,n,rfl,p0,p1,rfl,p2⟩:=bnd_ok (E:=E) h0 hmx
     obtain ⟨k',n',rfl,p0',p1',rfl,p2'⟩:=bnd_ok (E:=E) h1 hhi
     exact ⟨l,_,_,_,rfl,h3,p2',by omega,by omega,fun hx=>by simpa using hx,fun w=>sliceBounds_run (.inr ⟨k,n,rfl,p0,by omega,rfl⟩) (.inr ⟨k',n',rfl,p0',p1',rfl⟩) h4 w⟩

theorem sliceMs_ok {ag:Bool} {sz b off len:Nat} {lo hi:Option AV} {v:AV} (h:((bndO hi len len).bind fun h=>(bndO lo h 0).map fun l=>AV.ms ag sz b (off+l*sz) (h - l))=some v) {t e:Nat} (ht:P.underlying t=some (.slice e)) {ei:TI} (he:TIok P e ei) (hsz:sz=ei.size)
  {X:Value} (hX:V E (.ms ag sz b off len) X) {LO HI:Option Value} (hlo:VO E lo LO) (hhi:VO E hi HI) (w:World) :
  ∃ z,(Instr.sliceAt t X LO HI none).run P w=.ok z w∧V E v z:=by
 have run:∀ {A:Option Addr} {n cap l hh M:Nat},(∀ w:World,(Instr.sliceBounds true n cap LO HI none).run P w=.ok (l,hh,M) w) →
   (Instr.sliceAt t (.slice A n cap) LO HI none).run P w=.ok (.slice (if M=l then A else A.map (·.add (l*ei.size))) (hh - l) (M - l)) w:=by
  intro A n cap l hh M hb
  simp[Instr.sliceAt,underlying,ht,Instr.slice,hb,sizeOf_run he]
 simp only[Option.bind_eq_some_iff,Option.map_eq_some_iff] at h
 obtain ⟨hh,h1,l,h2,rfl⟩:=h
 obtain ⟨h3,h4⟩:=low_ok (E:=E) hlo h2
 have bounds:∀ cap,len≤cap→hh≤len∧∀ w:World,(Instr.sliceBounds true len cap LO HI none).run P w=.ok (l,hh,cap) w:=by
  intro cap hcap
  cases hi with
  | none =>
   cases HI with
   | some X=>exact hhi.elim
   | none=>cases h1; exact ⟨Nat.le_refl _,fun w=>sliceBounds_run (.inl ⟨rfl,rfl⟩) (.inl ⟨rfl,rfl,rfl⟩) h4 w⟩
  | some y =>
   cases HI with
   | none=>exact hhi.elim
   | some Y =>
    obtain ⟨k,n,rfl,p0,p1,rfl,p2⟩:=bnd_ok (E:=E) h1 hhi
    exact ⟨p2,fun w=>sliceBounds_run (.inl ⟨rfl,rfl⟩) (.inr ⟨k,n,rfl,p0,by omega,rfl⟩) h4 w⟩
 cases hX with
 | ms _ _ _ _ _ cap hb hc hp =>
  obtain ⟨k1,k2⟩:=bounds cap hc
  refine ⟨_,run k2,?_⟩
  by_cases hml:cap=l
  ·rw[if_pos hml,show hh - l=0 by omega,show cap - l=0 by omega]
   exact .msE _ _ _ _ _ hb (fun x hx=>by cases hx; rfl)
  ·rw[if_neg hml]
   simp only[Option.map_some,addr_add]
   subst hsz
   rw[Nat.add_assoc (E.off b)]
   refine .ms _ _ _ _ _ _ hb (by omega) ?_
   rw[Nat.add_assoc,Nat.add_assoc,← Nat.add_mul]
   rw[show l+(cap - l)=cap by omega,← Nat.add_assoc]
   exact hp
 | msE _ _ _ _ A hb hA =>
  obtain ⟨k1,k2⟩:=bounds 0 (Nat.le_refl _)
  refine ⟨_,run k2,?_⟩
  rw[if_pos (show 0=l by omega),show hh - l=0 by omega,Nat.zero_sub]
  exact .msE _ _ _ _ _ hb hA

theorem sliceA_ok {sz:Nat} {f:Bool} {els:List AV} {lo hi mx:Option AV} {v:AV} (h:sliceA sz f els lo hi mx=some v) {t e:Nat} (ht:P.underlying t=some (.slice e)) {ei:TI} (he:TIok P e ei) (hsz:sz=ei.size∨els.isEmpty=true)
  {X:Value} (hX:V E (.sl sz f els) X) {LO HI MX:Option Value} (hlo:VO E lo LO) (hhi:VO E hi HI) (hmx:VO E mx MX) (w:World) :
  ∃ z,(Instr.sliceAt t X LO HI MX).run P w=.ok z w∧V E v z:=by
 have run:∀ {A:Option Addr} {n cap l hh M:Nat},(∀ w:World,(Instr.sliceBounds true n cap LO HI MX).run P w=.ok (l,hh,M) w) →
   (Instr.sliceAt t (.slice A n cap) LO HI MX).run P w=.ok (.slice (if M=l then A else A.map (·.add (l*ei.size))) (hh - l) (M - l)) w:=by
  intro A n cap l hh M hb
  simp[Instr.sliceAt,underlying,ht,Instr.slice,hb,sizeOf_run he]
 cases hX with
 | slNil =>
  obtain ⟨l,hh,M,f',rfl,h1,h2,h3,h4,h5,h6⟩:=sliceA_bounds (P:=P) (E:=E) h (Nat.le_refl _) (fun _=>rfl) hlo hhi hmx
  refine ⟨_,run h6,?_⟩
  simp at h3 h4
  obtain rfl:M=0:=by omega
  obtain rfl:hh=0:=by omega
  obtain rfl:l=0:=by omega
  simpa using V.slNil sz f' _
 | sl sz f els g o cap vals hc hf hz h0 h1 h2 h3 =>
  obtain ⟨l,hh,M,f',rfl,k1,k2,k3,k4,k5,k6⟩:=sliceA_bounds (P:=P) (E:=E) h hc hf hlo hhi hmx
  refine ⟨_,run k6,?_⟩
  rcases hsz with hsz | hnil
  rotate_left
  ·have hn:els=[]:=by simpa using hnil
   subst hn
   have e1:hh=0:=by simpa using k4
   have e0:l=0:=by omega
   subst e0 e1
   have hv:∀ a,V E (.sl sz f' []) (.slice (some ⟨g,a,none⟩) 0 M):=fun a =>
    .sl sz f' [] g a M vals (by simp) (fun h=>by have:=k5 h; simp; omega) (by simp) (by simp) (by simp) (by simp) (by simp)
   split
   ·simpa using hv o
   ·simp only[Option.map_some,addr_add]
    simpa using hv (o+0*ei.size)
  subst hsz
  have el:∀ (i:Nat) x,((els.drop l).take (hh - l))[i]?=some x→els[l+i]?=some x:=fun i x hx=>by
   rw[List.getElem?_take] at hx
   split at hx
   ·rwa [List.getElem?_drop] at hx
   ·cases hx
  have len:((els.drop l).take (hh - l)).length=hh - l:=by simp; omega
  have e:∀ i j,o+l*ei.size+i*ei.size+j=o+(l+i)*ei.size+j:=fun i j=>by rw[Nat.add_mul]; omega
  by_cases hml:M=l
  ·have:(els.drop l).take (hh - l)=[]:=by
    apply List.eq_nil_of_length_eq_zero; rw[len]; omega
   rw[if_pos hml,this]
   have z:hh - l=([]:List AV).length:=by simp; omega
   rw[z]
   exact .sl _ _ [] g o (M - l) vals (by simp) (fun _=>by simp; omega) (by simp) (by simp) (by simp) (by simp) (by simp)
  ·rw[if_neg hml]
   simp only[Option.map_some,addr_add]
   have:=V.sl (E:=E) ei.size f' ((els.drop l).take (hh - l)) g (o+l*ei.size) (M - l) (fun i=>vals (l+i)) (by rw[len]; omega) (fun hx=>by rw[len,k5 hx])
    (fun i x hx=>hz _ _ (el i x hx)) (fun i x j c hx hc=>h0 _ _ j c (el i x hx) hc) (fun i x j c hx hc=>by rw[e]; exact h1 _ _ j c (el i x hx) hc)
    (fun i x j c hx hc=>by rw[e]; exact h2 _ _ j c (el i x hx) hc) (fun i x j c hx hc=>h3 _ _ j c (el i x hx) hc)
   rwa [len] at this

theorem strSliceA_ok {s:ByteArray} {lo hi:Option AV} {v:AV} (h:strSliceA s.data.toList lo hi=some v) {t:Nat} (ht:P.underlying t=some .string)
  {LO HI:Option Value} (hlo:VO E lo LO) (hhi:VO E hi HI) (w:World) :
  ∃ z,(Instr.sliceAt t (.string s) LO HI none).run P w=.ok z w∧V E v z:=by
 unfold strSliceA at h
 simp only[Option.bind_eq_some_iff,Option.map_eq_some_iff] at h
 obtain ⟨hh,h1,l,h2,rfl⟩:=h
 obtain ⟨h3,h4⟩:=low_ok (E:=E) hlo h2
 have hsz:s.data.toList.length=s.size:=by simp
 rw[hsz] at h1
 have hH:(HI=none∧(none:Option Value)=none∧hh=s.size)∨∃ k n,HI=some (.int k n)∧0≤n∧n≤(s.size:Int)∧hh=n.toNat:=by
  cases hi with
  | none =>
   cases HI with
   | some X=>exact hhi.elim
   | none=>cases h1; exact .inl ⟨rfl,rfl,rfl⟩
  | some y =>
   cases HI with
   | none=>exact hhi.elim
   | some Y =>
    obtain ⟨k,n,rfl,p0,p1,rfl,p2⟩:=bnd_ok (E:=E) h1 hhi
    exact .inr ⟨k,n,rfl,p0,p1,rfl⟩
 have hb:=sliceBounds_run (P:=P) (isS:=false) (len:=s.size) (cap:=s.size) (MX:=none) (.inl ⟨rfl,rfl⟩) hH h4
 refine ⟨.string (s.extract l hh),?_,?_⟩
 ·simp[Instr.sliceAt,underlying,ht,Instr.slice,hb]
 ·have e:(s.extract l hh).data.toList=(s.data.toList.drop l).take (hh - l):=by
   rw[ByteArray.data_extract]
   simp
  rw[← e]; exact .str _
end
end Ae
namespace Ae
open Go

structure Row (E:Env) (cs:List AV) (vs:Array Value):Prop where
 len:cs.length=vs.size
 one:∀ (i:Nat) c,cs[i]?=some c→c.one=true
 v:∀ (i:Nat) c x,cs[i]?=some c→vs[i]?=some x→V E c x

structure RowP (E:Env) (cs:List AV) (vs:Array Value):Prop where
 len:cs.length≤vs.size
 one:∀ (i:Nat) c,cs[i]?=some c→c.one=true
 v:∀ (i:Nat) c x,cs[i]?=some c→vs[i]?=some x→V E c x

structure RowO (E:Env) (o:Nat) (cs:List AV) (vs:Array Value):Prop where
 len:o+cs.length≤vs.size
 one:∀ (i:Nat) c,cs[i]?=some c→c.one=true
 v:∀ (i:Nat) c x,cs[i]?=some c→vs[o+i]?=some x→V E c x
theorem RowO.le {E E':Env} (hE:E.le E') {o:Nat} {cs:List AV} {vs:Array Value} (h:RowO E o cs vs):RowO E' o cs vs:=⟨h.len,h.one,fun i c x hc hx=>(h.v i c x hc hx).le hE⟩
theorem RowP.toO {E:Env} {cs:List AV} {vs:Array Value} (h:RowP E cs vs):RowO E 0 cs vs:=⟨by have:=h.len; omega,h.one,fun i c x hc hx=>h.v i c x hc (by rw[Nat.zero_add] at hx; exact hx)⟩

theorem Row.toP {E:Env} {cs:List AV} {vs:Array Value} (h:Row E cs vs):RowP E cs vs:=⟨Nat.le_of_eq h.len,h.one,h.v⟩
theorem RowP.le {E E':Env} (hE:E.le E') {cs:List AV} {vs:Array Value} (h:RowP E cs vs):RowP E' cs vs:=⟨h.len,h.one,fun i c x hc hx=>(h.v i c x hc hx).le hE⟩

theorem Row.agg {E:Env} {cs:List AV} {vs:Array Value} (h:Row E cs vs):V E (.agg cs) (.agg vs):=.agg cs vs h.len h.one h.v

theorem layable_spec {v:AV} (h:layable v=true):v.one=true∨∃ cs,v=.agg cs:=by
 cases v<;>simp[layable] at h<;>first
  | exact .inr ⟨_,rfl⟩
  | exact .inl h

theorem Row.of_layable {E:Env} {v:AV} {X:Value} (h:layable v=true) (hV:V E v X):Row E v.cells X.cells:=by
 obtain ⟨h1,h2,h3⟩:=hV.cells (layable_spec h)
 exact ⟨h1,h2,h3⟩

theorem Row.le {E E':Env} (hE:E.le E') {cs:List AV} {vs:Array Value} (h:Row E cs vs):Row E' cs vs :=
 ⟨h.len,h.one,fun i c x hc hx=>(h.v i c x hc hx).le hE⟩

theorem over_get {cs:List AV} {off:Nat} {new:List AV} (h:off+new.length≤cs.length) (i:Nat) :
  (over cs off new)[i]?=if off≤i∧i<off+new.length then new[i - off]? else cs[i]?:=by
 unfold over
 have ht:(cs.take off).length=off:=by simp; omega
 by_cases h1:i<off
 ·rw[if_neg (by omega),List.getElem?_append_left (by simp; omega),List.getElem?_append_left (by omega),List.getElem?_take_of_lt h1]
 ·by_cases h2:i<off+new.length
  ·rw[if_pos ⟨by omega,h2⟩,List.getElem?_append_left (by simp; omega),List.getElem?_append_right (by omega),ht]
  ·rw[if_neg (by omega),List.getElem?_append_right (by simp; omega),List.getElem?_drop]
   congr 1
   simp; omega

theorem over_len {cs:List AV} {off:Nat} {new:List AV} (h:off+new.length≤cs.length):(over cs off new).length=cs.length:=by
 unfold over; simp; omega

theorem foldl_set (off:Nat):∀ (l:List Value) (k:Nat) (cells:Array Value),
  ((l.zipIdx k).foldl (fun cs (p:Value × Nat)=>cs.setIfInBounds (off+p.2) p.1) cells).size=cells.size ∧
  ∀ i,off+k+l.length≤cells.size→((l.zipIdx k).foldl (fun cs (p:Value × Nat)=>cs.setIfInBounds (off+p.2) p.1) cells)[i]?=if off+k≤i∧i<off+k+l.length then l[i - (off+k)]? else cells[i]?:=by
 intro l
 induction l with
 | nil=>intro k cells; simp; intro i _ h1 h2; omega
 | cons x l ih =>
  intro k cells
  obtain ⟨h1,h2⟩:=ih (k+1) (cells.setIfInBounds (off+k) x)
  simp only[List.zipIdx_cons,List.foldl_cons]
  refine ⟨by rw[h1]; simp,fun i hi=>?_⟩
  simp only[List.length_cons] at hi ⊢
  have hs:(cells.setIfInBounds (off+k) x).size=cells.size:=by simp
  have hi2:off+(k+1)+l.length≤cells.size:=by omega
  rw[h2 i (by rw[hs]; exact hi2)]
  by_cases e:i=off+k
  ·subst e
   rw[if_neg (by omega),if_pos (by omega)]
   have:off+k<cells.size:=by omega
   simp[this]
  ·by_cases h3:off+(k+1)≤i∧i<off+(k+1)+l.length
   ·rw[if_pos h3,if_pos (by omega)]
    have:i - (off+k)=(i - (off+(k+1)))+1:=by omega
    rw[this,List.getElem?_cons_succ]
   ·rw[if_neg h3,if_neg (by omega)]
    rw[Array.getElem?_setIfInBounds_ne (by omega)]

theorem Row.over {E:Env} {cs:List AV} {vs:Array Value} (h:Row E cs vs) {off:Nat} {new:List AV} {X:Array Value} (hX:Row E new X) (hle:off+new.length≤cs.length) :
  Row E (Ae.over cs off new) (X.zipIdx.foldl (fun cs (p:Value × Nat)=>cs.setIfInBounds (off+p.2) p.1) vs):=by
 rw[← Array.foldl_toList]
 simp only[Array.toList_zipIdx]
 obtain ⟨h1,h2⟩:=foldl_set off X.toList 0 vs
 have hl:X.toList.length=new.length:=by simp[hX.len]
 have h3:=fun i=>h2 i (by rw[hl,← h.len]; omega)
 refine ⟨?_,?_,?_⟩
 ·rw[over_len hle,h.len,h1]
 ·intro i c hc
  rw[over_get hle] at hc
  split at hc
  ·exact hX.one _ _ hc
  ·exact h.one _ _ hc
 ·intro i c x hc hx
  rw[over_get hle] at hc
  rw[h3,hl] at hx
  simp only[Nat.add_zero] at hx
  split at hc
  ·rename_i hi
   rw[if_pos hi] at hx
   exact hX.v _ _ _ hc (by simpa using hx)
  ·rename_i hi
   rw[if_neg hi] at hx
   exact h.v _ _ _ hc hx

section
variable {P:Program} {C:Cfg} {E:Env} {a:Act} {tm:Nat→AV}

theorem fillA_ok (ht:∀ t,V E (tm t) (a.tmps.getD t undef)) {pl:Nat→Option (Nat × Nat)} {PL:Nat→Option (Nat × Nat)} (hpl:∀ i p,pl i=some p→PL i=some p):∀ (l:List (Nat × Operand)) (cs cs':List AV) (vs:Array Value),
  Row E cs vs→fillA pl cs (l.map fun p=>(p.1,evalO tm p.2))=some cs'→∃ vs',Instr.fill PL vs (l.map fun p=>(p.1,a.eval p.2))=some vs'∧Row E cs' vs':=by
 intro l
 induction l with
 | nil =>
  intro cs cs' vs hr h
  cases h
  exact ⟨vs,rfl,hr⟩
 | cons p l ih =>
  intro cs cs' vs hr h
  obtain ⟨i,x⟩:=p
  simp only[List.map_cons] at h⊢
  unfold fillA at h
  unfold Instr.fill
  cases hpi:pl i with
  | none=>simp only[hpi] at h; cases h
  | some os =>
   obtain ⟨off,size⟩:=os
   simp only[hpi] at h
   simp only[hpl _ _ hpi]
   split at h
   ·rename_i hc
    simp only[Bool.and_eq_true,decide_eq_true_eq] at hc
    obtain ⟨⟨h1,h2⟩,h3⟩:=hc
    have hR:=Row.of_layable h1 (evalO_ok ht x)
    have e1:(a.eval x).cells.size=size:=by rw[← hR.len,h2]
    have e2:¬ (off+(a.eval x).cells.size>vs.size):=by rw[e1,← hr.len]; omega
    rw[if_neg (by simp[e1]; rw[e1] at e2; omega)]
    exact ih _ _ _ (hr.over hR (by rw[h2]; omega)) h
   ·cases h

theorem zeroValue_run {t:Nat} {ti:TI} (ht:TIok P t ti) (w:World):∃ z,(∀ w:World,(zeroValue t).run P w=.ok z w)∧∀ E,V E ti.zero z:=by
 obtain ⟨i,hi,_,_,z,hz,hV⟩:=ht.i
 exact ⟨z,fun w=>by simp[zeroValue,typeInfo,hi,hz],hV⟩

theorem amapM_run {α β:Type} {f:α→Sem β} {g:α→β} {l:Array α} (h:∀ x∈l,∀ (w:World),(f x).run P w=.ok (g x) w) (w:World):(l.mapM f).run P w=.ok (l.map g) w:=by
 have key:∀ (l:List α),(∀ x∈l,∀ (w:World),(f x).run P w=.ok (g x) w)→∀ w:World,(l.mapM f).run P w=.ok (l.map g) w:=by
  intro l
  induction l with
  | nil=>intro _ w; simp
  | cons x l ih =>
   intro h w
   simp[h x (by simp),ih fun y hy=>h y (by simp[hy])]
 have:=key l.toList (fun x hx=>h x (by simpa using hx)) w
 rw[← Array.toArray_toList (xs:=l),List.mapM_toArray]
 simp only[Sem.run_map,this,Result.andThen_ok,List.map_toArray]

end
end Ae
namespace Ae
open Go

def Env.new (E:Env) (vs:Array Value) (T:TypeId) (k:Nat):Env:={ E with w:=E.w.alloc (.cells vs T),pr:=upd E.pr E.w.heap.size k }

theorem Env.le_new {E:Env} (h:∀ g,E.w.heap.size≤g→E.pr g=0) (vs:Array Value) (T:TypeId) (k:Nat):E.le (E.new vs T k):=by
 refine ⟨Nat.le_refl _,fun _ _=>rfl,fun g=>?_,fun g o ho=>?_,fun _ _=>rfl⟩
 ·show E.pr g≤upd E.pr E.w.heap.size k g
  unfold upd
  split
  ·rename_i e; rw[e,h _ (Nat.le_refl _)]; exact Nat.zero_le _
  ·exact Nat.le_refl _
 ·have:g≠E.w.heap.size:=fun e=>by rw[e,h _ (Nat.le_refl _)] at ho; omega
  exact World.cell?_alloc_old _ _ _ this

section
variable {P:Program} {C:Cfg} {E:Env} {a:Act} {tm:Nat→AV}

theorem buildA_ok (hty:TysOk P C) (ht:∀ t,V E (tm t) (a.tmps.getD t undef)) {t:Nat} {parts:Array (Nat × Operand)} {v:AV} (h:buildA C t (parts.toList.map fun p=>(p.1,evalO tm p.2))=some v) (w:World) :
  ∃ z,(Instr.build t (parts.map fun p=>(p.1,a.eval p.2))).run P w=.ok z w∧V E v z:=by
 have hpl:(parts.map fun p=>(p.1,a.eval p.2)).toList=parts.toList.map fun p=>(p.1,a.eval p.2):=by simp
 unfold buildA at h
 split at h
 ·rename_i fs s b z hT
  have hok:=hty _ _ hT
  obtain ⟨F,hF,hfs⟩:=hok.u
  obtain ⟨zv,hz,hzV⟩:=zeroValue_run hok w
  split at h
  ·rename_i hc
   simp only[Bool.and_eq_true] at hc
   obtain ⟨hl,hall⟩:=hc
   rw[Option.map_eq_some_iff] at h
   obtain ⟨cs',hfill,rfl⟩:=h
   have hg:∀ f∈F,∀ w:World,(do pure (f.offset,← Go.sizeOf f.type):Sem (Nat × Nat)).run P w=.ok (f.offset,((C.ty f.type).map TI.size).getD 0) w:=by
    intro f hf w
    have:(f.offset,f.type)∈fs:=by rw[← hfs]; exact List.mem_map.2 ⟨f,by simpa using hf,rfl⟩
    have h1:=List.all_eq_true.1 hall _ this
    simp only[Option.isSome_iff_exists] at h1
    obtain ⟨ti,hti⟩:=h1
    simp[hti,sizeOf_run (hty _ _ hti)]
   have hmap:=amapM_run (P:=P) hg
   obtain ⟨vs',h1,h2⟩:=fillA_ok (PL:=fun i=>(F.map fun f=>(f.offset,((C.ty f.type).map TI.size).getD 0))[i]?) ht (fun i p hp=>by
    rw[← hfs,List.getElem?_map] at hp
    cases hx:F.toList[i]? with
    | none=>rw[hx] at hp; cases hp
    | some d =>
     rw[hx] at hp
     simp only[Option.map_some,Option.bind_some] at hp
     have hx':F[i]?=some d:=by simpa using hx
     cases hd:C.ty d.type with
     | none=>rw[hd] at hp; cases hp
     | some ti =>
      rw[hd] at hp
      simp only[Option.map_some,Option.some.injEq] at hp
      rw[← hp]
      simp[hx',hd]) parts.toList _ _ zv.cells (Row.of_layable hl (hzV E)) hfill
   refine ⟨.agg vs',?_,h2.agg⟩
   unfold Instr.build
   simp only[Sem.run_bind,hz,Result.andThen_ok,underlying,run_program,hF,Sem.run_pure,hmap,hpl]
   rw[h1]
   simp
  ·cases h
 ·rename_i n e s b z hT
  have hok:=hty _ _ hT
  have hu:=hok.u
  obtain ⟨zv,hz,hzV⟩:=zeroValue_run hok w
  split at h
  ·rename_i ei hE
   split at h
   ·rename_i hl
    rw[Option.map_eq_some_iff] at h
    obtain ⟨cs',hfill,rfl⟩:=h
    obtain ⟨vs',h1,h2⟩:=fillA_ok (PL:=fun i=>some (i*ei.size,ei.size)) ht (fun i p hp=>hp) parts.toList _ _ zv.cells (Row.of_layable hl (hzV E)) hfill
    refine ⟨.agg vs',?_,h2.agg⟩
    unfold Instr.build
    simp only[Sem.run_bind,hz,Result.andThen_ok,underlying,run_program,show P.underlying t=some (.array n e) from hu,Sem.run_pure,sizeOf_run (hty _ _ hE),hpl]
    rw[h1]
    simp
   ·cases h
  ·cases h
 ·cases h

theorem makeFunc_V (ht:∀ t,V E (tm t) (a.tmps.getD t undef)) (g:Nat) (captured:Array Operand):V E (.fn g (captured.toList.map (evalO tm))) (.func (.func g) #[] (captured.map a.eval)):=by
 refine .fn g _ _ (by simp) ?_
 intro i c v hc hv
 rw[List.getElem?_map] at hc
 rw[Array.getElem?_map] at hv
 cases hx:captured[i]? with
 | none=>rw[hx] at hv; cases hv
 | some x =>
  have hx':captured.toList[i]?=some x:=by simpa using hx
  rw[hx] at hv; rw[hx'] at hc
  cases hv; cases hc
  exact evalO_ok ht x

theorem bytesStr_spec {sz:Nat} {els:List AV} {v:AV} (h:bytesStr sz els=some v):∃ bs,((sz=1∨els=[])∧bytesA els=some bs)∧v=.str bs:=by
 unfold bytesStr at h
 split at h
 ·rename_i hz
  rw[Option.map_eq_some_iff] at h
  obtain ⟨bs,hb,rfl⟩:=h
  exact ⟨bs,⟨hz,hb⟩,rfl⟩
 ·cases h

theorem bytesA_get:∀ {els:List AV} {bs:List UInt8},bytesA els=some bs→∃ ns:List Int,els=ns.map (AV.int .u8)∧bs=ns.map fun n=>UInt8.ofNat n.toNat
 | [],bs,h=>by cases h; exact ⟨[],rfl,rfl⟩
 | x::l,bs,h=>by
  unfold bytesA at h
  split at h
  ·rename_i he; cases he
  ·rename_i n l' he
   cases he
   rw[Option.map_eq_some_iff] at h
   obtain ⟨bs',hb,rfl⟩:=h
   obtain ⟨ns,rfl,rfl⟩:=bytesA_get hb
   exact ⟨n::ns,rfl,rfl⟩
  ·cases h

theorem bytes_fold (ns:List Int):∀ s:ByteArray,(ns.foldl (fun r n=>r.push (UInt8.ofNat n.toNat)) s).data.toList=s.data.toList++ns.map fun n=>UInt8.ofNat n.toNat:=by
 induction ns with
 | nil=>intro s; simp
 | cons n ns ih=>intro s; rw[List.foldl_cons,ih]; simp[ByteArray.push]

theorem bytesStr_run {E:Env} {sz:Nat} {fl:Bool} {els:List AV} {bs:List UInt8} {X:Value} (hV:V E (.sl sz fl els) X) (hz:sz=1∨els=[]) (hb:bytesA els=some bs) :
  ∃ y,(Conv.bytesToString X).run P E.w=.ok y E.w∧V E (.str bs) y:=by
 obtain ⟨ns,rfl,rfl⟩:=bytesA_get hb
 have fin:V E (.str (ns.map fun n=>UInt8.ofNat n.toNat)) (.string (ns.foldl (fun r n=>r.push (UInt8.ofNat n.toNat)) ByteArray.empty)):=by
  have h1:=bytes_fold ns ByteArray.empty
  have h2:(ByteArray.empty.data.toList++ns.map fun n=>UInt8.ofNat n.toNat)=ns.map fun n=>UInt8.ofNat n.toNat:=by simp
  rw[← h2,← h1]
  exact .str _
 generalize hg:ns.map (AV.int .u8)=els at hV
 cases hV with
 | slNil _ _ A =>
  have hn:ns=[]:=by simpa using hg
  subst hn
  cases A with
  | none=>exact ⟨_,by simp[Conv.bytesToString],fin⟩
  | some a=>exact ⟨_,run_bytesToString E.w a 0 0 [] (by rw[run_loadCells (P:=P) E.w a 0 (fun _=>undef) (fun j hj=>absurd hj (Nat.not_lt_zero _))]; rfl),fin⟩
 | sl _ _ _ g o cap vals hc hf hz' h0 h1 h2 h3 =>
  subst hg
  refine ⟨_,run_bytesToString E.w ⟨g,o,none⟩ _ cap ns ?_,fin⟩
  have hcell:∀ j,j<ns.length→E.w.cell? ⟨g,o+j,none⟩=some (.int .u8 (ns.getD j 0)):=by
   intro j hj
   have hsz:sz=1:=by
    rcases hz with h | h
    ·exact h
    ·have:ns=[]:=by simpa using h
     rw[this] at hj; cases hj
   subst hsz
   have e1:(ns.map (AV.int .u8))[j]?=some (.int .u8 (ns.getD j 0)):=by
    rw[List.getElem?_map,List.getElem?_eq_getElem hj]; simp[List.getD,List.getElem?_eq_getElem hj]
   have e2:(AV.int .u8 (ns.getD j 0)).cells[0]?=some (.int .u8 (ns.getD j 0)):=rfl
   have k2:=h2 j _ 0 _ e1 e2
   have k3:=h3 j _ 0 _ e1 e2
   simp only[Nat.mul_one,Nat.add_zero] at k2
   rw[k2]
   generalize vals j 0=y at k3
   cases k3
   rfl
  rw[run_loadCells (P:=P) E.w ⟨g,o,none⟩ (ns.map (AV.int .u8)).length (fun j=>.int .u8 (ns.getD j 0)) (fun j hj=>by
   rw[List.length_map] at hj
   rw[addr_add]; exact hcell j hj)]
  congr 2
  simp only[List.length_map]
  apply List.ext_getElem?
  intro i
  rw[List.getElem?_map,List.getElem?_map]
  rcases Nat.lt_or_ge i ns.length with h | h
  ·simp[List.getElem?_range h,List.getElem?_eq_getElem h,List.getD]
  ·rw[List.getElem?_eq_none (by simpa using h),List.getElem?_eq_none h]; rfl

theorem pureOp_ok (hty:TysOk P C) (ht:∀ t,V E (tm t) (a.tmps.getD t undef)) {o:Oper} {v:AV} (h:pureOp C o tm=some v):Yld P E a o v:=by
 have ev:=evalO_ok (a:=a) ht
 unfold pureOp at h
 unfold Yld execOp
 split at h
 ·rename_i x he; simp only[he]; cases h; exact ⟨_,rfl,ev x⟩
 ·rename_i x he; simp only[he]; cases h; exact ⟨_,rfl,ev x⟩
 ·rename_i c p q he
  simp only[he]
  have hc:=ev c
  cases hcv:evalO tm c<;>rw[hcv] at h hc<;>simp only at h<;>try (cases h; done)
  rename_i b
  cases hcx:a.eval c<;>rw[hcx] at hc<;>cases hc
  cases h
  cases b
  ·exact ⟨a.eval q,by simp[asBool],ev q⟩
  ·exact ⟨a.eval p,by simp[asBool],ev p⟩
 ·rename_i op t x y yt he
  simp only[he]
  cases hn:nilSl C op t (evalO tm x) y with
  | some v' =>
   rw[hn] at h
   cases h
   obtain ⟨z,hz,hv⟩:=nilSl_ok hty hn (ev x) x
   exact ⟨z,by rw[Sem.run_bind,hz]; rfl,hv⟩
  | none =>
  rw[hn] at h
  obtain ⟨z,hz,hv⟩:=binA_ok hty h (ev x) (ev y) x y
  exact ⟨z,by rw[Sem.run_bind,hz]; rfl,hv⟩
 ·rename_i op t x he
  simp only[he]
  obtain ⟨z,hz,hv⟩:=unA_ok (P:=P) h (ev x)
  exact ⟨z,by rw[Sem.run_bind,hz]; rfl,hv⟩
 ·rename_i src dst x he
  simp only[he]
  have hx:=ev x
  split at h
  ·rename_i k k' hs hd hxe
   rw[hxe] at hx
   cases hX:a.eval x<;>rw[hX] at hx<;>cases hx
   cases h
   have hs':=(hty _ _ hs).u
   have hd':=(hty _ _ hd).u
   exact ⟨_,by simp[convert,underlying,show P.underlying src=_ from hs',show P.underlying dst=_ from hd',Conv.intToInt],.int _ _⟩
  ·rename_i hs hd hxe
   rw[hxe] at hx
   cases hX:a.eval x<;>rw[hX] at hx<;>cases hx
   cases h
   have hs':=(hty _ _ hs).u
   have hd':=(hty _ _ hd).u
   exact ⟨_,by simp[convert,underlying,show P.underlying src=_ from hs',show P.underlying dst=_ from hd'],.str _⟩
  ·rename_i e _ _ _ _ _ _ sz fl els hs hd hxe
   rw[hxe] at hx
   split at h
   ·rename_i he'
    have hs':=(hty _ _ hs).u
    have hd':=(hty _ _ hd).u
    have hE':=(hty _ _ he').u
    obtain ⟨bs,hb1,rfl⟩:=bytesStr_spec h
    obtain ⟨hz,hbs⟩:=hb1
    obtain ⟨y,hy,hv⟩:=bytesStr_run (P:=P) hx hz hbs
    generalize a.eval x=X at hx hy
    refine ⟨y,?_,hv⟩
    cases hx<;>(simp[convert,underlying,show P.underlying src=_ from hs',show P.underlying dst=_ from hd',show P.underlying e=_ from hE']; rw[hy]; rfl)
   ·cases h
  ·cases h
 ·rename_i x he
  simp only[he]
  have hx:=ev x
  split at h
  all_goals first
   | (cases h; done)
   | (rename_i hxe
      rw[hxe] at hx
      cases h
      refine ⟨a.eval x,?_,hx⟩
      cases hX:a.eval x<;>rw[hX] at hx<;>cases hx<;>rfl)
 ·rename_i t x i he
  simp only[he]
  have hx:=ev x
  have hi:=ev i
  split at h
  ·rename_i s k n hT hxe hie
   rw[hxe] at hx; rw[hie] at hi
   generalize a.eval x=X at hx; generalize a.eval i=Y at hi
   cases hi
   rw[Option.map_eq_some_iff] at h
   obtain ⟨m,hm,rfl⟩:=h
   cases hx with
   | str s=>exact ⟨_,by rw[Sem.run_bind,index_str_ok (hty _ _ hT).u hm]; rfl,.int _ _⟩
  ·rename_i n e cs k q hT hxe hie
   rw[hxe] at hx; rw[hie] at hi
   generalize a.eval x=X at hx; generalize a.eval i=Y at hi
   cases hi
   split at h
   ·rename_i ei hE
    rw[Option.bind_eq_some_iff] at h
    obtain ⟨m,hm,hp⟩:=h
    obtain ⟨vs,rfl⟩:∃ vs,X=.agg vs:=by cases hx; exact ⟨_,rfl⟩
    obtain ⟨z,hz,hv⟩:=index_array_ok (P:=P) (hty _ _ hT).u (hty _ _ hE) (hty _ _ hE).n hm hp hx E.w
    exact ⟨z,by rw[Sem.run_bind,hz]; rfl,hv⟩
   ·cases h
  ·cases h
 ·rename_i t x i he
  simp only[he]
  have hx:=ev x
  have hi:=ev i
  split at h
  ·rename_i e sz f els k n hT hxe hie
   rw[hxe] at hx; rw[hie] at hi
   generalize a.eval x=X at hx; generalize a.eval i=Y at hi
   cases hi
   split at h
   ·rename_i ei hE
    split at h
    ·rename_i hsz
     rw[Option.map_eq_some_iff] at h
     obtain ⟨m,hm,rfl⟩:=h
     have hlt:=(idx_some hm).2.2.2
     have hx':=hx
     cases hx with
     | slNil=>simp at hlt
     | sl sz f els g o' cap vals hc hf hz h0 h1 h2 h3 =>
      refine ⟨_,by rw[Sem.run_bind,indexAt_slice (hty _ _ hT).u (hty _ _ hE) hm]; rfl,?_⟩
      rw[← hsz]
      exact (hx'.elem hlt).1
    ·cases h
   ·cases h
  ·rename_i e ag sz b off len k n hT hxe hie
   rw[hxe] at hx; rw[hie] at hi
   generalize a.eval x=X at hx; generalize a.eval i=Y at hi
   cases hi
   split at h
   ·rename_i ei hE
    split at h
    ·rename_i hsz
     rw[Option.map_eq_some_iff] at h
     obtain ⟨m,hm,rfl⟩:=h
     have hlt:=(idx_some hm).2.2.2
     cases hx with
     | msE=>simp at hlt
     | ms ag sz b off len cap hb hc hp =>
      refine ⟨_,by rw[Sem.run_bind,indexAt_slice (hty _ _ hT).u (hty _ _ hE) hm]; rfl,?_⟩
      rw[← hsz,Nat.add_assoc]
      exact .ptr b _ hb
    ·cases h
   ·cases h
  ·rename_i n' e b off k n hT hxe hie
   rw[hxe] at hx; rw[hie] at hi
   generalize a.eval x=X at hx; generalize a.eval i=Y at hi
   cases hi
   split at h
   ·rename_i ei hE
    rw[Option.map_eq_some_iff] at h
    obtain ⟨m,hm,rfl⟩:=h
    cases hx with
    | ptr b off hb=>exact ⟨_,by rw[Sem.run_bind,indexAt_array (hty _ _ hT).u (hty _ _ hE) hm]; exact congrArg (fun z=>Result.ok (Next.value (Value.pointer (some ⟨E.μ b,z,none⟩))) E.w) (Nat.add_assoc _ _ _),.ptr b _ hb⟩
   ·cases h
  ·rename_i n' e cs off k n hT hxe hie
   rw[hxe] at hx; rw[hie] at hi
   generalize a.eval x=X at hx; generalize a.eval i=Y at hi
   cases hi
   split at h
   ·rename_i ei hE
    rw[Option.map_eq_some_iff] at h
    obtain ⟨m,hm,rfl⟩:=h
    cases hx with
    | eptr cs off g o' vals h0 h1 h2 h3 =>
     refine ⟨_,by rw[Sem.run_bind,indexAt_array (hty _ _ hT).u (hty _ _ hE) hm]; rfl,?_⟩
     rw[show o'+off+m*ei.size=o'+(off+m*ei.size) by omega]
     exact .eptr cs _ g o' vals h0 h1 h2 h3
   ·cases h
  ·cases h
 ·rename_i t x f he
  simp only[he]
  have hx:=ev x
  split at h
  ·rename_i fs s b z hT
   obtain ⟨F,hF,hfs⟩:=(hty _ _ hT).u
   split at h
   ·rename_i off ft hf
    split at h
    ·rename_i fi b' o' hfi hxe
     rw[hxe] at hx
     generalize a.eval x=X at hx
     split at h
     ·cases h
     ·rename_i hz
      cases h
      cases hx with
      | ptr b off' hb=>exact ⟨_,by rw[Sem.run_bind,fieldAt_ok hF hfs hf (hty _ _ hfi) hz]; exact congrArg (fun z=>Result.ok (Next.value (Value.pointer (some ⟨E.μ b',z,none⟩))) E.w) (Nat.add_assoc _ _ _),.ptr b' _ hb⟩
    ·rename_i fi cs o' hfi hxe
     rw[hxe] at hx
     generalize a.eval x=X at hx
     split at h
     ·cases h
     ·rename_i hz
      cases h
      cases hx with
      | eptr cs off' g o'' vals h0 h1 h2 h3 =>
       refine ⟨_,by rw[Sem.run_bind,fieldAt_ok hF hfs hf (hty _ _ hfi) hz]; rfl,?_⟩
       rw[show o''+o'+off=o''+(o'+off) by omega]
       exact .eptr cs _ g o'' vals h0 h1 h2 h3
    ·cases h
   ·cases h
  ·cases h
 ·rename_i t x f he
  simp only[he]
  have hx:=ev x
  split at h
  ·rename_i fs s b z cs hT hxe
   obtain ⟨F,hF,hfs⟩:=(hty _ _ hT).u
   rw[hxe] at hx
   generalize a.eval x=X at hx
   split at h
   ·rename_i off ft hf
    split at h
    ·rename_i fi hfi
     obtain ⟨vs,rfl⟩:∃ vs,X=.agg vs:=by cases hx; exact ⟨_,rfl⟩
     obtain ⟨z,hz,hv⟩:=field_ok (P:=P) hF hfs hf (hty _ _ hfi) (hty _ _ hfi).n h hx E.w
     exact ⟨z,by rw[Sem.run_bind,hz]; rfl,hv⟩
    ·cases h
   ·cases h
  ·cases h
 ·rename_i x i he
  simp only[he]
  have hx:=ev x
  split at h
  ·rename_i cs hxe
   rw[hxe] at hx
   generalize a.eval x=X at hx
   cases hx with
   | tup _ vs hl hv =>
    have hlt:i<vs.size:=by
     have:=List.getElem?_eq_some_iff.1 h
     obtain ⟨hh,_⟩:=this
     omega
    have hg:vs[i]?=some vs[i]:=Array.getElem?_eq_getElem hlt
    exact ⟨vs[i],by simp[Instr.extract,hg],hv i v _ h hg⟩
  ·cases h
 ·rename_i t x lo hi mx he
  simp only[he]
  have hx:=ev x
  split at h
  ·rename_i s hT hxe
   rw[hxe] at hx
   generalize a.eval x=X at hx
   split at h
   ·cases h
   ·rename_i hmx
    have:mx=none:=by cases mx<;>simp_all
    subst this
    cases hx with
    | str s =>
     obtain ⟨z,hz,hv⟩:=strSliceA_ok (P:=P) h (hty _ _ hT).u (vo_map ht lo) (vo_map ht hi) E.w
     exact ⟨z,by rw[Sem.run_bind,Option.map_none,hz]; rfl,hv⟩
  ·rename_i e sz f els hT hxe
   rw[hxe] at hx
   split at h
   ·rename_i ei hE
    split at h
    ·rename_i hsz
     obtain ⟨z,hz,hv⟩:=sliceA_ok (P:=P) h (hty _ _ hT).u (hty _ _ hE) hsz hx (vo_map ht lo) (vo_map ht hi) (vo_map ht mx) E.w
     exact ⟨z,by rw[Sem.run_bind,hz]; rfl,hv⟩
    ·cases h
   ·cases h
  ·rename_i e _ _ _ ag sz b off len hT hxe
   rw[hxe] at hx
   split at h
   ·rename_i ei hE
    split at h
    ·rename_i hc
     have:mx=none:=by simpa using hc.2
     subst this
     obtain ⟨z,hz,hv⟩:=sliceMs_ok (P:=P) h (hty _ _ hT).u (hty _ _ hE) hc.1 hx (vo_map ht lo) (vo_map ht hi) E.w
     exact ⟨z,by rw[Sem.run_bind,Option.map_none,hz]; rfl,hv⟩
    ·cases h
   ·cases h
  ·cases h
 ·rename_i g first captured he
  simp only[he]
  split at h
  ·rename_i hf
   cases h
   have:first=#[]:=Array.eq_empty_of_size_eq_zero hf
   subst this
   exact ⟨_,by simp[Instr.makeFunc],makeFunc_V ht g captured⟩
  ·cases h
 ·rename_i t parts he
  simp only[he]
  obtain ⟨z,hz,hv⟩:=buildA_ok hty ht h E.w
  exact ⟨z,by rw[Sem.run_bind,hz]; rfl,hv⟩
 ·rename_i args argTypes he
  simp only[he]
  have run:∀ (t:Nat) (x:Operand) (r:Int),argTypes[0]?=some t→args[0]?=some x →
    (Builtin.len_ argTypes o.type (args.map a.eval)).run P E.w=.ok (goInt r) E.w →
    (do let d ← resolve a.eval { callee:=.builtin .len,args:=args,argTypes:=argTypes } o.type; invoke d.target d.args:Sem Next).run P E.w=.ok (.value (.int .i64 r)) E.w:=by
   intro t x r h1 h2 h3
   simp[resolve,invoke,builtin,h3,goInt]
  cases hA:argTypes[0]? with
  | none=>rw[hA] at h; simp at h
  | some t =>
   cases hB:args[0]? with
   | none=>rw[hA,hB] at h; cases hh:C.ty t<;>simp[hh] at h<;>(revert h; split<;>simp_all)
   | some x =>
    rw[hA,hB] at h
    simp only[Option.bind_some,Option.map_some] at h
    have hx:=ev x
    have h0:(args.map a.eval)[0]?=some (a.eval x):=by simp[hB]
    split at h
    ·rename_i s hT hxe
     simp only[Option.some.injEq] at hxe
     rw[hxe] at hx
     cases h
     cases hX:a.eval x<;>rw[hX] at hx h0<;>cases hx
     rename_i s
     refine ⟨_,run t x s.size hA hB ?_,by simpa using V.int (E:=E) .i64 (s.size:Int)⟩
     simp[Builtin.len_,hA,h0,underlying,show P.underlying t=_ from (hty _ _ hT).u]
    ·rename_i e _ _ _ sz f els hT hxe
     simp only[Option.some.injEq] at hxe
     rw[hxe] at hx
     cases h
     have hu:P.underlying t=some (.slice e):=(hty _ _ hT).u
     cases hX:a.eval x<;>rw[hX] at hx h0<;>cases hx
     ·exact ⟨_,run t x 0 hA hB (by simp[Builtin.len_,hA,h0,underlying,hu]),.int _ _⟩
     ·exact ⟨_,run t x els.length hA hB (by simp[Builtin.len_,hA,h0,underlying,hu]),.int _ _⟩
    ·rename_i e _ _ _ ag sz b off len hT hxe
     simp only[Option.some.injEq] at hxe
     rw[hxe] at hx
     cases h
     have hu:P.underlying t=some (.slice e):=(hty _ _ hT).u
     cases hX:a.eval x<;>rw[hX] at hx h0<;>cases hx
     ·exact ⟨_,run t x len hA hB (by simp[Builtin.len_,hA,h0,underlying,hu]),.int _ _⟩
     ·exact ⟨_,run t x 0 hA hB (by simp[Builtin.len_,hA,h0,underlying,hu]),.int _ _⟩
    ·rename_i n e _ _ _ _ hT hxe
     cases h
     have hu:P.underlying t=some (.array n e):=(hty _ _ hT).u
     exact ⟨_,run t x n hA hB (by simp[Builtin.len_,hA,h0,underlying,hu]),.int _ _⟩
    ·cases h
 ·rename_i args argTypes he
  simp only[he]
  split at h
  ·rename_i k m k' n hargs
   split at h
   ·rename_i hk
    cases h
    subst hk
    obtain ⟨l⟩:=args
    obtain ⟨x,y,rfl⟩:∃ x y,l=[x,y]:=by
     have hlen:=congrArg List.length hargs
     simp at hlen
     match l,hlen with
     | [x,y],_=>exact ⟨x,y,rfl⟩
    ·simp only[List.map_cons,List.map_nil,List.cons.injEq,and_true] at hargs
     have hx:=ev x
     have hy:=ev y
     rw[hargs.1] at hx
     rw[hargs.2] at hy
     have hX:a.eval x=.int k m:=by
      generalize a.eval x=X at hx
      cases hx; rfl
     have hY:a.eval y=.int k n:=by
      generalize a.eval y=Y at hy
      cases hy; rfl
     refine ⟨_,?_,.int _ _⟩
     simp[resolve,invoke,builtin,Builtin.max_,Builtin.max2,hX,hY]
   ·cases h
  ·cases h
 ·cases h
end
end Ae
namespace Ae
open Go

def spare:AV→Value→Option Nat
 | .sl _ _ _,.slice (some ad) len cap=>if len<cap then some ad.block else none
 | .pend _,.pointer (some ad)=>some ad.block
 | _,_=>none

inductive Spr (E:Env):AV→Value→Nat→Prop
 | sl (sz:Nat) (f:Bool) (els:List AV) (g off len cap:Nat) (cur:Array Value) (e:TypeId) (hl:len=els.length) (hz:0<sz) (hc:len<cap) (hg:E.w.heap[g]?=some (.cells cur e (0,0))) (hs:cur.size=off+cap*sz)
   (hp:E.pr g≤off+len*sz) (hb:∀ b,b<E.n→E.μ b≠g):Spr E (.sl sz f els) (.slice (some ⟨g,off,none⟩) len cap) g
 | pend (sz g:Nat) (cur:Array Value) (e:TypeId) (hg:E.w.heap[g]?=some (.cells cur e (0,0))) (hs:cur.size=sz) (hp:E.pr g=0) (hb:∀ b,b<E.n→E.μ b≠g):Spr E (.pend sz) (.pointer (some ⟨g,0,none⟩)) g

def Held (E:Env) (a:AV) (v:Value):Prop:=∀ g,spare a v=some g→Spr E a v g

def TmpSp (f:Fr) (a:Act) (t g:Nat):Prop:=f.os t=true∧spare (f.tm t) (a.tmps.getD t undef)=some g

def CellAt (E:Env) (s:St) (b i:Nat) (c:AV) (v:Value):Prop :=
 b<s.n∧s.ow b i=true∧(∃ cs,s.h b=some cs∧cs[i]?=some c)∧E.w.cell? ⟨E.μ b,E.off b+i,none⟩=some v

def CellSp (E:Env) (s:St) (b i g:Nat):Prop:=∃ c v,CellAt E s b i c v∧spare c v=some g

structure Core (E:Env) (s:St):Prop where
 n:E.n=s.n
 new:∀ g,E.w.heap.size≤g→E.pr g=0
 box:∀ b cs,b<s.n→s.h b=some cs→∃ cur e,E.w.heap[E.μ b]?=some (.cells cur e (0,0))∧cur.size=E.sz b∧RowO E (E.off b) cs cur∧E.pr (E.μ b)=0
 blt:∀ b,b<s.n→E.μ b<E.w.heap.size
 inj:∀ b b',b<b'→b'<s.n→E.μ b=E.μ b'→s.h b=none
 held:∀ b i c v,CellAt E s b i c v→Held E c v
 dj:∀ b i b' i' g,CellSp E s b i g→CellSp E s b' i' g→b=b'∧i=i'

def Wr (E:Env) (s:St) (g:Nat):Prop:=(∃ b,s.ro≤b∧b<s.n∧g=E.μ b)∨∃ b i,CellSp E s b i g

def PB (k:Nat) (s:St):Prop:=∀ b cs,b<k→s.h b=some cs→AV.pureL k cs=true

structure Inv (E0:Env) (s0:St) (nt:Nat) (E:Env) (f:Fr) (a:Act):Prop where
 core:Core E f.s
 le:E0.le E
 os:E.w.os=E0.w.os
 tape:E.w.tape=E0.w.tape
 out:E.w.output=E0.w.output
 size:E0.w.heap.size≤E.w.heap.size
 fr:∀ g,g<E0.w.heap.size→¬ Wr E0 s0 g→E.w.heap[g]?=E0.w.heap[g]?∧E.pr g=E0.pr g
 bx:∀ b,s0.n≤b→b<f.s.n→E0.w.heap.size≤E.μ b∨∃ b0,s0.ro≤b0∧b0<s0.n∧E.μ b=E0.μ b0
 v:∀ t,V E (f.tm t) (a.tmps.getD t undef)
 held:∀ t,f.os t=true→Held E (f.tm t) (a.tmps.getD t undef)
 dt:∀ t t' g,TmpSp f a t g→TmpSp f a t' g→t=t'
 dc:∀ t b i g,TmpSp f a t g→CellSp E f.s b i g→False
 oT:∀ t g,TmpSp f a t g→E0.w.heap.size≤g∨∃ b i,CellSp E0 s0 b i g
 oC:∀ b i g,CellSp E f.s b i g→E0.w.heap.size≤g∨∃ b i,CellSp E0 s0 b i g
 ro:f.s.ro=s0.ro
 lo:f.s.lo=s0.lo
 n:s0.n≤f.s.n
 n0:E0.n=s0.n
 lon:s0.lo≤s0.n
 pb:∀ k,k≤s0.lo→PB k s0→PB k f.s
 nt:nt≤a.tmps.size

theorem Spr.lt {E:Env} {a:AV} {v:Value} {g:Nat} (h:Spr E a v g):g<E.w.heap.size:=by
 cases h with
 | sl sz f els g off len cap cur e hl hz hc hg=>exact (Array.getElem?_eq_some_iff.1 hg).1
 | pend sz g cur e hg=>exact (Array.getElem?_eq_some_iff.1 hg).1

theorem Spr.keep {E E':Env} {a:AV} {v:Value} {g:Nat} (h:Spr E a v g) (h1:E'.w.heap[g]?=E.w.heap[g]?) (h2:E'.pr g=E.pr g) (h3:∀ b,b<E'.n→E'.μ b≠g):Spr E' a v g:=by
 cases h with
 | sl sz f els g off len cap cur e hl hz hc hg hs hp hb=>exact .sl sz f els g off len cap cur e hl hz hc (h1.trans hg) hs (h2▸hp) h3
 | pend sz g cur e hg hs hp hb=>exact .pend sz g cur e (h1.trans hg) hs (h2▸hp) h3

theorem Spr.box {E:Env} {a:AV} {v:Value} {g:Nat} (h:Spr E a v g):∀ b,b<E.n→E.μ b≠g:=by
 cases h<;>assumption

theorem Core.spr {E:Env} {s:St} (h:Core E s) {b i g:Nat} (hs:CellSp E s b i g):∃ c v,CellAt E s b i c v∧Spr E c v g:=by
 obtain ⟨c,v,h1,h2⟩:=hs
 exact ⟨c,v,h1,h.held _ _ _ _ h1 _ h2⟩

theorem Core.lt {E:Env} {s:St} (h:Core E s) {b i g:Nat} (hs:CellSp E s b i g):g<E.w.heap.size:=by
 obtain ⟨c,v,_,h2⟩:=h.spr hs
 exact h2.lt

theorem Core.boxlt {E:Env} {s:St} (h:Core E s) {b:Nat} (hb:b<s.n):E.μ b<E.w.heap.size:=h.blt b hb

theorem Core.two {E:Env} {s:St} (h:Core E s) {b b':Nat} (hb:b<s.n) (hb':b'<s.n) {cs cs':List AV} (h1:s.h b=some cs) (h2:s.h b'=some cs') (e:E.μ b=E.μ b'):b=b':=by
 rcases Nat.lt_trichotomy b b' with h' | h' | h'
 ·rw[h.inj b b' h' hb' e] at h1; cases h1
 ·exact h'
 ·rw[h.inj b' b h' hb e.symm] at h2; cases h2

theorem cell_heap {w w':World} {g o:Nat} (h:w'.heap[g]?=w.heap[g]?):w'.cell? ⟨g,o,none⟩=w.cell? ⟨g,o,none⟩:=by simp[World.cell?,h]

theorem Core.step {E E':Env} {s:St} (h:Core E s) (hle:E.le E') (hn:E'.n=E.n) (hμ:∀ b,b<E.n→E'.μ b=E.μ b) (hsz:E.w.heap.size≤E'.w.heap.size)
  (hnew:∀ g,E'.w.heap.size≤g→E'.pr g=0)
  (hbox:∀ b,b<s.n→E'.w.heap[E.μ b]?=E.w.heap[E.μ b]?∧E'.pr (E.μ b)=E.pr (E.μ b))
  (hsp:∀ b i g,CellSp E s b i g→E'.w.heap[g]?=E.w.heap[g]?∧E'.pr g=E.pr g) :
  Core E' s∧∀ b i g,CellSp E' s b i g↔CellSp E s b i g:=by
 have hcell:∀ b i c v,CellAt E' s b i c v↔CellAt E s b i c v:=by
  intro b i c v
  unfold CellAt
  constructor
  ·rintro ⟨h1,h2,h3,h4⟩
   exact ⟨h1,h2,h3,by rw[hμ b (h.n▸h1),hle.off (h.n▸h1)] at h4; rw[← h4]; exact (cell_heap (hbox b h1).1).symm⟩
  ·rintro ⟨h1,h2,h3,h4⟩
   exact ⟨h1,h2,h3,by rw[hμ b (h.n▸h1),hle.off (h.n▸h1),← h4]; exact cell_heap (hbox b h1).1⟩
 have hcs:∀ b i g,CellSp E' s b i g↔CellSp E s b i g:=by
  intro b i g
  unfold CellSp
  simp only[hcell]
 refine ⟨⟨hn.trans h.n,hnew,?_,?_,?_,?_,?_⟩,hcs⟩
 ·intro b cs hb h1
  obtain ⟨cur,e,h2,h5,h3,h4⟩:=h.box b cs hb h1
  refine ⟨cur,e,?_,?_,by rw[hle.off (h.n▸hb)]; exact h3.le hle,?_⟩
  ·rw[hμ b (h.n▸hb),(hbox b hb).1]; exact h2
  ·rw[hle.sz (h.n▸hb)]; exact h5
  ·rw[hμ b (h.n▸hb),(hbox b hb).2]; exact h4
 ·intro b hb
  rw[hμ b (h.n▸hb)]
  exact Nat.lt_of_lt_of_le (h.blt b hb) hsz
 ·intro b b' hb hb' e
  rw[hμ b (h.n▸(by omega:b<s.n)),hμ b' (h.n▸hb')] at e
  exact h.inj b b' hb hb' e
 ·intro b i c v hc g hg
  rw[hcell] at hc
  have h1:=h.held b i c v hc g hg
  have h2:=hsp b i g ⟨c,v,hc,hg⟩
  exact h1.keep h2.1 h2.2 (fun b' hb'=>by rw[hn] at hb'; rw[hμ b' hb']; exact h1.box b' hb')
 ·intro b i b' i' g h1 h2
  rw[hcs] at h1 h2
  exact h.dj b i b' i' g h1 h2

section
variable {E0 E E':Env} {s0:St} {nt:Nat} {f:Fr} {a:Act}

theorem Inv.tlt (h:Inv E0 s0 nt E f a) {t g:Nat} (hs:TmpSp f a t g):g<E.w.heap.size:=(h.held t hs.1 g hs.2).lt

theorem Inv.step (h:Inv E0 s0 nt E f a) (hle:E.le E') (hn:E'.n=E.n) (hμ:∀ b,b<E.n→E'.μ b=E.μ b) (hsz:E.w.heap.size≤E'.w.heap.size)
  (hnew:∀ g,E'.w.heap.size≤g→E'.pr g=0) (hos:E'.w.os=E.w.os) (htape:E'.w.tape=E.w.tape) (hout:E'.w.output=E.w.output)
  (hbox:∀ b,b<f.s.n→E'.w.heap[E.μ b]?=E.w.heap[E.μ b]?∧E'.pr (E.μ b)=E.pr (E.μ b))
  (hsp:∀ b i g,CellSp E f.s b i g→E'.w.heap[g]?=E.w.heap[g]?∧E'.pr g=E.pr g)
  (hst:∀ t g,TmpSp f a t g→E'.w.heap[g]?=E.w.heap[g]?∧E'.pr g=E.pr g)
  (hfr:∀ g,g<E0.w.heap.size→¬ Wr E0 s0 g→E'.w.heap[g]?=E.w.heap[g]?∧E'.pr g=E.pr g):Inv E0 s0 nt E' f a:=by
 obtain ⟨hc,hcs⟩:=h.core.step hle hn hμ hsz hnew hbox hsp
 exact
  { core:=hc
    le:=h.le.trans hle
    os:=hos.trans h.os
    tape:=htape.trans h.tape
    out:=hout.trans h.out
    size:=Nat.le_trans h.size hsz
    fr:=fun g hg hw=>⟨(hfr g hg hw).1.trans (h.fr g hg hw).1,(hfr g hg hw).2.trans (h.fr g hg hw).2⟩
    bx:=fun b hb hb'=>by rw[hμ b (h.core.n▸hb')]; exact h.bx b hb hb'
    v:=fun t=>(h.v t).le hle
    held:=fun t ht g hg=>by
      have h1:=h.held t ht g hg
      have h2:=hst t g ⟨ht,hg⟩
      exact h1.keep h2.1 h2.2 (fun b' hb'=>by rw[hn] at hb'; rw[hμ b' hb']; exact h1.box b' hb')
    dt:=h.dt
    dc:=fun t b i g h1 h2=>h.dc t b i g h1 ((hcs b i g).1 h2)
    oT:=h.oT
    oC:=fun b i g h1=>h.oC b i g ((hcs b i g).1 h1)
    ro:=h.ro
    lo:=h.lo
    n:=h.n
    n0:=h.n0
    lon:=h.lon
    pb:=h.pb
    nt:=h.nt }

theorem Inv.same (h:Inv E0 s0 nt E f a) (w:World) (h1:w.heap=E.w.heap) (h2:w.os=E.w.os) (h3:w.tape=E.w.tape) (h4:w.output=E.w.output):Inv E0 s0 nt { E with w:=w } f a:=by
 refine h.step (E':={ E with w:=w }) ⟨Nat.le_refl _,fun _ _=>rfl,fun _=>Nat.le_refl _,fun g o _=>cell_heap (by rw[h1]),fun _ _=>rfl⟩ rfl (fun _ _=>rfl) (by simp[h1]) (by simpa[h1] using h.core.new) h2 h3 h4 ?_ ?_ ?_ ?_<;>intros<;>simp[h1]

theorem Inv.alloc (h:Inv E0 s0 nt E f a) (vs:Array Value) (T:TypeId) (k:Nat):Inv E0 s0 nt (E.new vs T k) f a:=by
 have key:∀ g,g<E.w.heap.size→(E.new vs T k).w.heap[g]?=E.w.heap[g]?∧(E.new vs T k).pr g=E.pr g:=by
  intro g hg
  refine ⟨heap_alloc_old E.w _ hg,?_⟩
  simp only[Env.new,upd]
  rw[if_neg (by omega)]
 refine h.step (Env.le_new h.core.new vs T k) rfl (fun _ _=>rfl) (by simp[Env.new]) ?_ rfl rfl rfl (fun b hb=>key _ (h.core.boxlt hb)) (fun b i g hs=>key _ (h.core.lt hs)) (fun t g hs=>key _ (h.tlt hs))
  (fun g hg _=>key _ (Nat.lt_of_lt_of_le hg h.size))
 intro g hg
 have hg':E.w.heap.size+1≤g:=by simpa[Env.new] using hg
 simp only[Env.new,upd]
 rw[if_neg (by omega)]
 exact h.core.new g (by omega)

theorem getD_put (a:Act) (d:Nat) (v:Value) (hd:d<a.tmps.size) (t:Nat):(a.put (some d) v).tmps.getD t undef=if t=d then v else a.tmps.getD t undef:=by
 unfold Act.put
 simp only[Array.getD_eq_getD_getElem?,Array.getElem?_setIfInBounds]
 by_cases e:t=d
 ·subst e; simp[hd]
 ·rw[if_neg (Ne.symm e),if_neg e]

theorem Inv.put (h:Inv E0 s0 nt E f a) {d:Option Nat} {x:AV} {y:Value} {ow:Bool} (hd:∀ i,d=some i→i<nt) (hv:V E x y)
  (how:ow=true→Held E x y∧∀ g,spare x y=some g→(∀ t,some t≠d→¬ TmpSp f a t g)∧(∀ b i,¬ CellSp E f.s b i g)∧(E0.w.heap.size≤g∨∃ b i,CellSp E0 s0 b i g)) :
  Inv E0 s0 nt E (f.put d x ow) (a.put d y):=by
 cases d with
 | none=>exact h
 | some d =>
  have hd':d<a.tmps.size:=Nat.lt_of_lt_of_le (hd d rfl) h.nt
  have hget:=getD_put a d y hd'
  have hsp:∀ t g,TmpSp (f.put (some d) x ow) (a.put (some d) y) t g→(t≠d∧TmpSp f a t g)∨(t=d∧ow=true∧spare x y=some g):=by
   intro t g hs
   unfold TmpSp at hs
   rw[hget] at hs
   simp only[Fr.put,upd] at hs
   by_cases e:t=d
   ·simp only[if_pos e] at hs; exact .inr ⟨e,hs.1,hs.2⟩
   ·simp only[if_neg e] at hs; exact .inl ⟨e,hs.1,hs.2⟩
  exact
   { core:=h.core
     le:=h.le
     os:=h.os
     tape:=h.tape
     out:=h.out
     size:=h.size
     fr:=h.fr
     bx:=h.bx
     v:=fun t=>by
       rw[hget]
       simp only[Fr.put,upd]
       by_cases e:t=d
       · simp only[if_pos e]; exact hv
       · simp only[if_neg e]; exact h.v t
     held:=fun t ht=>by
       rw[hget]
       simp only[Fr.put,upd] at ht ⊢
       by_cases e:t=d
       · simp only[if_pos e] at ht ⊢; exact (how ht).1
       · simp only[if_neg e] at ht ⊢; exact h.held t ht
     dt:=fun t t' g h1 h2=>by
       rcases hsp _ _ h1 with ⟨e1,k1⟩ | ⟨e1,k1,k2⟩<;>rcases hsp _ _ h2 with ⟨e2,l1⟩ | ⟨e2,l1,l2⟩
       · exact h.dt t t' g k1 l1
       · exact absurd k1 (((how l1).2 g l2).1 t (fun e=>e1 (by injection e)))
       · exact absurd l1 (((how k1).2 g k2).1 t' (fun e=>e2 (by injection e)))
       · exact e1.trans e2.symm
     dc:=fun t b i g h1 h2=>by
       rcases hsp _ _ h1 with ⟨e1,k1⟩ | ⟨e1,k1,k2⟩
       · exact h.dc t b i g k1 h2
       · exact ((how k1).2 g k2).2.1 b i h2
     oT:=fun t g h1=>by
       rcases hsp _ _ h1 with ⟨e1,k1⟩ | ⟨e1,k1,k2⟩
       · exact h.oT t g k1
       · exact ((how k1).2 g k2).2.2
     oC:=h.oC
     ro:=h.ro
     lo:=h.lo
     n:=h.n
     n0:=h.n0
     lon:=h.lon
     pb:=h.pb
     nt:=by simpa[Act.put] using h.nt }

theorem Inv.put0 (h:Inv E0 s0 nt E f a) {d:Option Nat} {x:AV} {y:Value} (hd:∀ i,d=some i→i<nt) (hv:V E x y):Inv E0 s0 nt E (f.put d x false) (a.put d y) :=
 h.put hd hv (fun e=>by cases e)

theorem Inv.drop (h:Inv E0 s0 nt E f a) {os':Nat→Bool} (ho:∀ t,os' t=true→f.os t=true):Inv E0 s0 nt E { f with os:=os' } a :=
 { core:=h.core,le:=h.le,os:=h.os,tape:=h.tape,out:=h.out,size:=h.size,fr:=h.fr,bx:=h.bx,v:=h.v
   held:=fun t ht=>h.held t (ho t ht)
   dt:=fun t t' g h1 h2=>h.dt t t' g ⟨ho t h1.1,h1.2⟩ ⟨ho t' h2.1,h2.2⟩
   dc:=fun t b i g h1 h2=>h.dc t b i g ⟨ho t h1.1,h1.2⟩ h2
   oT:=fun t g h1=>h.oT t g ⟨ho t h1.1,h1.2⟩
   oC:=h.oC,ro:=h.ro,lo:=h.lo,n:=h.n,n0:=h.n0,lon:=h.lon,pb:=h.pb,nt:=h.nt }

theorem Inv.retm (h:Inv E0 s0 nt E f a) {d:Nat} {x:AV} (hv:V E x (a.tmps.getD d undef)):Inv E0 s0 nt E { f with tm:=upd f.tm d x,os:=upd f.os d false } a:=by
 have hsp:∀ t g,TmpSp { f with tm:=upd f.tm d x,os:=upd f.os d false } a t g→TmpSp f a t g:=by
  intro t g hs
  unfold TmpSp at hs ⊢
  simp only[upd] at hs
  by_cases e:t=d
  ·rw[if_pos e] at hs; cases hs.1
  ·simp only[if_neg e] at hs; exact hs
 exact
  { core:=h.core,le:=h.le,os:=h.os,tape:=h.tape,out:=h.out,size:=h.size,fr:=h.fr,bx:=h.bx
    v:=fun t=>by
      simp only[upd]
      by_cases e:t=d
      · subst e; simp only[if_true]; exact hv
      · simp only[if_neg e]; exact h.v t
    held:=fun t ht=>by
      simp only[upd] at ht ⊢
      by_cases e:t=d
      · rw[if_pos e] at ht; cases ht
      · simp only[if_neg e] at ht ⊢; exact h.held t ht
    dt:=fun t t' g h1 h2=>h.dt t t' g (hsp _ _ h1) (hsp _ _ h2)
    dc:=fun t b i g h1 h2=>h.dc t b i g (hsp _ _ h1) h2
    oT:=fun t g h1=>h.oT t g (hsp _ _ h1)
    oC:=h.oC,ro:=h.ro,lo:=h.lo,n:=h.n,n0:=h.n0,lon:=h.lon,pb:=h.pb,nt:=h.nt }

def Env.set (E:Env) (g:Nat) (vs:Array Value) (k:Nat):Env:={ E with w:=E.w.setRow g vs,pr:=upd E.pr g k }

theorem Env.le_set {g k:Nat} {cur vs:Array Value} {e:TypeId} (hg:E.w.heap[g]?=some (.cells cur e (0,0))) (hk:E.pr g≤k) (hs:∀ o,o<E.pr g→vs[o]?=cur[o]?):E.le (E.set g vs k):=by
 refine ⟨Nat.le_refl _,fun _ _=>rfl,fun g'=>?_,fun g' o ho=>?_,fun _ _=>rfl⟩
 ·simp only[Env.set,upd]
  split
  ·rename_i e; rw[e]; exact hk
  ·exact Nat.le_refl _
 ·by_cases e':g'=g
  ·subst e'
   rw[show (E.set g' vs k).w=E.w.setRow g' vs from rfl,cell_setRow_same _ _ _ _ _ _ _ hg,hs o ho]
   simp[World.cell?,hg]
  ·exact cell_setRow_other _ _ _ _ e'

theorem Inv.write (h:Inv E0 s0 nt E f a) {g k:Nat} {cur vs:Array Value} {e:TypeId} (hg:E.w.heap[g]?=some (.cells cur e (0,0))) (hk:E.pr g≤k) (hs:∀ o,o<E.pr g→vs[o]?=cur[o]?)
  (hb:∀ b,b<E.n→E.μ b≠g) (hc:∀ b i,¬ CellSp E f.s b i g) (ht:∀ t,¬ TmpSp f a t g) (ho:E0.w.heap.size≤g∨∃ b i,CellSp E0 s0 b i g):Inv E0 s0 nt (E.set g vs k) f a:=by
 have key:∀ g',g'≠g→(E.set g vs k).w.heap[g']?=E.w.heap[g']?∧(E.set g vs k).pr g'=E.pr g':=by
  intro g' hg'
  exact ⟨setRow_other _ _ _ _ hg',by simp only[Env.set,upd]; rw[if_neg hg']⟩
 have hsz:(E.set g vs k).w.heap.size=E.w.heap.size:=size_setRow _ _ _
 have hlt:g<E.w.heap.size:=(Array.getElem?_eq_some_iff.1 hg).1
 refine h.step (Env.le_set hg hk hs) rfl (fun _ _=>rfl) (Nat.le_of_eq hsz.symm) ?_ rfl rfl rfl (fun b hb'=>key _ (hb b (h.core.n▸hb'))) (fun b i g' hs'=>key _ (fun e=>hc b i (e▸hs')))
  (fun t g' hs'=>key _ (fun e=>ht t (e▸hs'))) (fun g' hg' hw=>key _ (fun e=>?_))
 ·intro g' hg'
  rw[hsz] at hg'
  rw[(key g' (by omega)).2]
  exact h.core.new g' hg'
 ·subst e
  rcases ho with ho | ⟨b,i,ho⟩
  ·omega
  ·exact hw (.inr ⟨b,i,ho⟩)

end
end Ae
namespace Ae
open Go

def Env.push (E:Env) (vs:Array Value) (T:TypeId):Env:={ w:=E.w.alloc (.cells vs T),pr:=E.pr,μ:=upd E.μ E.n E.w.heap.size,n:=E.n+1,cp:=upd E.cp E.n (vs.size,0) }

section
variable {E0 E E':Env} {s0:St} {nt:Nat} {f:Fr} {a:Act}

theorem Env.le_push (h:∀ g,E.w.heap.size≤g→E.pr g=0) (vs:Array Value) (T:TypeId):E.le (E.push vs T):=by
 refine ⟨Nat.le_succ _,fun b hb=>?_,fun g=>Nat.le_refl _,fun g o ho=>?_,fun b hb=>?_⟩
 ·simp only[Env.push,upd]; rw[if_neg (by omega)]
 ·have:g≠E.w.heap.size:=fun e=>by rw[e,h _ (Nat.le_refl _)] at ho; omega
  exact World.cell?_alloc_old _ _ _ this
 ·simp only[Env.push,upd]; rw[if_neg (by omega)]

theorem Inv.push (h:Inv E0 s0 nt E f a) {cs:List AV} {vs:Array Value} (hr:RowP E cs vs) (T:TypeId):Inv E0 s0 nt (E.push vs T) { f with s:=f.s.push cs } a:=by
 have hle:=Env.le_push h.core.new vs T
 have hn:=h.core.n
 have hμ:∀ b,b<f.s.n→(E.push vs T).μ b=E.μ b:=fun b hb=>hle.μ b (hn▸hb)
 have hμn:(E.push vs T).μ f.s.n=E.w.heap.size:=by simp[Env.push,upd,hn]
 have key:∀ g,g<E.w.heap.size→(E.push vs T).w.heap[g]?=E.w.heap[g]?∧(E.push vs T).pr g=E.pr g:=fun g hg=>⟨heap_alloc_old E.w _ hg,rfl⟩
 have hcell:∀ b i c v,CellAt (E.push vs T) (f.s.push cs) b i c v↔CellAt E f.s b i c v:=by
  intro b i c v
  unfold CellAt
  simp only[St.push,upd]
  constructor
  ·rintro ⟨h1,h2,h3,h4⟩
   by_cases e:b=f.s.n
   ·rw[if_pos e] at h2; cases h2
   ·have hb:b<f.s.n:=by omega
    rw[if_neg e] at h2
    simp only[if_neg e] at h3
    refine ⟨hb,h2,h3,?_⟩
    rw[hμ b hb,hle.off (hn▸hb)] at h4
    rw[← h4]
    exact (cell_heap (key _ (h.core.boxlt hb)).1).symm
  ·rintro ⟨h1,h2,h3,h4⟩
   have e:b≠f.s.n:=by omega
   simp only[if_neg e]
   refine ⟨by omega,h2,h3,?_⟩
   rw[hμ b h1,hle.off (hn▸h1),← h4]
   exact cell_heap (key _ (h.core.boxlt h1)).1
 have hcs:∀ b i g,CellSp (E.push vs T) (f.s.push cs) b i g↔CellSp E f.s b i g:=by
  intro b i g
  unfold CellSp
  simp only[hcell]
 have hkeep:∀ {x y g},Spr E x y g→Spr (E.push vs T) x y g:=by
  intro x y g hs
  have hlt:=hs.lt
  refine hs.keep (key g hlt).1 (key g hlt).2 (fun b hb=>?_)
  have hb':b<E.n+1:=hb
  by_cases e:b=E.n
  ·rw[e,hn,hμn]; omega
  ·rw[hμ b (by omega)]; exact hs.box b (by omega)
 exact
  { core :=
      { n:=by simp[Env.push,St.push,hn]
        new:=fun g hg=>by
          have hg':E.w.heap.size+1≤g:=by simpa[Env.push] using hg
          exact h.core.new g (by omega)
        box:=fun b cs1 hb hcs1=>by
          have hb':b<f.s.n+1:=hb
          have hcs2:(if b=f.s.n then some cs else f.s.h b)=some cs1:=hcs1
          by_cases e:b=f.s.n
          · subst e
            rw[if_pos rfl] at hcs2
            cases hcs2
            refine ⟨vs,T,?_,?_,by rw[show (E.push vs T).off f.s.n=0 by simp[Env.off,Env.push,upd,hn]]; exact (hr.le hle).toO,?_⟩
            · rw[hμn]; exact heap_alloc_new E.w _
            · simp[Env.sz,Env.push,upd,hn]
            · rw[hμn]; exact h.core.new _ (Nat.le_refl _)
          · rw[if_neg e] at hcs2
            obtain ⟨cur,e',h2,h5,h3,h4⟩:=h.core.box b cs1 (by omega) hcs2
            refine ⟨cur,e',?_,?_,by rw[hle.off (by rw[hn]; omega)]; exact h3.le hle,?_⟩
            · rw[hμ b (by omega),(key _ (h.core.boxlt (by omega))).1]; exact h2
            · rw[hle.sz (by rw[hn]; omega)]; exact h5
            · rw[hμ b (by omega)]; exact h4
        blt:=fun b hb=>by
          have hb':b<f.s.n+1:=hb
          have hsz:(E.push vs T).w.heap.size=E.w.heap.size+1:=by simp[Env.push]
          rw[hsz]
          by_cases e:b=f.s.n
          · rw[e,hμn]; omega
          · rw[hμ b (by omega)]
            have:=h.core.boxlt (b:=b) (by omega)
            omega
        inj:=fun b b' hb hb' e=>by
          have hb2:b'<f.s.n+1:=hb'
          show (if b=f.s.n then some cs else f.s.h b)=none
          rw[if_neg (by omega)]
          by_cases e2:b'=f.s.n
          · rw[e2,hμn,hμ b (by omega)] at e
            have:=h.core.boxlt (b:=b) (by omega)
            omega
          · rw[hμ b (by omega),hμ b' (by omega)] at e
            exact h.core.inj b b' hb (by omega) e
        held:=fun b i c v hc g hg=>hkeep (h.core.held b i c v ((hcell b i c v).1 hc) g hg)
        dj:=fun b i b' i' g h1 h2=>h.core.dj b i b' i' g ((hcs b i g).1 h1) ((hcs b' i' g).1 h2) }
    le:=h.le.trans hle
    os:=h.os
    tape:=h.tape
    out:=h.out
    size:=by have:=h.size; simp[Env.push]; omega
    fr:=fun g hg hw=>by
      have hlt:g<E.w.heap.size:=Nat.lt_of_lt_of_le hg h.size
      exact ⟨(key g hlt).1.trans (h.fr g hg hw).1,(h.fr g hg hw).2⟩
    bx:=fun b hb hb'=>by
      have hb1:b<f.s.n+1:=hb'
      by_cases e1:b=f.s.n
      · rw[e1,hμn]; exact .inl h.size
      · rw[hμ b (by omega)]; exact h.bx b hb (by omega)
    v:=fun t=>(h.v t).le hle
    held:=fun t ht g hg=>hkeep (h.held t ht g hg)
    dt:=h.dt
    dc:=fun t b i g h1 h2=>h.dc t b i g h1 ((hcs b i g).1 h2)
    oT:=h.oT
    oC:=fun b i g h1=>h.oC b i g ((hcs b i g).1 h1)
    ro:=h.ro
    lo:=h.lo
    n:=Nat.le_succ_of_le h.n
    n0:=h.n0
    lon:=h.lon
    pb:=fun k hk hp b cs' hb hcs'=>by
      have hne:b≠f.s.n:=by have:=h.n; have:=h.lon; omega
      refine h.pb k hk hp b cs' hb ?_
      simpa[St.push,upd,hne] using hcs'
    nt:=h.nt }

theorem Inv.setBox (h:Inv E0 s0 nt E f a) {b i0:Nat} {cs cs':List AV} {cur vs:Array Value} {T:TypeId} {os':Nat→Bool} {fl:Nat→Bool} (hb:b<f.s.n) (hro:f.s.ro≤b)
  (hcs:f.s.h b=some cs) (hcur:E.w.heap[E.μ b]?=some (.cells cur T (0,0))) (hvs:vs.size=cur.size) (hr:RowO E (E.off b) cs' vs)
  (hos:∀ t,os' t=true→f.os t=true)
  (hfl:∀ i,fl i=true→i≠i0→f.s.ow b i=true∧cs'[i]?=cs[i]?∧vs[E.off b+i]?=cur[E.off b+i]?)
  (hf0:fl i0=true→∃ t,f.os t=true∧os' t=false∧cs'[i0]?=some (f.tm t)∧vs[E.off b+i0]?=some (a.tmps.getD t undef))
  (hpb:∀ k,b<k→k≤s0.lo→AV.pureL k cs=true→AV.pureL k cs'=true) :
  Inv E0 s0 nt (E.set (E.μ b) vs 0) { tm:=f.tm,os:=os',s:=f.s.setBox b cs' fl } a:=by
 have hn:=h.core.n
 obtain ⟨cur0,T0,hcur0,hcp,_,hpr⟩:=h.core.box b cs hb hcs
 rw[hcur] at hcur0
 cases hcur0
 have hle:E.le (E.set (E.μ b) vs 0):=Env.le_set hcur (Nat.le_of_eq hpr) (fun o ho=>by omega)
 have key:∀ g',g'≠E.μ b→(E.set (E.μ b) vs 0).w.heap[g']?=E.w.heap[g']?∧(E.set (E.μ b) vs 0).pr g'=E.pr g':=by
  intro g' hg'
  exact ⟨setRow_other _ _ _ _ hg',by simp only[Env.set,upd]; rw[if_neg hg']⟩
 have hsz:(E.set (E.μ b) vs 0).w.heap.size=E.w.heap.size:=size_setRow _ _ _
 have hself:(E.set (E.μ b) vs 0).w.heap[E.μ b]?=some (.cells vs T (0,0)):=setRow_heap _ _ _ _ _ _ hcur
 have hkeep:∀ {x y g},Spr E x y g→Spr (E.set (E.μ b) vs 0) x y g:=by
  intro x y g hs
  have hne:g≠E.μ b:=fun e=>hs.box b (hn▸hb) e.symm
  exact hs.keep (key g hne).1 (key g hne).2 hs.box
 have hcell:∀ b' i c v,CellAt (E.set (E.μ b) vs 0) (f.s.setBox b cs' fl) b' i c v→CellAt E f.s b' i c v∨(b'=b∧i=i0∧∃ t,f.os t=true∧os' t=false∧c=f.tm t∧v=a.tmps.getD t undef):=by
  rintro b' i c v ⟨h1,h2,⟨cs1,h3,h4⟩,h5⟩
  simp only[St.setBox,upd] at h1 h2 h3
  by_cases e:b'=b
  ·subst e
   simp only[if_pos] at h2 h3
   cases h3
   have h5':vs[E.off b'+i]?=some v:=by
    have:(E.set (E.μ b') vs 0).w.cell? ⟨E.μ b',E.off b'+i,none⟩=vs[E.off b'+i]?:=cell_setRow_same _ _ _ _ _ _ _ hcur
    rw[← this]; exact h5
   by_cases ei:i=i0
   ·subst ei
    obtain ⟨t,t1,t2,t3,t4⟩:=hf0 h2
    refine .inr ⟨rfl,rfl,t,t1,t2,?_,?_⟩
    ·rw[h4] at t3; injection t3
    ·rw[h5'] at t4; injection t4
   ·obtain ⟨k1,k2,k3⟩:=hfl i h2 ei
    refine .inl ⟨h1,k1,⟨cs,hcs,k2▸h4⟩,?_⟩
    rw[k3] at h5'
    simp[World.cell?,hcur,h5']
  ·simp only[if_neg e] at h2 h3
   refine .inl ⟨h1,h2,⟨cs1,h3,h4⟩,?_⟩
   have hne:E.μ b'≠E.μ b:=fun e'=>e (h.core.two h1 hb h3 hcs e')
   rw[← h5]
   exact (cell_heap (key _ hne).1).symm
 have hcsp:∀ b' i g,CellSp (E.set (E.μ b) vs 0) (f.s.setBox b cs' fl) b' i g→CellSp E f.s b' i g∨(b'=b∧i=i0∧∃ t,TmpSp f a t g∧os' t=false):=by
  rintro b' i g ⟨c,v,h1,h2⟩
  rcases hcell b' i c v h1 with h3 | ⟨h3,h4,t,t1,t2,rfl,rfl⟩
  ·exact .inl ⟨c,v,h3,h2⟩
  ·exact .inr ⟨h3,h4,t,⟨t1,h2⟩,t2⟩
 exact
  { core :=
      { n:=hn
        new:=fun g hg=>by
          rw[hsz] at hg
          have:=h.core.boxlt hb
          rw[(key g (by omega)).2]
          exact h.core.new g hg
        box:=fun b' cs1 hb' hcs1=>by
          have hcs2:(if b'=b then some cs' else f.s.h b')=some cs1:=hcs1
          by_cases e:b'=b
          · subst e
            rw[if_pos rfl] at hcs2
            cases hcs2
            refine ⟨vs,T,hself,hvs.trans hcp,hr.le hle,?_⟩
            simp[Env.set,upd]
          · rw[if_neg e] at hcs2
            obtain ⟨cur1,e1,h2,h5,h3,h4⟩:=h.core.box b' cs1 hb' hcs2
            have hne:E.μ b'≠E.μ b:=fun e'=>e (h.core.two hb' hb hcs2 hcs e')
            exact ⟨cur1,e1,(key _ hne).1.trans h2,h5,h3.le hle,(key _ hne).2.trans h4⟩
        blt:=fun b' hb'=>by rw[hsz]; exact h.core.blt b' hb'
        inj:=fun b1 b2 h1 h2 e=>by
          have h3:=h.core.inj b1 b2 h1 h2 e
          show (if b1=b then some cs' else f.s.h b1)=none
          by_cases e1:b1=b
          · subst e1; rw[hcs] at h3; cases h3
          · rw[if_neg e1]; exact h3
        held:=fun b' i c v hc g hg=>by
          rcases hcell b' i c v hc with h3 | ⟨_,_,t,t1,t2,rfl,rfl⟩
          · exact hkeep (h.core.held b' i c v h3 g hg)
          · exact hkeep (h.held t t1 g hg)
        dj:=fun b1 i1 b2 i2 g h1 h2=>by
          rcases hcsp _ _ _ h1 with k1 | ⟨k1,k2,t,k3,k4⟩<;>rcases hcsp _ _ _ h2 with l1 | ⟨l1,l2,t',l3,l4⟩
          · exact h.core.dj _ _ _ _ g k1 l1
          · exact absurd k1 (fun k=>h.dc t' _ _ g l3 k)
          · exact absurd l1 (fun k=>h.dc t _ _ g k3 k)
          · exact ⟨k1.trans l1.symm,k2.trans l2.symm⟩ }
    le:=h.le.trans hle
    os:=h.os
    tape:=h.tape
    out:=h.out
    size:=by rw[hsz]; exact h.size
    fr:=fun g hg hw=>by
      have hne:g≠E.μ b:=by
        intro e
        by_cases hb0:b<s0.n
        · refine hw (.inl ⟨b,h.ro▸hro,hb0,?_⟩)
          rw[e]; exact h.le.μ b (h.n0▸hb0)
        · rcases h.bx b (by omega) hb with h' | ⟨b0,k1,k2,k3⟩
          · omega
          · exact hw (.inl ⟨b0,k1,k2,e.trans k3⟩)
      exact ⟨(key g hne).1.trans (h.fr g hg hw).1,(key g hne).2.trans (h.fr g hg hw).2⟩
    bx:=h.bx
    v:=fun t=>(h.v t).le hle
    held:=fun t ht g hg=>hkeep (h.held t (hos t ht) g hg)
    dt:=fun t t' g h1 h2=>h.dt t t' g ⟨hos t h1.1,h1.2⟩ ⟨hos t' h2.1,h2.2⟩
    dc:=fun t b' i g h1 h2=>by
      have h1':TmpSp f a t g:=⟨hos t h1.1,h1.2⟩
      rcases hcsp _ _ _ h2 with k1 | ⟨k1,k2,t',k3,k4⟩
      · exact h.dc t _ _ g h1' k1
      · have:=h.dt t t' g h1' k3
        subst this
        have h11:os' t=true:=h1.1
        rw[h11] at k4; cases k4
    oT:=fun t g h1=>h.oT t g ⟨hos t h1.1,h1.2⟩
    oC:=fun b' i g h1=>by
      rcases hcsp _ _ _ h1 with k1 | ⟨k1,k2,t',k3,k4⟩
      · exact h.oC _ _ g k1
      · exact h.oT t' g k3
    ro:=h.ro
    lo:=h.lo
    n:=h.n
    n0:=h.n0
    lon:=h.lon
    pb:=fun k hk hp b' cs1 hb' hcs1=>by
      simp only[St.setBox,upd] at hcs1
      by_cases e:b'=b
      · subst e
        rw[if_pos rfl] at hcs1
        cases hcs1
        exact hpb k hb' hk (h.pb k hk hp b' cs hb' hcs)
      · rw[if_neg e] at hcs1
        exact h.pb k hk hp b' cs1 hb' hcs1
    nt:=h.nt }

theorem Inv.dropB (h:Inv E0 s0 nt E f a) {ow':Nat→Nat→Bool} (how:∀ b i,ow' b i=true→f.s.ow b i=true):Inv E0 s0 nt E { f with s:={ f.s with ow:=ow' } } a:=by
 have hcell:∀ b i c v,CellAt E { f.s with ow:=ow' } b i c v→CellAt E f.s b i c v:=fun b i c v ⟨h1,h2,h3,h4⟩=>⟨h1,how b i h2,h3,h4⟩
 have hcs:∀ b i g,CellSp E { f.s with ow:=ow' } b i g→CellSp E f.s b i g:=fun b i g ⟨c,v,h1,h2⟩=>⟨c,v,hcell _ _ _ _ h1,h2⟩
 exact
  { core:={ n:=h.core.n,new:=h.core.new,box:=h.core.box,blt:=h.core.blt,inj:=h.core.inj,held:=fun b i c v hc=>h.core.held b i c v (hcell _ _ _ _ hc),dj:=fun b i b' i' g h1 h2=>h.core.dj b i b' i' g (hcs _ _ _ h1) (hcs _ _ _ h2) }
    le:=h.le,os:=h.os,tape:=h.tape,out:=h.out,size:=h.size,fr:=h.fr,bx:=h.bx,v:=h.v,held:=h.held,dt:=h.dt
    dc:=fun t b i g h1 h2=>h.dc t b i g h1 (hcs _ _ _ h2)
    oT:=h.oT,oC:=fun b i g h1=>h.oC b i g (hcs _ _ _ h1),ro:=h.ro,lo:=h.lo,n:=h.n,n0:=h.n0,lon:=h.lon,pb:=h.pb,nt:=h.nt }

theorem Inv.kill (h:Inv E0 s0 nt E f a) (b:Nat):Inv E0 s0 nt E { f with s:=f.s.kill b } a:=by
 have hh:∀ b' cs,(f.s.kill b).h b'=some cs→f.s.h b'=some cs∧b'≠b:=by
  intro b' cs hc
  have hc':(if b'=b then none else f.s.h b')=some cs:=hc
  by_cases e:b'=b
  ·rw[if_pos e] at hc'; cases hc'
  ·rw[if_neg e] at hc'; exact ⟨hc',e⟩
 have hcell:∀ b' i c v,CellAt E (f.s.kill b) b' i c v→CellAt E f.s b' i c v:=fun b' i c v ⟨h1,h2,⟨cs,h3,h5⟩,h4⟩=>⟨h1,h2,⟨cs,(hh b' cs h3).1,h5⟩,h4⟩
 have hcs:∀ b' i g,CellSp E (f.s.kill b) b' i g→CellSp E f.s b' i g:=fun b i g ⟨c,v,h1,h2⟩=>⟨c,v,hcell _ _ _ _ h1,h2⟩
 exact
  { core := { n := h.core.n, new := h.core.new, box := fun b' cs hb hc => h.core.box b' cs hb (hh b' cs hc).1, blt := h.core.blt, inj := fun b1 b2 h1 h2 e => by
                show (if b1=b then none else f.s.h b1)=none
                split
                · rfl
                · exact h.core.inj b1 b2 h1 h2 e
              ,held:=fun b i c v hc=>h.core.held b i c v (hcell _ _ _ _ hc),dj:=fun b i b' i' g h1 h2=>h.core.dj b i b' i' g (hcs _ _ _ h1) (hcs _ _ _ h2) }
    le:=h.le,os:=h.os,tape:=h.tape,out:=h.out,size:=h.size,fr:=h.fr,bx:=h.bx,v:=h.v,held:=h.held,dt:=h.dt
    dc:=fun t b i g h1 h2=>h.dc t b i g h1 (hcs _ _ _ h2)
    oT:=h.oT,oC:=fun b i g h1=>h.oC b i g (hcs _ _ _ h1),ro:=h.ro,lo:=h.lo,n:=h.n,n0:=h.n0,lon:=h.lon
    pb:=fun k hk hp b' cs hb hc=>h.pb k hk hp b' cs hb (hh b' cs hc).1
    nt:=h.nt }

def Env.re (E:Env) (b k:Nat) (vs:Array Value):Env:={ w:=E.w.setRow (E.μ b) vs,pr:=E.pr,μ:=upd E.μ E.n (E.μ b),n:=E.n+1,cp:=upd E.cp E.n (E.sz b,E.off b+k) }

theorem Env.le_re {b k:Nat} (hpr:E.pr (E.μ b)=0) (vs:Array Value):E.le (E.re b k vs):=by
 refine ⟨Nat.le_succ _,fun b' hb=>?_,fun g=>Nat.le_refl _,fun g o ho=>?_,fun b' hb=>?_⟩
 ·simp only[Env.re,upd]; rw[if_neg (by omega)]
 ·exact cell_setRow_other _ _ _ _ (fun e=>by have e':g=E.μ b:=e; rw[e',hpr] at ho; omega)
 ·simp only[Env.re,upd]; rw[if_neg (by omega)]

theorem Inv.re (h:Inv E0 s0 nt E f a) {b k:Nat} {cs:List AV} {cur vs:Array Value} {T:TypeId} (hb:b<f.s.n) (hro:f.s.ro≤b) (hcur:E.w.heap[E.μ b]?=some (.cells cur T (0,0))) (hcp:cur.size=E.sz b) (hpr:E.pr (E.μ b)=0)
  (hone:∀ b' cs',b'<f.s.n→f.s.h b'=some cs'→E.μ b'≠E.μ b) (hvs:vs.size=cur.size) (hr:RowO E (E.off b+k) cs vs):Inv E0 s0 nt (E.re b k vs) { f with s:=f.s.push cs } a:=by
 have hle:=Env.le_re (k:=k) hpr vs
 have hn:=h.core.n
 have hμ:∀ b',b'<f.s.n→(E.re b k vs).μ b'=E.μ b':=fun b' hb=>hle.μ b' (hn▸hb)
 have hμn:(E.re b k vs).μ f.s.n=E.μ b:=by simp[Env.re,upd,hn]
 have key:∀ g,g≠E.μ b→(E.re b k vs).w.heap[g]?=E.w.heap[g]?∧(E.re b k vs).pr g=E.pr g:=fun g hg=>⟨setRow_other _ _ _ _ hg,rfl⟩
 have hsz:(E.re b k vs).w.heap.size=E.w.heap.size:=size_setRow _ _ _
 have hcell:∀ b' i c v,CellAt (E.re b k vs) (f.s.push cs) b' i c v→CellAt E f.s b' i c v:=by
  intro b' i c v
  unfold CellAt
  simp only[St.push,upd]
  rintro ⟨h1,h2,⟨cs1,h3,h5⟩,h4⟩
  by_cases e:b'=f.s.n
  ·rw[if_pos e] at h2; cases h2
  ·have hb':b'<f.s.n:=by omega
   rw[if_neg e] at h2
   simp only[if_neg e] at h3
   refine ⟨hb',h2,⟨cs1,h3,h5⟩,?_⟩
   rw[hμ b' hb',hle.off (hn▸hb')] at h4
   rw[← h4]
   exact (cell_heap (key _ (hone b' cs1 hb' h3)).1).symm
 have hcs:∀ b' i g,CellSp (E.re b k vs) (f.s.push cs) b' i g→CellSp E f.s b' i g:=fun b' i g ⟨c,v,h1,h2⟩=>⟨c,v,hcell _ _ _ _ h1,h2⟩
 have hkeep:∀ {x y g},Spr E x y g→Spr (E.re b k vs) x y g:=by
  intro x y g hs
  have hne:g≠E.μ b:=fun e=>hs.box b (hn▸hb) e.symm
  refine hs.keep (key g hne).1 (key g hne).2 (fun b' hb'=>?_)
  have hb2:b'<E.n+1:=hb'
  by_cases e:b'=E.n
  ·rw[e,hn,hμn]; exact fun e'=>hne e'.symm
  ·rw[hμ b' (by omega)]; exact hs.box b' (by omega)
 exact
  { core :=
      { n:=by simp[Env.re,St.push,hn]
        new:=fun g hg=>by
          rw[hsz] at hg
          exact h.core.new g hg
        box:=fun b' cs1 hb' hcs1=>by
          have hb2:b'<f.s.n+1:=hb'
          have hcs2:(if b'=f.s.n then some cs else f.s.h b')=some cs1:=hcs1
          by_cases e:b'=f.s.n
          · subst e
            rw[if_pos rfl] at hcs2
            cases hcs2
            refine ⟨vs,T,?_,?_,by rw[show (E.re b k vs).off f.s.n=E.off b+k by simp[Env.off,Env.re,upd,hn]]; exact hr.le hle,?_⟩
            · rw[hμn]; exact setRow_heap _ _ _ _ _ _ hcur
            · simp[Env.sz,Env.re,upd,hn,hvs]; exact hcp
            · rw[hμn]; exact hpr
          · rw[if_neg e] at hcs2
            obtain ⟨cur',e',h2,h5,h3,h4⟩:=h.core.box b' cs1 (by omega) hcs2
            have hne:=hone b' cs1 (by omega) hcs2
            refine ⟨cur',e',?_,?_,by rw[hle.off (by rw[hn]; omega)]; exact h3.le hle,?_⟩
            · rw[hμ b' (by omega),(key _ hne).1]; exact h2
            · rw[hle.sz (by rw[hn]; omega)]; exact h5
            · rw[hμ b' (by omega)]; exact h4
        blt:=fun b' hb'=>by
          have hb2:b'<f.s.n+1:=hb'
          rw[hsz]
          by_cases e:b'=f.s.n
          · rw[e,hμn]; exact h.core.blt b hb
          · rw[hμ b' (by omega)]; exact h.core.blt b' (by omega)
        inj:=fun b1 b2 h1 h2 e=>by
          have hb2:b2<f.s.n+1:=h2
          show (if b1=f.s.n then some cs else f.s.h b1)=none
          rw[if_neg (by omega)]
          by_cases e2:b2=f.s.n
          · rw[e2,hμn,hμ b1 (by omega)] at e
            cases hx:f.s.h b1 with
            | none=>rfl
            | some cs1=>exact absurd e (hone b1 cs1 (by omega) hx)
          · rw[hμ b1 (by omega),hμ b2 (by omega)] at e
            exact h.core.inj b1 b2 h1 (by omega) e
        held:=fun b' i c v hc g hg=>hkeep (h.core.held b' i c v (hcell b' i c v hc) g hg)
        dj:=fun b i b' i' g h1 h2=>h.core.dj b i b' i' g (hcs b i g h1) (hcs b' i' g h2) }
    le:=h.le.trans hle
    os:=h.os
    tape:=h.tape
    out:=h.out
    size:=by rw[hsz]; exact h.size
    fr:=fun g hg hw=>by
      have hne:g≠E.μ b:=by
        intro e
        by_cases hb0:b<s0.n
        · refine hw (.inl ⟨b,h.ro▸hro,hb0,?_⟩)
          rw[e]; exact h.le.μ b (h.n0▸hb0)
        · rcases h.bx b (by omega) hb with h' | ⟨b0,k1,k2,k3⟩
          · omega
          · exact hw (.inl ⟨b0,k1,k2,e.trans k3⟩)
      exact ⟨(key g hne).1.trans (h.fr g hg hw).1,(key g hne).2.trans (h.fr g hg hw).2⟩
    bx:=fun b' hb1 hb2=>by
      have hb3:b'<f.s.n+1:=hb2
      by_cases e1:b'=f.s.n
      · rw[e1,hμn]
        by_cases hb0:b<s0.n
        · exact .inr ⟨b,h.ro▸hro,hb0,h.le.μ b (h.n0▸hb0)⟩
        · exact h.bx b (by omega) hb
      · rw[hμ b' (by omega)]; exact h.bx b' hb1 (by omega)
    v:=fun t=>(h.v t).le hle
    held:=fun t ht g hg=>hkeep (h.held t ht g hg)
    dt:=h.dt
    dc:=fun t b i g h1 h2=>h.dc t b i g h1 (hcs b i g h2)
    oT:=h.oT
    oC:=fun b i g h1=>h.oC b i g (hcs b i g h1)
    ro:=h.ro
    lo:=h.lo
    n:=Nat.le_succ_of_le h.n
    n0:=h.n0
    lon:=h.lon
    pb:=fun k hk hp b' cs' hb hcs'=>by
      have hne:b'≠f.s.n:=by have:=h.n; have:=h.lon; omega
      refine h.pb k hk hp b' cs' hb ?_
      simpa[St.push,upd,hne] using hcs'
    nt:=h.nt }

end
end Ae
namespace Ae
open Go

abbrev flat (els:List AV):List AV:=flatA els

theorem flat_len {sz:Nat}:∀ {els:List AV},(∀ el∈els,el.cells.length=sz)→(flat els).length=els.length*sz
 | [],_=>by simp[flat,flatA]
 | el::els,h=>by
  have ih:=flat_len (sz:=sz) (els:=els) (fun x hx=>h x (List.mem_cons_of_mem _ hx))
  have h0:=h el (List.mem_cons_self ..)
  simp only[flat,flatA,List.map_cons,List.flatten_cons,List.length_append,List.length_cons] at ih ⊢
  rw[ih,h0,Nat.succ_mul]; omega

theorem flat_get {sz:Nat}:∀ {els:List AV},(∀ el∈els,el.cells.length=sz)→∀ {i:Nat} {el:AV} {j:Nat} {c:AV},els[i]?=some el→el.cells[j]?=some c→(flat els)[i*sz+j]?=some c
 | [],_,i,el,j,c,h1,_=>by simp at h1
 | e0::els,h,i,el,j,c,h1,h2=>by
  have h0:=h e0 (List.mem_cons_self ..)
  simp only[flat,flatA,List.map_cons,List.flatten_cons]
  cases i with
  | zero =>
   simp at h1; subst h1
   have hj:j<e0.cells.length:=(List.getElem?_eq_some_iff.1 h2).1
   rw[Nat.zero_mul,Nat.zero_add,List.getElem?_append_left hj]; exact h2
  | succ i =>
   have ih:=flat_get (sz:=sz) (els:=els) (fun x hx=>h x (List.mem_cons_of_mem _ hx)) (i:=i) (by simpa using h1) h2
   rw[List.getElem?_append_right (by rw[h0,Nat.succ_mul]; omega),h0]
   rw[show (i+1)*sz+j - sz=i*sz+j by rw[Nat.succ_mul]; omega]
   exact ih

theorem flat_inv {sz:Nat}:∀ {els:List AV},(∀ el∈els,el.cells.length=sz)→∀ {k:Nat} {c:AV},(flat els)[k]?=some c→∃ (i:Nat) (el:AV) (j:Nat),els[i]?=some el∧el.cells[j]?=some c∧k=i*sz+j∧j<sz
 | [],_,k,c,h1=>by simp[flat,flatA] at h1
 | e0::els,h,k,c,h1=>by
  have h0:=h e0 (List.mem_cons_self ..)
  simp only[flat,flatA,List.map_cons,List.flatten_cons] at h1
  by_cases hk:k<sz
  ·rw[List.getElem?_append_left (by omega)] at h1
   exact ⟨0,e0,k,rfl,h1,by omega,hk⟩
  ·rw[List.getElem?_append_right (by omega),h0] at h1
   obtain ⟨i,el,j,a1,a2,a3,a4⟩:=flat_inv (sz:=sz) (els:=els) (fun x hx=>h x (List.mem_cons_of_mem _ hx)) h1
   exact ⟨i+1,el,j,by simpa using a1,a2,by rw[Nat.succ_mul]; omega,a4⟩

theorem flat_append (xs ys:List AV):flat (xs++ys)=flat xs++flat ys:=by simp[flat,flatA]

section
variable {P:Program} {C:Cfg} {E:Env} {a:Act} {tm:Nat→AV}

theorem V.flat {sz:Nat} {fl:Bool} {els:List AV} {g o n cap:Nat} (h:V E (.sl sz fl els) (.slice (some ⟨g,o,none⟩) n cap)) :
  (∀ el∈els,el.cells.length=sz)∧n=els.length∧n≤cap∧(fl=true→cap=n)∧∃ ol:List Value,Row E (Ae.flat els) ol.toArray∧(∀ (j:Nat) u,ol[j]?=some u→E.w.cell? ⟨g,o+j,none⟩=some u)∧∀ j,j<ol.length→o+j<E.pr g:=by
 cases h with
 | slNil=>exact ⟨by simp,rfl,Nat.le_refl _,fun _=>rfl,[],⟨by simp[Ae.flat,flatA],by simp[Ae.flat,flatA],by simp[Ae.flat,flatA]⟩,by simp,by simp⟩
 | sl _ _ _ _ _ _ vals hc hf hz h0 h1 h2 h3 =>
  have hz':∀ el∈els,el.cells.length=sz:=by
   intro el hel
   obtain ⟨i,hi⟩:=List.getElem?_of_mem hel
   exact hz i el hi
  refine ⟨hz',rfl,hc,hf,(List.range (els.length*sz)).map (fun k=>vals (k / sz) (k % sz)),⟨?_,?_,?_⟩,?_,?_⟩
  ·simp[flat_len hz']
  ·intro k c hk
   obtain ⟨i,el,j,a1,a2,a3,a4⟩:=flat_inv hz' hk
   exact h0 i el j c a1 a2
  ·intro k c x hk hx
   obtain ⟨i,el,j,a1,a2,a3,a4⟩:=flat_inv hz' hk
   have hlt:=(List.getElem?_eq_some_iff.1 hk).1
   rw[flat_len hz'] at hlt
   have hs:0<sz:=by omega
   have d1:(i*sz+j) / sz=i:=by rw[Nat.mul_comm,Nat.mul_add_div hs,Nat.div_eq_of_lt a4]; rfl
   have d2:(i*sz+j) % sz=j:=by rw[Nat.mul_comm,Nat.mul_add_mod]; exact Nat.mod_eq_of_lt a4
   simp[hlt] at hx
   subst hx
   rw[a3,d1,d2]
   exact h3 i el j c a1 a2
  ·intro k u hk
   have hlt:k<els.length*sz:=by have:=(List.getElem?_eq_some_iff.1 hk).1; simpa using this
   have hc':∃ c,(Ae.flat els)[k]?=some c:=by
    rw[← flat_len hz'] at hlt
    exact ⟨_,List.getElem?_eq_getElem hlt⟩
   obtain ⟨c,hc'⟩:=hc'
   obtain ⟨i,el,j,a1,a2,a3,a4⟩:=flat_inv hz' hc'
   have hs:0<sz:=by omega
   have d1:(i*sz+j) / sz=i:=by rw[Nat.mul_comm,Nat.mul_add_div hs,Nat.div_eq_of_lt a4]; rfl
   have d2:(i*sz+j) % sz=j:=by rw[Nat.mul_comm,Nat.mul_add_mod]; exact Nat.mod_eq_of_lt a4
   simp[hlt] at hk
   subst hk
   rw[a3,d1,d2]
   have:=h2 i el j c a1 a2
   rw[show o+(i*sz+j)=o+i*sz+j by omega]
   exact this
  ·intro k hk
   have hlt:k<els.length*sz:=by simpa using hk
   have hc':∃ c,(Ae.flat els)[k]?=some c:=by
    rw[← flat_len hz'] at hlt
    exact ⟨_,List.getElem?_eq_getElem hlt⟩
   obtain ⟨c,hc'⟩:=hc'
   obtain ⟨i,el,j,a1,a2,a3,a4⟩:=flat_inv hz' hc'
   have:=h1 i el j c a1 a2
   omega

theorem V.ofFlat {sz:Nat} {fl:Bool} {els:List AV} {g o cap:Nat} {ol:List Value} (hz:∀ el∈els,el.cells.length=sz) (hr:Row E (Ae.flat els) ol.toArray)
  (h2:∀ (j:Nat) u,ol[j]?=some u→E.w.cell? ⟨g,o+j,none⟩=some u) (h1:∀ j,j<ol.length→o+j<E.pr g) (hc:els.length≤cap) (hf:fl=true→cap=els.length) :
  V E (.sl sz fl els) (.slice (some ⟨g,o,none⟩) els.length cap):=by
 have hlen:(Ae.flat els).length=ol.length:=by simpa using hr.len
 have key:∀ (i:Nat) el (j:Nat) c,els[i]?=some el→el.cells[j]?=some c→(Ae.flat els)[i*sz+j]?=some c∧ol[i*sz+j]?=some (ol.getD (i*sz+j) Go.undef):=by
  intro i el j c a1 a2
  have h:=flat_get hz a1 a2
  have hlt:=(List.getElem?_eq_some_iff.1 h).1
  refine ⟨h,?_⟩
  rw[hlen] at hlt
  simp[List.getD,hlt]
 refine .sl sz fl els g o cap (fun i j=>ol.getD (i*sz+j) Go.undef) hc hf ?_ ?_ ?_ ?_ ?_
 ·intro i el hi; exact hz el (List.mem_of_getElem? hi)
 ·intro i el j c a1 a2; exact hr.one _ _ (key i el j c a1 a2).1
 ·intro i el j c a1 a2
  have hlt:=(List.getElem?_eq_some_iff.1 (key i el j c a1 a2).2).1
  have:=h1 _ hlt
  omega
 ·intro i el j c a1 a2
  have:=h2 _ _ (key i el j c a1 a2).2
  rw[show o+i*sz+j=o+(i*sz+j) by omega]
  exact this
 ·intro i el j c a1 a2
  obtain ⟨k1,k2⟩:=key i el j c a1 a2
  exact hr.v _ _ _ k1 (by simpa using k2)

theorem Row.append {xs ys:List AV} {X Y:List Value} (h:Row E xs X.toArray) (k:Row E ys Y.toArray):Row E (xs++ys) (X++Y).toArray:=by
 have hl:xs.length=X.length:=by simpa using h.len
 have hk:ys.length=Y.length:=by simpa using k.len
 refine ⟨by simp[hl,hk],?_,?_⟩
 ·intro i c hc
  by_cases hi:i<xs.length
  ·rw[List.getElem?_append_left hi] at hc; exact h.one i c hc
  ·rw[List.getElem?_append_right (by omega)] at hc; exact k.one _ c hc
 ·intro i c x hc hx
  simp only[List.getElem?_toArray] at hx
  by_cases hi:i<xs.length
  ·rw[List.getElem?_append_left hi] at hc
   rw[List.getElem?_append_left (by omega)] at hx
   exact h.v i c x hc (by simpa using hx)
  ·rw[List.getElem?_append_right (by omega)] at hc
   rw[List.getElem?_append_right (by omega)] at hx
   rw[hl] at hc
   exact k.v _ c x hc (by simpa using hx)

theorem oneCell_of {v:Value} (h:isOne v=true):v.oneCell'=true:=by cases v<;>first | rfl | (simp[isOne] at h)

theorem Row.oneCell {cs:List AV} {vs:List Value} (h:Row E cs vs.toArray):∀ u∈vs,u.oneCell'=true:=by
 intro u hu
 obtain ⟨i,hi⟩:=List.getElem?_of_mem hu
 have hl:cs.length=vs.length:=by simpa using h.len
 have hlt:=(List.getElem?_eq_some_iff.1 hi).1
 have hc:cs[i]?=some cs[i]:=List.getElem?_eq_getElem (by omega)
 exact oneCell_of ((h.v i _ u hc (by simpa using hi)).one (h.one i _ hc))

theorem load_ok {t:Nat} {ti:TI} (ht:TIok P t ti) {cs:List AV} {off:Nat} {v:AV} (h:part ti cs off=some v) {g o:Nat} (hone:∀ (j:Nat) c,cs[j]?=some c→c.one=true)
  (hcells:∀ (j:Nat) c,cs[j]?=some c→∃ x,E.w.cell? ⟨g,o+j,none⟩=some x∧V E c x) :
  ∃ z,(Instr.loadAt t (.pointer (some ⟨g,o+off,none⟩))).run P E.w=.ok z E.w∧V E v z:=by
 unfold part at h
 simp only[Instr.loadAt,Instr.sureAddr,loadVar,Sem.run_bind,Sem.run_pure,Result.andThen_ok,isAgg_run ht ht.n]
 by_cases hagg:ti.isAgg=true
 ·rw[if_pos hagg] at h⊢
  split at h
  ·rename_i hle
   cases h
   have hex:∀ j,j<ti.size→∃ x,E.w.cell? ⟨g,o+(off+j),none⟩=some x∧V E (cs.getD (off+j) .undef) x:=by
    intro j hj
    have hc:cs[off+j]?=some (cs.getD (off+j) .undef):=by simp[List.getD,show off+j<cs.length by omega]
    exact hcells _ _ hc
   have hex':∀ j,∃ x,j<ti.size→(E.w.cell? ⟨g,o+(off+j),none⟩=some x∧V E (cs.getD (off+j) .undef) x):=by
    intro j
    by_cases hj:j<ti.size
    ·obtain ⟨x,hx⟩:=hex j hj; exact ⟨x,fun _=>hx⟩
    ·exact ⟨undef,fun h=>absurd h hj⟩
   obtain ⟨φ,hφ⟩:=Classical.axiomOfChoice hex'
   refine ⟨.agg ((List.range ti.size).map φ).toArray,?_,?_⟩
   ·simp only[Sem.run_bind,sizeOf_run ht,Result.andThen_ok]
    rw[run_loadCells (P:=P) E.w ⟨g,o+off,none⟩ ti.size φ (fun j hj=>by rw[addr_add,Nat.add_assoc]; exact (hφ j hj).1)]
    simp
   ·refine .agg _ _ ?_ ?_ ?_
    ·simp; omega
    ·intro i c hc
     rw[List.getElem?_take] at hc
     split at hc
     ·rw[List.getElem?_drop] at hc; exact hone _ _ hc
     ·cases hc
    ·intro i c x hc hx
     rw[List.getElem?_take] at hc
     split at hc
     ·rename_i hi
      rw[List.getElem?_drop] at hc
      simp[hi] at hx
      subst hx
      have:=(hφ i hi).2
      simpa[List.getD,hc] using this
     ·cases hc
  ·cases h
 ·rw[if_neg hagg] at h⊢
  obtain ⟨x,hx,hV⟩:=hcells off v h
  refine ⟨x,?_,hV⟩
  simp[hx]

theorem appSrc_ok (hty:TysOk P C) {e:Nat} {ei:TI} (he:TIok P e ei) {xt:Nat} {y:AV} {ys:List AV} (h:appSrc C ei xt y=some ys) {Y:Value} (hY:V E y Y) :
  (∀ el∈ys,el.cells.length=ei.size)∧∃ news:List Value,Src P ei.size xt Y ys.length news E.w∧Row E (flat ys) news.toArray:=by
 unfold appSrc at h
 split at h
 ·rename_i e' _ _ _ hT
  have hu:P.underlying xt=some (.slice e'):=(hty _ _ hT).u
  split at h
  ·rename_i sz fl zs
   have hys:ys=zs∧(sz=ei.size∨zs=[]):=by
    split at h
    ·cases h; exact ⟨rfl,.inl ‹_›⟩
    ·split at h
     ·cases h; exact ⟨rfl,.inr rfl⟩
     ·cases h
   obtain ⟨rfl,hsz⟩:=hys
   have hY':=hY
   cases hY with
   | slNil =>
    rename_i A
    cases A with
    | none=>exact ⟨by simp,[],Src.ofNil E.w hu 0,⟨rfl,by simp[Ae.flat,flatA],by simp[Ae.flat,flatA]⟩⟩
    | some A=>exact ⟨by simp,[],Src.ofSlice E.w hu A 0 0 [] (by simp) (by simp) (by simp),⟨rfl,by simp[Ae.flat,flatA],by simp[Ae.flat,flatA]⟩⟩
   | sl _ _ _ g o cap vals hc hf hz h0 h1 h2 h3 =>
    obtain ⟨hz',_,_,_,ol,hr,hcell,_⟩:=hY'.flat
    have hz2:∀ el∈ys,el.cells.length=ei.size:=by
     rcases hsz with rfl | rfl
     ·exact hz'
     ·simp
    refine ⟨hz2,ol,Src.ofSlice E.w hu ⟨g,o,none⟩ _ cap ol ?_ (fun j u hj=>by rw[addr_add]; exact hcell j u hj) hr.oneCell,hr⟩
    have hl:(Ae.flat ys).length=ol.length:=by simpa using hr.len
    rw[← hl,flat_len hz2]
  ·cases h
 ·rename_i _ _ _ hT
  have hu:P.underlying xt=some .string:=(hty _ _ hT).u
  split at h
  ·rename_i s
   split at h
   ·rename_i h1
    cases h
    cases hY with
    | str s =>
     have hl:(s.data.toList.map fun b=>AV.int .u8 b.toNat).length=s.size:=by simp
     have hf:flat (s.data.toList.map fun b=>AV.int .u8 b.toNat)=s.data.toList.map fun b=>AV.int .u8 b.toNat:=by
      unfold flat flatA
      generalize s.data.toList=l
      induction l with
      | nil=>rfl
      | cons b l ih=>simp only[List.map_cons,List.flatten_cons,ih,AV.cells]; rfl
     refine ⟨?_,byteCells s,?_,?_⟩
     ·intro el hel
      obtain ⟨b,_,rfl⟩:=List.mem_map.1 hel
      simp[AV.cells,h1]
     ·rw[hl,h1]
      exact Src.ofString E.w hu s
     ·rw[hf]
      refine ⟨by simp[byteCells],?_,?_⟩
      ·intro i c hc
       rw[List.getElem?_map] at hc
       cases hx:s.data.toList[i]? with
       | none=>rw[hx] at hc; cases hc
       | some b=>rw[hx] at hc; cases hc; rfl
      ·intro i c x hc hx
       simp only[byteCells,List.getElem?_toArray,List.getElem?_map] at hc hx
       cases hb:s.data.toList[i]? with
       | none=>rw[hb] at hc; cases hc
       | some b=>rw[hb] at hc hx; cases hc; cases hx; exact .int _ _
   ·cases h
  ·cases h
 ·cases h

end
end Ae
namespace Ae
open Go

def OpDone (P:Program) (E0:Env) (s0:St) (nt:Nat) (E:Env) (a:Act) (o:Oper) (f':Fr):Prop :=
 ∃ E' nx y,(execOp a.eval o).run P E.w=.ok nx E'.w∧(nx=.value y∨(nx=.skip∧y=undef))∧Inv E0 s0 nt E' f' (a.put o.dst y)

theorem cellSp_congr {E E':Env} {s:St} (h:∀ b,b<s.n→E'.μ b=E.μ b∧E'.w.heap[E.μ b]?=E.w.heap[E.μ b]?) {b i g:Nat} (hs:CellSp E' s b i g) (hcp:∀ b,b<s.n→E'.cp b=E.cp b:=by exact fun _ _=>rfl):CellSp E s b i g:=by
 obtain ⟨c,v,⟨h1,h2,h3,h4⟩,h5⟩:=hs
 refine ⟨c,v,⟨h1,h2,h3,?_⟩,h5⟩
 rw[(h b h1).1,show E'.off b=E.off b by unfold Env.off; rw[hcp b h1]] at h4
 rw[← h4]
 exact (cell_heap (h b h1).2).symm

theorem V.slSz {E:Env} {sz sz':Nat} {fl fl':Bool} {els:List AV} {v:Value} (h:V E (.sl sz fl els) v) (hs:sz=sz'∨els=[]) (hf:fl'=true→fl=true):V E (.sl sz' fl' els) v:=by
 cases h with
 | slNil=>exact .slNil sz' fl' _
 | sl _ _ _ g o cap vals hc hf' hz h0 h1 h2 h3 =>
  rcases hs with rfl | rfl
  ·exact .sl sz fl' els g o cap vals hc (fun h=>hf' (hf h)) hz h0 h1 h2 h3
  ·exact .sl sz' fl' [] g o cap vals hc (fun h=>hf' (hf h)) (by simp) (by simp) (by simp) (by simp) (by simp)

section
variable {P:Program} {C:Cfg} {E0 E:Env} {s0:St} {nt:Nat} {f:Fr} {a:Act}

theorem clearO_le (os:Nat→Bool) (x:Operand):∀ t,clearO os x t=true→os t=true:=by
 intro t h
 unfold clearO at h
 split at h
 ·simp only[upd] at h
  split at h
  ·cases h
  ·exact h
 ·exact h

theorem run_append_room_row {P:Program} (w:World) (t tx ty e:TypeId) (i:TypeInfo) (ht:P.underlying t=some (.slice e)) (hi:P.info? e=some i) (b off sLen sCap:Nat) (x:Value) (n:Nat) (news:List Value) (hs:Src P i.size tx x n news w)
  (hroom:sLen+n≤sCap) (cur:Array Value) (T:TypeId) (hg:w.heap[b]?=some (.cells cur T (0,0))) (hfit:off+sLen*i.size+news.length≤cur.size) :
  (Builtin.append_ #[t,tx] ty #[.slice (some ⟨b,off,none⟩) sLen sCap,x]).run P w =
   .ok (.slice (some ⟨b,off,none⟩) (sLen+n) sCap) (w.setRow b (cur.toList.take (off+sLen*i.size)++news++cur.toList.drop (off+sLen*i.size+news.length)).toArray):=by
 have hst:=run_storeCells_at P b (off+sLen*i.size) T news 0 cur w hg (by simpa using hfit) hs.one
 simp only[Nat.add_zero] at hst
 rcases hs.kind with ⟨e',hk⟩ | hk<;>simp[Builtin.append_,run_underlying ht,run_underlying hk,Go.sizeOf,typeInfo,hi,hs.len,hroom,hs.cells,Addr.add_lit,hst]

theorem run_append_none {P:Program} (w:World) (t tx ty e:TypeId) (i:TypeInfo) (ht:P.underlying t=some (.slice e)) (hi:P.info? e=some i) (c:Nat) (x:Value) (news:List Value) (hs:Src P i.size tx x 0 news w) :
  (Builtin.append_ #[t,tx] ty #[.slice none 0 c,x]).run P w=.ok (.slice none 0 c) w:=by
 rcases hs.kind with ⟨e',hk⟩ | hk<;>simp[Builtin.append_,run_underlying ht,run_underlying hk,Go.sizeOf,typeInfo,hi,hs.len,hs.cells]

theorem firstCells_nil {P:Program} {w:World} (size:Nat) (A:Option Addr):(Builtin.firstCells size 0 (.slice A 0 0)).run P w=.ok ([]:List Value).toArray w:=by
 cases A with
 | none=>exact run_firstCells_none w size 0 0 0
 | some A=>exact run_firstCells_some w size 0 A 0 0 [] (by simp) (by simp)

theorem run_append_nil {P:Program} (w:World) (t tx ty e:TypeId) (i:TypeInfo) (ht:P.underlying t=some (.slice e)) (hi:P.info? e=some i) (A:Option Addr) (x:Value) (news:List Value) (hs:Src P i.size tx x 0 news w) :
  (Builtin.append_ #[t,tx] ty #[.slice A 0 0,x]).run P w=.ok (.slice A 0 0) w:=by
 have hn:news=[]:=List.eq_nil_of_length_eq_zero (by rw[hs.newsLen]; simp)
 subst hn
 cases A with
 | none=>exact run_append_none w t tx ty e i ht hi 0 x [] hs
 | some A =>
       rcases hs.kind with ⟨e',hk⟩ | hk<;>(simp[Builtin.append_,run_underlying ht,run_underlying hk,Go.sizeOf,typeInfo,hi,hs.len,hs.cells]; rfl)

theorem append_grow (hty:TysOk P C) (h:Inv E0 s0 nt E f a) {o:Oper} {x y:Operand} {st yt e:Nat} {T:TI} {ei:TI} (hT:C.ty st=some T) (hTu:T.u=.slice e) (he:C.ty e=some ei)
  (hop:o.op=.call { callee:=.builtin .append,args:=#[x,y],argTypes:=#[st,yt] }) (hdst:∀ i,o.dst=some i→i<nt)
  {xs ys:List AV} {base:Option Addr} {cap:Nat} (hX:a.eval x=.slice base xs.length cap)
  {olds:List Value} (hfc:(Builtin.firstCells ei.size xs.length (.slice base xs.length cap)).run P E.w.drew=.ok olds.toArray E.w.drew)
  (hxz:∀ el∈xs,el.cells.length=ei.size) (hxr:Row E (flat xs) olds.toArray)
  {news:List Value} (hsrc:Src P ei.size yt (a.eval y) ys.length news E.w) (hyz:∀ el∈ys,el.cells.length=ei.size) (hyr:Row E (flat ys) news.toArray)
  (h0:0<ei.size) (hby:ei.bytes≤256) (hzl:layable ei.zero=true) (hzc:ei.zero.cells.length=ei.size) (hlim:xs.length+ys.length≤LIM) (hg:cap<xs.length+ys.length) :
  OpDone P E0 s0 nt E a o (({ f with os:=clearO f.os x }).put o.dst (.sl ei.size false (xs++ys)) true):=by
 obtain ⟨i,hi,his,hib,z,hz,hzV⟩:=(hty _ _ he).i
 have hu:P.underlying st=some (.slice e):=by have:=(hty _ _ hT).u; rw[hTu] at this; exact this
 have hlim':xs.length+ys.length≤549755813888:=hlim
 have hby':(xs.length+ys.length)*i.bytes≤140737488355328:=by
  rw[hib]
  exact Nat.le_trans (Nat.mul_le_mul hlim' hby) (by decide)
 have hrun:=run_append_grow_src (P:=P) E.w st yt o.type e i z hu hi hz base xs.length cap olds (by rw[his]; exact hfc) (a.eval y) ys.length news (by rw[his]; exact hsrc) hg (by omega) (growslice_fits (by omega) hby')
 generalize hcp:grownCap E.w (xs.length+ys.length) cap e=cp at hrun
 have hge:xs.length+ys.length≤cp:=hcp▸grownCap_ge _ _ _ _
 have hrow:Row E (flat (xs++ys)) (olds++news).toArray:=by rw[flat_append]; exact hxr.append hyr
 have hz':∀ el∈xs++ys,el.cells.length=ei.size:=fun el hel=>(List.mem_append.1 hel).elim (hxz el) (hyz el)
 have hlen:(olds++news).length=(xs.length+ys.length)*ei.size:=by
  have:=hrow.len
  rw[flat_len hz'] at this
  simpa using this.symm
 have hzsz:z.cells.size=ei.size:=by rw[← (Row.of_layable hzl (hzV E)).len,hzc]
 have h1:Inv E0 s0 nt E { f with os:=clearO f.os x } a:=h.drop (clearO_le _ _)
 have h2:=h1.same E.w.drew rfl rfl rfl rfl
 have h3:=h2.alloc ((olds++news).toArray++Builtin.zeroCells z.cells (cp - (xs.length+ys.length))) e ((xs.length+ys.length)*ei.size)
 refine ⟨Env.new { E with w:=E.w.drew } ((olds++news).toArray++Builtin.zeroCells z.cells (cp - (xs.length+ys.length))) e ((xs.length+ys.length)*ei.size),.value (.slice (some ⟨E.w.heap.size,0,none⟩) (xs.length+ys.length) cp),.slice (some ⟨E.w.heap.size,0,none⟩) (xs.length+ys.length) cp,?_,.inl rfl,?_⟩
 ·unfold execOp
  simp only[hop,resolve,invoke,builtin,Sem.run_bind,Sem.run_pure,Result.andThen_ok,List.map_toArray,List.map_cons,List.map_nil,hX,hrun]
  rfl
 ·have hle:E.le (Env.new { E with w:=E.w.drew } ((olds++news).toArray++Builtin.zeroCells z.cells (cp - (xs.length+ys.length))) e ((xs.length+ys.length)*ei.size)) :=
   (show E.le { E with w:=E.w.drew } from ⟨Nat.le_refl _,fun _ _=>rfl,fun _=>Nat.le_refl _,fun _ _ _=>rfl,fun _ _=>rfl⟩).trans (Env.le_new (E:={ E with w:=E.w.drew }) h.core.new _ _ _)
  have hnew:=heap_alloc_new E.w.drew (.cells ((olds++news).toArray++Builtin.zeroCells z.cells (cp - (xs.length+ys.length))) e)
  have hpr:(Env.new { E with w:=E.w.drew } ((olds++news).toArray++Builtin.zeroCells z.cells (cp - (xs.length+ys.length))) e ((xs.length+ys.length)*ei.size)).pr E.w.heap.size=(xs.length+ys.length)*ei.size:=by
   simp[Env.new,upd]
  refine h3.put hdst ?_ (fun _=>⟨?_,?_⟩)
  ·have:=V.ofFlat (fl:=false) (g:=E.w.heap.size) (o:=0) (cap:=cp) hz' (hrow.le hle) ?_ ?_ (by simpa using hge) (by simp)
   ·simpa using this
   ·intro j u hj
    have hlt:=(List.getElem?_eq_some_iff.1 hj).1
    simp only[Nat.zero_add,World.cell?]
    show (match (E.w.drew.alloc _).heap[E.w.heap.size]? with | some (.cells c _ _)=>_ | _=>_)=_
    rw[show E.w.heap.size=E.w.drew.heap.size from rfl,hnew]
    simp only[Option.isSome_none,Bool.false_eq_true,if_false]
    rw[Array.getElem?_append_left (by simpa using hlt)]
    simpa using hj
   ·intro j hj
    rw[hpr]; omega
  ·intro g hg'
   simp only[spare] at hg'
   split at hg'
   ·rename_i hlt
    injection hg' with hg'
    subst hg'
    refine .sl ei.size false (xs++ys) _ 0 _ cp _ e (by simp) h0 hlt hnew ?_ ?_ ?_
    ·rw[Array.size_append,size_zeroCells,List.size_toArray,hlen,hzsz,← Nat.add_mul]
     rw[Nat.zero_add]
     congr 1
     omega
    ·rw[Nat.zero_add]; exact Nat.le_of_eq hpr
    ·intro b hb e'
     have:=h.core.boxlt (b:=b) (h.core.n▸hb)
     have e'':E.μ b=E.w.heap.size:=e'
     omega
   ·cases hg'
  ·intro g hg'
   simp only[spare] at hg'
   split at hg'
   ·injection hg' with hg'
    subst hg'
    refine ⟨fun t _ hs=>?_,fun b i hs=>?_,.inl h.size⟩
    ·have:=h1.tlt hs
     exact absurd this (Nat.lt_irrefl _)
    ·have:=h.core.lt (cellSp_congr (E:=E) (E':=Env.new { E with w:=E.w.drew } ((olds++news).toArray++Builtin.zeroCells z.cells (cp - (xs.length+ys.length))) e ((xs.length+ys.length)*ei.size)) (fun b hb=>⟨rfl,heap_alloc_old E.w.drew _ (h.core.boxlt hb)⟩) hs)
     exact absurd this (Nat.lt_irrefl _)
   ·cases hg'

theorem append_room (hty:TysOk P C) (h:Inv E0 s0 nt E f a) {o:Oper} {x y:Operand} {st yt e:Nat} {T:TI} {ei:TI} (hT:C.ty st=some T) (hTu:T.u=.slice e) (he:C.ty e=some ei)
  (hop:o.op=.call { callee:=.builtin .append,args:=#[x,y],argTypes:=#[st,yt] }) (hdst:∀ i,o.dst=some i→i<nt)
  {xs ys:List AV} {g off cap t:Nat} {fl:Bool} (hx:x=.tmp t) (htm:f.tm t=.sl ei.size fl xs) (hos:f.os t=true) (hX:a.eval x=.slice (some ⟨g,off,none⟩) xs.length cap) (hlt:xs.length<cap)
  {news:List Value} (hsrc:Src P ei.size yt (a.eval y) ys.length news E.w) (hyz:∀ el∈ys,el.cells.length=ei.size) (hyr:Row E (flat ys) news.toArray)
  (hg:xs.length+ys.length≤cap) :
  OpDone P E0 s0 nt E a o (({ f with os:=clearO f.os x }).put o.dst (.sl ei.size false (xs++ys)) true):=by
 subst hx
 obtain ⟨i,hi,his,hib,z,hz,hzV⟩:=(hty _ _ he).i
 have hu:P.underlying st=some (.slice e):=by have:=(hty _ _ hT).u; rw[hTu] at this; exact this
 have hX':a.tmps.getD t undef=.slice (some ⟨g,off,none⟩) xs.length cap:=hX
 have hV:=h.v t
 rw[hX',htm] at hV
 have hsp:spare (f.tm t) (a.tmps.getD t undef)=some g:=by rw[hX',htm]; simp[spare,hlt]
 have hspr:=h.held t hos g hsp
 have htsp:TmpSp f a t g:=⟨hos,hsp⟩
 rw[hX',htm] at hspr
 cases hspr with
 | sl _ _ _ _ _ _ _ cur ce hl hz0 hc hgc hs hp hb =>
  have hnl:news.length=ys.length*ei.size:=hsrc.newsLen
  have hle:xs.length*ei.size+ys.length*ei.size≤cap*ei.size:=by rw[← Nat.add_mul]; exact Nat.mul_le_mul_right _ hg
  have hfit:off+xs.length*ei.size+news.length≤cur.size:=by rw[hnl,hs]; omega
  have hrun:=run_append_room_row (P:=P) E.w st yt o.type e i hu hi g off xs.length cap (a.eval y) ys.length news (by rw[his]; exact hsrc) hg cur ce hgc (by rw[his]; exact hfit)
  rw[his] at hrun
  generalize hvs:(cur.toList.take (off+xs.length*ei.size)++news++cur.toList.drop (off+xs.length*ei.size+news.length))=vs at hrun
  have htake:(cur.toList.take (off+xs.length*ei.size)).length=off+xs.length*ei.size:=by simp; omega
  have hget1:∀ j,j<off+xs.length*ei.size→vs[j]?=cur[j]?:=by
   intro j hj
   rw[← hvs,List.append_assoc,List.getElem?_append_left (by omega),List.getElem?_take_of_lt hj]
   simp
  have hget2:∀ j u,news[j]?=some u→vs[off+xs.length*ei.size+j]?=some u:=by
   intro j u hj
   have hjl:=(List.getElem?_eq_some_iff.1 hj).1
   rw[← hvs,List.append_assoc,List.getElem?_append_right (by omega),htake,List.getElem?_append_left (by omega)]
   rw[show off+xs.length*ei.size+j - (off+xs.length*ei.size)=j by omega]
   exact hj
  have hvl:vs.length=cur.size:=by rw[← hvs]; simp; omega
  have h1:Inv E0 s0 nt E { f with os:=clearO f.os (.tmp t) } a:=h.drop (clearO_le _ _)
  have hnt:∀ t',¬ TmpSp { f with os:=clearO f.os (.tmp t) } a t' g:=by
   intro t' hs'
   have e':t'=t:=h.dt t' t g ⟨clearO_le f.os (.tmp t) t' hs'.1,hs'.2⟩ htsp
   have:=hs'.1
   simp[clearO,upd,e'] at this
  have hleE:E.le (E.set g vs.toArray (off+(xs.length+ys.length)*ei.size)):=Env.le_set hgc (Nat.le_trans hp (Nat.add_le_add_left (Nat.mul_le_mul_right _ (by omega)) _)) (fun o ho=>by simp only[List.getElem?_toArray]; exact hget1 o (by omega))
  have h2:=h1.write (vs:=vs.toArray) hgc (Nat.le_trans hp (Nat.add_le_add_left (Nat.mul_le_mul_right ei.size (Nat.le_add_right xs.length ys.length)) off)) (fun o ho=>by simp only[List.getElem?_toArray]; exact hget1 o (by omega)) hb (fun b i hs'=>h.dc t b i g htsp hs') hnt (h.oT t g htsp)
  have hself:(E.set g vs.toArray (off+(xs.length+ys.length)*ei.size)).w.heap[g]?=some (.cells vs.toArray ce (0,0)):=setRow_heap _ _ _ _ _ _ hgc
  have hpr:(E.set g vs.toArray (off+(xs.length+ys.length)*ei.size)).pr g=off+(xs.length+ys.length)*ei.size:=by simp[Env.set,upd]
  obtain ⟨hxz,_,_,_,ol,hxr,hxc,hxp⟩:=V.flat hV
  have hz':∀ el∈xs++ys,el.cells.length=ei.size:=fun el hel=>(List.mem_append.1 hel).elim (hxz el) (hyz el)
  have hrow:Row E (flat (xs++ys)) (ol++news).toArray:=by rw[flat_append]; exact hxr.append hyr
  have holl:ol.length=xs.length*ei.size:=by
   have:=hxr.len
   rw[flat_len hxz] at this
   simpa using this.symm
  refine ⟨E.set g vs.toArray (off+(xs.length+ys.length)*ei.size),.value (.slice (some ⟨g,off,none⟩) (xs.length+ys.length) cap),.slice (some ⟨g,off,none⟩) (xs.length+ys.length) cap,?_,.inl rfl,?_⟩
  ·unfold execOp
   simp only[hop,resolve,invoke,builtin,Sem.run_bind,Sem.run_pure,Result.andThen_ok,List.map_toArray,List.map_cons,List.map_nil,hX,hrun]
   rfl
  ·refine h2.put hdst ?_ (fun _=>⟨?_,?_⟩)
   ·have:=V.ofFlat (fl:=false) (g:=g) (o:=off) (cap:=cap) hz' (hrow.le hleE) ?_ ?_ (by simpa using hg) (by simp)
    ·simpa using this
    ·intro j u hj
     simp only[World.cell?,hself,Option.isSome_none,Bool.false_eq_true,if_false,List.getElem?_toArray]
     by_cases hjl:j<ol.length
     ·rw[List.getElem?_append_left hjl] at hj
      rw[hget1 (off+j) (by omega)]
      have:=hxc j u hj
      simpa[World.cell?,hgc] using this
     ·rw[List.getElem?_append_right (by omega)] at hj
      have:=hget2 _ u hj
      rw[holl] at this
      rw[show off+xs.length*ei.size+(j - xs.length*ei.size)=off+j by omega] at this
      exact this
    ·intro j hj
     rw[hpr,Nat.add_mul]
     rw[List.length_append,holl,hnl] at hj
     omega
   ·intro g' hg'
    simp only[spare] at hg'
    split at hg'
    ·rename_i hlt'
     injection hg' with hg'
     subst hg'
     exact .sl ei.size false (xs++ys) _ _ _ cap vs.toArray ce (by simp) hz0 hlt' hself (by simp[hvl,hs]) (Nat.le_of_eq hpr) hb
    ·cases hg'
   ·intro g' hg'
    simp only[spare] at hg'
    split at hg'
    ·injection hg' with hg'
     subst hg'
     refine ⟨fun t' _ hs'=>hnt t' hs',fun b i hs'=>?_,h.oT t g htsp⟩
     exact h.dc t b i g htsp (cellSp_congr (E:=E) (E':=E.set g vs.toArray (off+(xs.length+ys.length)*ei.size)) (fun b hb'=>⟨rfl,setRow_other _ _ _ _ (hb b (h.core.n▸hb'))⟩) hs')
    ·cases hg'

end
end Ae
namespace Ae
open Go

mutual
theorem AV.pureB_mono {n m:Nat} (h:n≤m):∀ (v:AV),v.pureB n=true→v.pureB m=true
 | .ptr b _,k=>by simp only[AV.pureB,decide_eq_true_eq] at k ⊢; omega
 | .ms _ _ b _ _,k=>by simp only[AV.pureB,decide_eq_true_eq] at k ⊢; omega
 | .eptr cs _,k=>by simp only[AV.pureB] at k ⊢; exact AV.pureL_mono h cs k
 | .sl _ _ cs,k=>by simp only[AV.pureB] at k ⊢; exact AV.pureL_mono h cs k
 | .agg cs,k=>by simp only[AV.pureB] at k ⊢; exact AV.pureL_mono h cs k
 | .tup cs,k=>by simp only[AV.pureB] at k ⊢; exact AV.pureL_mono h cs k
 | .fn _ cs,k=>by simp only[AV.pureB] at k ⊢; exact AV.pureL_mono h cs k
 | .pend _,_ | .undef,_ | .bool _,_ | .int _ _,_ | .str _,_ | .nilp,_ | .nilfn,_=>by simp[AV.pureB]
theorem AV.pureL_mono {n m:Nat} (h:n≤m):∀ (l:List AV),AV.pureL n l=true→AV.pureL m l=true
 | [],_=>rfl
 | a::l,k=>by
  simp only[AV.pureL,Bool.and_eq_true] at k ⊢
  exact ⟨AV.pureB_mono h a k.1,AV.pureL_mono h l k.2⟩
end

theorem pureL_iff {n:Nat}:∀ {l:List AV},AV.pureL n l=true↔∀ c∈l,c.pureB n=true
 | []=>by simp[AV.pureL]
 | a::l=>by simp[AV.pureL,pureL_iff (l:=l)]

theorem pureB_cells {n:Nat} {v:AV} (h:v.pureB n=true):AV.pureL n v.cells=true:=by
 cases v<;>first
  | (simp only[AV.cells,AV.pureL,Bool.and_true]; exact h)
  | (simpa[AV.cells,AV.pureB] using h)

theorem pureL_over {n:Nat} {cs new:List AV} {off:Nat} (h:AV.pureL n cs=true) (k:AV.pureL n new=true):AV.pureL n (over cs off new)=true:=by
 rw[pureL_iff] at h k ⊢
 intro c hc
 unfold over at hc
 rcases List.mem_append.1 hc with hc | hc
 ·rcases List.mem_append.1 hc with hc | hc
  ·exact h c (List.mem_of_mem_take hc)
  ·exact k c hc
 ·exact h c (List.mem_of_mem_drop hc)

theorem Row.take {E:Env} {cs:List AV} {vs:List Value} (h:Row E cs vs.toArray) (n:Nat):Row E (cs.take n) (vs.take n).toArray:=by
 have hl:cs.length=vs.length:=by simpa using h.len
 refine ⟨by simp[hl],?_,?_⟩
 ·intro i c hc
  rw[List.getElem?_take] at hc
  split at hc
  ·exact h.one i c hc
  ·cases hc
 ·intro i c x hc hx
  simp only[List.getElem?_toArray] at hx
  rw[List.getElem?_take] at hc hx
  split at hc
  ·rename_i hi
   rw[if_pos hi] at hx
   exact h.v i c x hc (by simpa using hx)
  ·cases hc

theorem Row.drop {E:Env} {cs:List AV} {vs:List Value} (h:Row E cs vs.toArray) (n:Nat):Row E (cs.drop n) (vs.drop n).toArray:=by
 have hl:cs.length=vs.length:=by simpa using h.len
 refine ⟨by simp[hl],?_,?_⟩
 ·intro i c hc
  rw[List.getElem?_drop] at hc
  exact h.one _ c hc
 ·intro i c x hc hx
  simp only[List.getElem?_toArray] at hx
  rw[List.getElem?_drop] at hc hx
  exact h.v _ c x hc (by simpa using hx)

section
variable {P:Program} {C:Cfg} {E0 E:Env} {s0:St} {nt:Nat} {f:Fr} {a:Act}

theorem newVar_run (t:TypeId) (v:Value) (w:World):(newVar t v).run P w=.ok ⟨w.heap.size,0,none⟩ (w.alloc (.cells v.cells t)):=by
 simp[newVar,newRow]

theorem push_put (f:Fr) (d:Option Nat) (v:AV) (o:Bool) (s:St):{ f.put d v o with s:=s }=({ f with s:=s }:Fr).put d v o:=by
 cases d<;>rfl

theorem V.msN {E:Env} {ag:Bool} {sz b g o n cap:Nat} (hb:b<E.n) (hμ:E.μ b=g) (ho:E.off b=o) (hc:n≤cap) (hp:o+cap*sz≤E.sz b):V E (.ms ag sz b 0 n) (.slice (some ⟨g,o,none⟩) n cap):=by
 subst hμ; subst ho
 exact V.ms ag sz b 0 n cap hb hc (by rw[Nat.add_zero]; exact hp)

theorem box_new (h:Inv E0 s0 nt E f a) {o:Oper} (hdst:∀ i,o.dst=some i→i<nt) {cs:List AV} {v:Value} (hr:Row E cs v.cells) (T:TypeId)
  (hrun:(execOp a.eval o).run P E.w=.ok (.value (.pointer (some ⟨E.w.heap.size,0,none⟩))) (E.w.alloc (.cells v.cells T))) :
  OpDone P E0 s0 nt E a o { f.put o.dst (.ptr f.s.n 0) false with s:=f.s.push cs }:=by
 refine ⟨E.push v.cells T,_,_,hrun,.inl rfl,?_⟩
 rw[push_put]
 refine (h.push hr.toP T).put0 hdst ?_
 have hμ:(E.push v.cells T).μ f.s.n=E.w.heap.size:=by simp[Env.push,upd,h.core.n]
 have:=V.ptr (E:=E.push v.cells T) f.s.n 0 (by simp[Env.push,h.core.n])
 rw[show (E.push v.cells T).off f.s.n=0 by simp[Env.off,Env.push,upd,h.core.n],hμ] at this
 exact this

theorem pend_new (h:Inv E0 s0 nt E f a) {o:Oper} (hdst:∀ i,o.dst=some i→i<nt) {sz:Nat} {v:Value} (T:TypeId) (hs:v.cells.size=sz)
  (hrun:(execOp a.eval o).run P E.w=.ok (.value (.pointer (some ⟨E.w.heap.size,0,none⟩))) (E.w.alloc (.cells v.cells T))) :
  OpDone P E0 s0 nt E a o (f.put o.dst (.pend sz) true):=by
 have hnew:=heap_alloc_new E.w (.cells v.cells T)
 refine ⟨E.new v.cells T 0,_,_,hrun,.inl rfl,?_⟩
 refine (h.alloc v.cells T 0).put hdst (.pend sz _) (fun _=>⟨?_,?_⟩)
 ·intro g hg
  simp only[spare] at hg
  injection hg with hg
  subst hg
  refine .pend sz _ _ T hnew hs (by simp[Env.new,upd]) (fun b hb e=>?_)
  have:=h.core.boxlt (b:=b) (h.core.n▸hb)
  have e':E.μ b=E.w.heap.size:=e
  omega
 ·intro g hg
  simp only[spare] at hg
  injection hg with hg
  subst hg
  refine ⟨fun t _ hs'=>?_,fun b i hs'=>?_,.inl h.size⟩
  ·exact absurd (h.tlt hs') (Nat.lt_irrefl _)
  ·have:=h.core.lt (cellSp_congr (E:=E) (E':=E.new v.cells T 0) (fun b hb=>⟨rfl,heap_alloc_old E.w _ (h.core.boxlt hb)⟩) hs')
   exact absurd this (Nat.lt_irrefl _)

theorem load_done (hty:TysOk P C) (h:Inv E0 s0 nt E f a) {o:Oper} (hdst:∀ i,o.dst=some i→i<nt) {t:Nat} {x:Operand} (hop:o.op=.load t x) {ti:TI} (hT:C.ty t=some ti)
  {b off:Nat} {cs:List AV} {v:AV} (hx:evalO f.tm x=.ptr b off) (hcs:f.s.h b=some cs) (hp:part ti cs off=some v) :
  ∃ z,(execOp a.eval o).run P E.w=.ok (.value z) E.w∧V E v z∧b<f.s.n∧(ti.isAgg=false→E.w.cell? ⟨E.μ b,E.off b+off,none⟩=some z∧cs[off]?=some v):=by
 have hV:=evalO_ok h.v x
 rw[hx] at hV
 have he:execOp a.eval o=(do pure (.value (← Instr.loadAt t (a.eval x))):Sem Next):=by unfold execOp; simp only[hop]
 rw[he]
 generalize a.eval x=X at hV
 cases hV with
 | ptr _ _ hb =>
  rw[h.core.n] at hb
  obtain ⟨cur,e,h2,h5,h3,h4⟩:=h.core.box b cs hb hcs
  have hcell:∀ (j:Nat) c,cs[j]?=some c→∃ x,E.w.cell? ⟨E.μ b,E.off b+j,none⟩=some x∧V E c x:=by
   intro j c hj
   have hlt:E.off b+j<cur.size:=by have:=(List.getElem?_eq_some_iff.1 hj).1; have:=h3.len; omega
   have hg:cur[E.off b+j]?=some cur[E.off b+j]:=Array.getElem?_eq_getElem hlt
   exact ⟨cur[E.off b+j],by simp[World.cell?,h2,hg],h3.v j c _ hj hg⟩
  obtain ⟨z,hz,hzV⟩:=load_ok (P:=P) (hty _ _ hT) hp h3.one hcell
  refine ⟨z,by rw[Sem.run_bind,hz]; rfl,hzV,hb,fun hagg=>?_⟩
  unfold part at hp
  rw[if_neg (by simp[hagg])] at hp
  obtain ⟨x,hx1,hx2⟩:=hcell off v hp
  refine ⟨?_,hp⟩
  have:(Instr.loadAt t (.pointer (some ⟨E.μ b,E.off b+off,none⟩))).run P E.w=.ok x E.w:=by
   simp[Instr.loadAt,Instr.sureAddr,loadVar,isAgg_run (hty _ _ hT) (hty _ _ hT).n,hagg,hx1]
  rw[this] at hz
  cases hz
  exact hx1

theorem load_eptr (hty:TysOk P C) (h:Inv E0 s0 nt E f a) {o:Oper} {t:Nat} {x:Operand} (hop:o.op=.load t x) {ti:TI} (hT:C.ty t=some ti)
  {off:Nat} {cs:List AV} {v:AV} (hx:evalO f.tm x=.eptr cs off) (hp:part ti cs off=some v) :
  ∃ z,(execOp a.eval o).run P E.w=.ok (.value z) E.w∧V E v z:=by
 have hV:=evalO_ok h.v x
 rw[hx] at hV
 have he:execOp a.eval o=(do pure (.value (← Instr.loadAt t (a.eval x))):Sem Next):=by unfold execOp; simp only[hop]
 rw[he]
 generalize a.eval x=X at hV
 cases hV with
 | eptr _ _ g o' vals h0 h1 h2 h3 =>
  obtain ⟨z,hz,hzV⟩:=load_ok (P:=P) (hty _ _ hT) hp h0 (fun j c hj=>⟨vals j,h2 j c hj,h3 j c hj⟩)
  exact ⟨z,by rw[Sem.run_bind,hz]; rfl,hzV⟩

theorem storeAt_run {t:Nat} {ti:TI} (ht:TIok P t ti) {g off:Nat} {X:Value} (hs:X.cells.size=ti.size) (h1:∀ u∈X.cells.toList,u.oneCell'=true) {w:World} {cur:Array Value} {T:TypeId}
  (hg:w.heap[g]?=some (.cells cur T (0,0))) (hle:off+ti.size≤cur.size) :
  (Instr.storeAt t (.pointer (some ⟨g,off,none⟩)) X).run P w=.ok () (w.setRow g (cur.toList.take off++X.cells.toList++cur.toList.drop (off+X.cells.toList.length)).toArray):=by
 have hst:=run_storeCells_at P g off T X.cells.toList 0 cur w hg (by simp[hs]; omega) h1
 simp only[Nat.add_zero] at hst
 simp[Instr.storeAt,Instr.sureAddr,storeVar,sizeOf_run ht,hs,hst]

end
end Ae
