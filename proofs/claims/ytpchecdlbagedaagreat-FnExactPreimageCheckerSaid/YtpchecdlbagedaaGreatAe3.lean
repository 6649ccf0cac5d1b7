import Derived.Test.YtpchecdlbagedaaGreatAe2
import Derived.Lib.Bytealg
import Derived.Lib.Strings
import Derived.Lib.Join
import Derived.Laws.AppendOwn
set_option linter.unusedVariables false
set_option linter.unusedSimpArgs false
namespace Ae
open Go


def loopN {σ ρ:Type} (step:σ→Option (σ ⊕ ρ)):Nat→σ→Option ρ
 | 0,_=>none
 | n+1,s=>match step s with | none=>none | some (.inl s')=>loopN step n s' | some (.inr r)=>some r

theorem loopN_succ {σ ρ:Type} {step:σ→Option (σ ⊕ ρ)}:∀ {n:Nat} {s:σ} {r:ρ},loopN step n s=some r→loopN step (n+1) s=some r
 | 0,s,r,h=>by simp[loopN] at h
 | n+1,s,r,h=>by
  unfold loopN at h⊢
  cases hs:step s with
  | none=>rw[hs] at h; cases h
  | some x =>
   rw[hs] at h
   cases x with
   | inl s'=>exact loopN_succ h
   | inr r=>exact h

theorem loopN_mono {σ ρ:Type} {step:σ→Option (σ ⊕ ρ)} {n m:Nat} (hm:n≤m) {s:σ} {r:ρ} (h:loopN step n s=some r):loopN step m s=some r:=by
 induction hm with
 | refl=>exact h
 | step _ ih=>exact loopN_succ ih

noncomputable def loop {σ ρ:Type} (step:σ→Option (σ ⊕ ρ)) (s:σ):Option ρ :=
 @dite _ (∃ r n,loopN step n s=some r) (Classical.propDecidable _) (fun h=>some (Classical.choose h)) fun _=>none

theorem loop_some {σ ρ:Type} {step:σ→Option (σ ⊕ ρ)} {s:σ} {r:ρ}:loop step s=some r↔∃ n,loopN step n s=some r:=by
 unfold loop
 constructor
 ·intro h
  split at h
  ·rename_i hx
   cases h
   exact Classical.choose_spec hx
  ·cases h
 ·rintro ⟨n,h⟩
  have hx:∃ r n,loopN step n s=some r:=⟨r,n,h⟩
  rw[dif_pos hx]
  obtain ⟨m,hm⟩:=Classical.choose_spec hx
  have h1:=loopN_mono (Nat.le_max_left n m) h
  have h2:=loopN_mono (Nat.le_max_right n m) hm
  rw[h1] at h2
  exact h2.symm

theorem loop_eq {σ ρ:Type} (step:σ→Option (σ ⊕ ρ)) (s:σ):loop step s=(step s).bind fun | .inl s'=>loop step s' | .inr r=>some r:=by
 cases hs:step s with
 | none =>
  cases hl:loop step s with
  | none=>rfl
  | some r =>
   obtain ⟨n,hn⟩:=loop_some.1 hl
   cases n with
   | zero=>cases hn
   | succ n=>unfold loopN at hn; rw[hs] at hn; cases hn
 | some x =>
  cases x with
  | inr r=>exact loop_some.2 ⟨1,by simp[loopN,hs]⟩
  | inl s' =>
   show loop step s=loop step s'
   cases hl:loop step s' with
   | none =>
    cases hl':loop step s with
    | none=>rfl
    | some r =>
     exfalso
     obtain ⟨n,hn⟩:=loop_some.1 hl'
     cases n with
     | zero=>cases hn
     | succ n =>
      unfold loopN at hn
      rw[hs] at hn
      rw[loop_some.2 ⟨n,hn⟩] at hl
      cases hl
   | some r =>
    obtain ⟨n,hn⟩:=loop_some.1 hl
    exact loop_some.2 ⟨n+1,by simp[loopN,hs,hn]⟩

theorem loop_L {σ ρ:Type} {step:σ→Option (σ ⊕ ρ)} {s s':σ} (h:step s=some (.inl s')):loop step s=loop step s':=by rw[loop_eq,h]; rfl
theorem loop_R {σ ρ:Type} {step:σ→Option (σ ⊕ ρ)} {s:σ} {r:ρ} (h:step s=some (.inr r)):loop step s=some r:=by rw[loop_eq,h]; rfl

def ix {α:Type} (l:List α) (i:Int):Option α:=if 0≤i then l[i.toNat]? else none
def cut {α:Type} (l:List α) (lo hi:Int):Option (List α):=if 0≤lo∧lo≤hi∧hi≤l.length then some ((l.drop lo.toNat).take (hi.toNat - lo.toNat)) else none
def app {α:Type} (x y:List α):Option (List α):=if x.length+y.length≤LIM then some (x++y) else none
def chr (s:List UInt8) (i:Int):Option Int:=if 0≤i∧i<s.length then some ((s.getD i.toNat 0).toNat:Int) else none

theorem obind {α β:Type} {a:Option α} {f:α→Option β} {r:β} (h:a.bind f=some r):∃ x,a=some x∧f x=some r:=Option.bind_eq_some_iff.1 h
theorem oite {α:Type} {c:Bool} {a b:Option α} {r:α} (h:(if c=true then a else b)=some r):(c=true∧a=some r)∨(c=false∧b=some r):=by
 cases c
 ·exact .inr ⟨rfl,h⟩
 ·exact .inl ⟨rfl,h⟩


inductive L2 {α β:Type} (r:α→β→Prop):List α→List β→Prop
 | nil:L2 r [] []
 | cons {a b l m} (h:r a b) (k:L2 r l m):L2 r (a::l) (b::m)

section L2
variable {α β:Type} {r:α→β→Prop}
theorem L2.len:∀ {l:List α} {m:List β},L2 r l m→m.length=l.length
 | _,_,.nil=>rfl
 | _,_,.cons _ k=>by simp[k.len]
theorem L2.get:∀ {l:List α} {m:List β},L2 r l m→∀ {i:Nat} {a:α},l[i]?=some a→∃ b,m[i]?=some b∧r a b
 | _,_,.nil,i,a,h=>by simp at h
 | _,_,.cons hr k,0,a,h=>by simp at h; subst h; exact ⟨_,rfl,hr⟩
 | _,_,.cons hr k,i+1,a,h=>by simp at h; obtain ⟨b,h1,h2⟩:=k.get h; exact ⟨b,by simpa using h1,h2⟩
theorem L2.app:∀ {l l':List α} {m m':List β},L2 r l m→L2 r l' m'→L2 r (l++l') (m++m')
 | _,_,_,_,.nil,k=>k
 | _,_,_,_,.cons hr h,k=>.cons hr (h.app k)
theorem L2.take:∀ {l:List α} {m:List β} (n:Nat),L2 r l m→L2 r (l.take n) (m.take n)
 | _,_,0,_=>by simp; exact .nil
 | _,_,n+1,.nil=>by simp; exact .nil
 | _,_,n+1,.cons hr h=>by simp; exact .cons hr (h.take n)
theorem L2.drop:∀ {l:List α} {m:List β} (n:Nat),L2 r l m→L2 r (l.drop n) (m.drop n)
 | _,_,0,h=>by simpa using h
 | _,_,n+1,.nil=>by simp; exact .nil
 | _,_,n+1,.cons hr h=>by simp; exact h.drop n
theorem L2.set:∀ {l:List α} {m:List β} (n:Nat) {a:α} {b:β},L2 r l m→r a b→L2 r (l.set n a) (m.set n b)
 | _,_,n,_,_,.nil,_=>by cases n<;>exact .nil
 | _,_,0,_,_,.cons _ h,k=>.cons k h
 | _,_,n+1,_,_,.cons hr h,k=>.cons hr (h.set n k)
end L2

def rI (k:IntKind) (n:Int) (v:AV):Prop:=v=.int k n
def rB (b:Bool) (v:AV):Prop:=v=.bool b
def rS (s:List UInt8) (v:AV):Prop:=v=.str s
structure LR {α:Type} (r:α→AV→Prop) (sz:Nat) (l:List α) (z:Nat) (e:List AV):Prop where
 z:z=sz∨z=0∧e=[]
 el:L2 r l e
def rL {α:Type} (r:α→AV→Prop) (sz:Nat) (l:List α) (v:AV):Prop:=∃ z f e,v=.sl z f e∧LR r sz l z e
abbrev Cs (ps:List (AV→Prop)) (cs:List AV):Prop:=L2 (fun p c=>p c) ps cs
def rA (ps:List (AV→Prop)) (v:AV):Prop:=∃ cs,v=.agg cs∧Cs ps cs
def rP (ps:List (AV→Prop)) (v:AV):Prop:=∃ cs,v=.eptr cs 0∧Cs ps cs
def rT (ps:List (AV→Prop)) (v:AV):Prop:=∃ cs,v=.tup cs∧Cs ps cs

structure WF (s:St):Prop where
 ro:s.ro≤s.n
 lo:s.lo≤s.n

structure Nice (k:Nat) (p:AV→Prop):Prop where
 fin:∀ s n v,p v→∃ v',fin s n k v=some v'∧p v'
 pure:∀ n v,p v→v.pureB n=true

theorem Nice.I {k:Nat} {i:IntKind} {n:Int}:Nice (k+1) (rI i n):=⟨fun s m v h=>by cases h; exact ⟨_,by simp[Ae.fin,AV.canonB],rfl⟩,fun m v h=>by cases h; simp[AV.pureB]⟩
theorem Nice.B {k:Nat} {b:Bool}:Nice (k+1) (rB b):=⟨fun s m v h=>by cases h; exact ⟨_,by simp[Ae.fin,AV.canonB],rfl⟩,fun m v h=>by cases h; simp[AV.pureB]⟩
theorem Nice.S {k:Nat} {x:List UInt8}:Nice (k+1) (rS x):=⟨fun s m v h=>by cases h; exact ⟨_,by simp[Ae.fin,AV.canonB],rfl⟩,fun m v h=>by cases h; simp[AV.pureB]⟩

theorem finL {α:Type} {r:α→AV→Prop} {k:Nat} (h:∀ x,Nice k (r x)) (s:St) (n:Nat):∀ {l:List α} {e:List AV},L2 r l e→∃ e',e.mapM (fin s n k)=some e'∧L2 r l e'
 | _,_,.nil=>⟨[],rfl,.nil⟩
 | _,_,.cons (a:=a) (b:=b) hr t=>by
  obtain ⟨v',h1,h2⟩:=(h a).fin s n b hr
  obtain ⟨e',h3,h4⟩:=finL h s n t
  exact ⟨v'::e',by simp[List.mapM_cons,h1,h3],.cons h2 h4⟩

theorem pureL2 {α:Type} {r:α→AV→Prop} {k:Nat} (h:∀ x,Nice k (r x)) (n:Nat):∀ {l:List α} {e:List AV},L2 r l e→AV.pureL n e=true
 | _,_,.nil=>by simp[AV.pureL]
 | _,_,.cons hr t=>by simp[AV.pureL,(h _).pure n _ hr,pureL2 h n t]

theorem Nice.L {α:Type} {r:α→AV→Prop} {k sz:Nat} {l:List α} (h:∀ x,Nice k (r x)):Nice (k+1) (rL r sz l):=by
 constructor
 ·rintro s n v ⟨z,f,e,rfl,hz,he⟩
  unfold Ae.fin
  split
  ·exact ⟨_,rfl,z,f,e,rfl,hz,he⟩
  ·obtain ⟨e',h1,h2⟩:=finL h s n he
   refine ⟨.sl z false e',by simp[h1],z,false,e',rfl,?_,h2⟩
   rcases hz with hz | ⟨hz,hz2⟩
   ·exact .inl hz
   ·subst hz2
    simp at h1
    exact .inr ⟨hz,h1⟩
 ·rintro n v ⟨z,f,e,rfl,hz,he⟩
  simp only[AV.pureB]
  exact pureL2 h n he

inductive All (P:(AV→Prop)→Prop):List (AV→Prop)→Prop
 | nil:All P []
 | cons {p ps} (h:P p) (k:All P ps):All P (p::ps)

theorem finC {k:Nat} (s:St) (n:Nat):∀ {ps:List (AV→Prop)} {cs:List AV},All (Nice k) ps→Cs ps cs→∃ cs',cs.mapM (fin s n k)=some cs'∧Cs ps cs'
 | _,_,_,.nil=>⟨[],rfl,.nil⟩
 | _,_,.cons hp hps,.cons hr t=>by
  obtain ⟨v',h1,h2⟩:=hp.fin s n _ hr
  obtain ⟨e',h3,h4⟩:=finC s n hps t
  exact ⟨v'::e',by simp[List.mapM_cons,h1,h3],.cons h2 h4⟩

theorem pureC {k:Nat} (n:Nat):∀ {ps:List (AV→Prop)} {cs:List AV},All (Nice k) ps→Cs ps cs→AV.pureL n cs=true
 | _,_,_,.nil=>by simp[AV.pureL]
 | _,_,.cons hp hps,.cons hr t=>by simp[AV.pureL,hp.pure n _ hr,pureC n hps t]

theorem Nice.A {k:Nat} {ps:List (AV→Prop)} (h:All (Nice k) ps):Nice (k+1) (rA ps):=by
 constructor
 ·rintro s n v ⟨cs,rfl,hc⟩
  unfold Ae.fin
  split
  ·exact ⟨_,rfl,cs,rfl,hc⟩
  ·obtain ⟨cs',h1,h2⟩:=finC s n h hc
   exact ⟨.agg cs',by simp[h1],cs',rfl,h2⟩
 ·rintro n v ⟨cs,rfl,hc⟩
  simp only[AV.pureB]
  exact pureC n h hc
theorem Nice.T {k:Nat} {ps:List (AV→Prop)} (h:All (Nice k) ps):Nice (k+1) (rT ps):=by
 constructor
 ·rintro s n v ⟨cs,rfl,hc⟩
  unfold Ae.fin
  split
  ·exact ⟨_,rfl,cs,rfl,hc⟩
  ·obtain ⟨cs',h1,h2⟩:=finC s n h hc
   exact ⟨.tup cs',by simp[h1],cs',rfl,h2⟩
 ·rintro n v ⟨cs,rfl,hc⟩
  simp only[AV.pureB]
  exact pureC n h hc

end Ae
namespace Ae
open Go

def agree {α:Type} (f:Nat→α):List (Nat × α)→Prop
 | []=>True
 | (i,c)::l=>f i=c∧agree f l

theorem agree_mem {α:Type} {f:Nat→α}:∀ {L:List (Nat × α)},agree f L→∀ p∈L,f p.1=p.2
 | [],_,p,hp=>by cases hp
 | (i,c)::l,h,p,hp=>by
  rcases List.mem_cons.1 hp with rfl | hp
  ·exact h.1
  ·exact agree_mem h.2 p hp

theorem agree_updL {α:Type} {f:Nat→α} {L:List (Nat × α)} (h:agree f L):updL f L=f:=updL_self (agree_mem h)

section
variable {C:Cfg} {I:FI} {t:List Item} {tm:Nat→AV} {os:Nat→Bool} {s:St} {Q:Fr→Prop} {all:Array Oper} {l:List Oper} {o:Oper} {draw:Bool}

theorem AW.res (L:List (Nat × AV)) (LO:List (Nat × Bool)) (hL:agree tm L) (hO:agree os LO) (k:AW C I t ⟨updL tm L,updL os LO,s⟩ Q):AW C I t ⟨tm,os,s⟩ Q:=by
 rwa [agree_updL hL,agree_updL hO] at k

theorem AOps.split (k:Nat) (P:Fr→Prop) {f:Fr} (h1:AOps C I draw all (l.take k) f P) (h2:∀ f',P f'→AOps C I draw all (l.drop k) f' Q):AOps C I draw all l f Q:=by
 have key:∀ (l1 l2:List Oper) (f:Fr) (n m:Nat) (r r':Fr),opsF C I (callF C n) draw all l1 f=some r→opsF C I (callF C m) draw all l2 r=some r'→∃ n,opsF C I (callF C n) draw all (l1++l2) f=some r':=by
  intro l1
  induction l1 with
  | nil =>
   intro l2 f n m r r' h1 h2
   cases h1
   exact ⟨m,h2⟩
  | cons o l1 ih =>
   intro l2 f n m r r' h1 h2
   have h1':=opsF_mono (callF_mono (run_mono C (Nat.le_max_left n m))) _ _ _ h1
   have h2':=opsF_mono (callF_mono (run_mono C (Nat.le_max_right n m))) _ _ _ h2
   refine ⟨max n m,?_⟩
   generalize max n m=n at h1' h2'
   clear ih h1 h2
   revert f
   generalize o::l1=ll
   induction ll with
   | nil=>intro f h; cases h; exact h2'
   | cons o l1 ih =>
    intro f h
    rw[List.cons_append]
    unfold opsF at h⊢
    cases hw:wantedA o all f.tm with
    | none=>rw[hw] at h; cases h
    | some b =>
     rw[hw] at h
     cases b with
     | false=>exact ih _ h
     | true =>
      simp only at h⊢
      cases hc:callee? o f.tm with
      | some p =>
       obtain ⟨g,args⟩:=p
       rw[hc] at h
       simp only at h⊢
       by_cases hd:draw=true
       ·rw[if_pos hd] at h⊢
        by_cases he:eff I o=true
        ·rw[if_pos he] at h⊢
         cases hr:callF C n (alias I o) g args f.s with
         | none=>rw[hr] at h; cases h
         | some p =>
          obtain ⟨v,ow,s'⟩:=p
          rw[hr] at h
          simp only at h⊢
          by_cases hp:f.s.n≤s'.n
          ·rw[if_pos hp] at h⊢; exact ih _ h
          ·rw[if_neg hp] at h; cases h
        rw[if_neg he] at h⊢
        cases hr:callF C n (alias I o) g args f.s.still with
        | none=>rw[hr] at h; cases h
        | some p =>
         obtain ⟨v,ow,s'⟩:=p
         rw[hr] at h
         simp only at h⊢
         by_cases hp:v.pureB f.s.n=true
         ·rw[if_pos hp] at h⊢; exact ih _ h
         ·rw[if_neg hp] at h; cases h
       ·rw[if_neg hd] at h⊢
        cases hr:callF C n (alias I o) g args f.s with
        | none=>rw[hr] at h; cases h
        | some p =>
         obtain ⟨v,ow,s'⟩:=p
         rw[hr] at h
         exact ih _ h
      | none =>
       rw[hc] at h
       simp only at h⊢
       cases ho:opF C I o f with
       | none=>rw[ho] at h; cases h
       | some f1=>rw[ho] at h; exact ih _ h
 obtain ⟨n,r,hr,hp⟩:=h1
 obtain ⟨m,r',hr',hq⟩:=h2 r hp
 obtain ⟨n',h'⟩:=key _ _ _ _ _ _ _ hr hr'
 rw[List.take_append_drop] at h'
 exact ⟨n',r',h',hq⟩

theorem AOps.resR (L:List (Nat × AV)) (LO:List (Nat × Bool)) (hL:agree tm L) (hO:agree os LO) (P:Fr→Prop) (k:P ⟨updL tm L,updL os LO,s⟩):AOps C I draw all [] ⟨tm,os,s⟩ P:=by
 rw[agree_updL hL,agree_updL hO] at k
 exact .nil k

theorem AW.loopF {σ τ ρ:Type} {c:Code} {step:σ→Option (σ ⊕ ρ)} {r:ρ} (P:σ→τ→Prop) (F:σ→τ→(Nat→AV)→(Nat→Bool)→Fr)
  (body:∀ x y tm os,P x y→∀ e,step x=some e→(∀ x',e=.inl x'→∀ y' tm os,P x' y'→AW C I (.inLoop c::t) (F x' y' tm os) Q)→(∀ r',e=.inr r'→r'=r)→AW C I (.code c::.inLoop c::t) (F x y tm os) Q)
  {x:σ} {y:τ} {tm:Nat→AV} {os:Nat→Bool} (h:Ae.loop step x=some r) (hP:P x y) (hz:∀ f,Ae.thaw I c f=some f:=by exact fun _=>rfl):AW C I (.code (.loop c)::t) (F x y tm os) Q:=by
 obtain ⟨n,h⟩:=loop_some.1 h
 have key:∀ n x y,loopN step n x=some r→P x y→∀ tm os,AW C I (.code c::.inLoop c::t) (F x y tm os) Q:=by
  intro n
  induction n with
  | zero=>intro x y h; cases h
  | succ n ih =>
   intro x y h hP tm os
   unfold loopN at h
   cases hs:step x with
   | none=>rw[hs] at h; cases h
   | some e =>
    rw[hs] at h
    refine body x y tm os hP e hs (fun x' he y' tm os hP'=>?_) (fun r' he=>?_)
    ·subst he
     exact .inLoop hz (ih x' y' h hP' tm os)
    ·subst he
     exact Option.some.inj h
 exact .loop (key n x y h hP tm os)


theorem AOps.ldE {d:Nat} {ty:Nat} {X:Operand} {ti:TI} {cs:List AV} {off:Nat} {v:AV} (hw:wantedA o all tm=some true) (ho:o.op=.load ty X) (hT:C.ty ty=some ti) (hX:evalO tm X=.eptr cs off) (hp:part ti cs off=some v) (hd:o.dst=some d)
  (k:AOps C I draw all l ⟨upd tm d v,upd os d false,s⟩ Q):AOps C I draw all (o::l) ⟨tm,os,s⟩ Q :=
 .op hw (by unfold callee?; rw[ho]) (f':=⟨upd tm d v,upd os d false,s⟩) (by simp[opF,moveOp,cutM,cutV,Option.map_none,pureOp,makeOp,memOp,ho,hT,hX,hp,Fr.put,hd]) k

theorem idx_sl {α:Type} {r:α→AV→Prop} {l:List α} {x:α} {z:Nat} {e:List AV} {sz:Nat} {n:Int} (hL:LR r sz l z e) (hx:ix l n=some x) :
  ∃ c,r x c∧(if z=sz then (idx n e.length).map fun m=>AV.eptr (e.getD m .undef).cells 0 else none)=some (.eptr c.cells 0):=by
 unfold ix at hx
 split at hx
 ·rename_i h0
  obtain ⟨c,h1,h2⟩:=hL.el.get hx
  have hlt:=(List.getElem?_eq_some_iff.1 h1).1
  have hz:z=sz:=hL.z.resolve_right (fun h=>by rw[h.2] at h1; simp at h1)
  refine ⟨c,h2,?_⟩
  rw[if_pos hz]
  have:idx n e.length=some n.toNat:=by unfold idx; rw[if_pos ⟨h0,by omega⟩]
  rw[this]
  simp[List.getD,h1]
 ·cases hx

def bytesOf (l:List Int):List UInt8:=l.map fun n=>UInt8.ofNat n.toNat
theorem bytes_str {l:List Int} {z:Nat} {e:List AV} (h:LR (rI .u8) 1 l z e):bytesStr z e=some (.str (bytesOf l)):=by
 have h1:∀ {l:List Int} {e:List AV},L2 (rI .u8) l e→bytesA e=some (l.map fun n=>UInt8.ofNat n.toNat):=by
  intro l e h
  induction h with
  | nil=>rfl
  | cons h k ih=>cases h; simp[bytesA,ih]
 unfold bytesStr
 rw[h1 h.el]
 rcases h.z with hz | ⟨_,rfl⟩
 ·rw[if_pos (.inl hz)]; rfl
 ·cases h.el; rw[if_pos (.inr rfl)]; rfl
theorem chr_str {s:List UInt8} {n x:Int} (hx:chr s n=some x):((idx n s.length).map fun m=>AV.int .u8 (s.getD m 0).toNat)=some (.int .u8 x):=by
 unfold chr at hx
 split at hx
 ·rename_i h
  cases hx
  unfold idx
  rw[if_pos h]
  rfl
 ·cases hx

theorem AOps.callP {d g:Nat} {args:List AV} {p:AV→Prop} (hw:wantedA o all tm=some true) (hc:callee? o tm=some (g,args)) (hd:o.dst=some d) (h:ACall C g args s fun v _ s'=>p v∧s'=s)
  (k:∀ v ow,p v→AOps C I false all l ⟨upd tm d v,upd os d ow,s⟩ Q) (ha:alias I o=false:=by rfl):AOps C I false all (o::l) ⟨tm,os,s⟩ Q :=
 .callR hw hc hd (h.mono fun v ow s' h=>by obtain ⟨h1,rfl⟩:=h; exact k v ow h1) ha
theorem AOps.callDP {d g:Nat} {args:List AV} {p:AV→Prop} (hw:wantedA o all tm=some true) (hc:callee? o tm=some (g,args)) (hd:o.dst=some d) (h:ACall C g args s.still fun v _ s'=>p v∧s'=s.still) (hn:∀ v,p v→v.pureB s.n=true)
  (k:∀ v ow,p v→AOps C I true all l ⟨upd tm d v,upd os d ow,s⟩ Q) (ha:alias I o=false:=by rfl) (he:eff I o=false:=by rfl):AOps C I true all (o::l) ⟨tm,os,s⟩ Q :=
 .callDR hw hc hd (h.mono fun v ow s' h=>⟨hn v h.1,k v ow h.1⟩) ha he

theorem WF.still {s:St} (h:WF s):WF s.still:=⟨Nat.le_refl _,h.lo⟩
theorem WF.lo' {s:St} (h:WF s):WF { s with lo:=s.n }:=⟨h.ro,Nat.le_refl _⟩

theorem St.back_lo (s:St):s.back { s with lo:=s.n }=s:=by
 cases s
 simp only[St.back,St.mk.injEq,true_and,and_true]
 constructor<;>funext b<;>split<;>rfl

theorem ACallN.pure {g:Nat} {args:List AV} {J:FI} {p:AV→Prop} (h0:C.ext g=none) (h1:C.fn g=some J) (h2:J.keep=false) (hn:Nice FINK p)
  (k:AW C J [.code J.body] ⟨enterTm args,fun _=>false,{ s with lo:=s.n }⟩ fun f1=>f1.s={ s with lo:=s.n }∧∃ v o,resA C J f1=some (v,o)∧p v):ACallN C g args s fun v _ s'=>p v∧s'=s:=by
 refine .enter h0 h1 h2 ?_
 obtain ⟨n,r,hr,hs,v,o,hres,hp⟩:=k
 obtain ⟨v',h3,h4⟩:=hn.fin r.s s.n v hp
 exact ⟨n,r,hr,v,o,v',hres,h3,h4,by rw[hs]; exact s.back_lo⟩
theorem ACall.pure {g:Nat} {args:List AV} {J:FI} {p:AV→Prop} (h0:C.ext g=none) (h1:C.fn g=some J) (h2:J.keep=false) (hn:Nice FINK p)
  (k:AW C J [.code J.body] ⟨enterTm args,fun _=>false,{ s with lo:=s.n }⟩ fun f1=>f1.s={ s with lo:=s.n }∧∃ v o,resA C J f1=some (v,o)∧p v)
  (h3:J.rd=0:=by rfl):ACall C g args s fun v _ s'=>p v∧s'=s:=(ACallN.pure h0 h1 h2 hn k).toCall h0 h1 h3
end
end Ae
namespace Ae
open Go
section
variable {C:Cfg} {I:FI} {t:List Item} {tm:Nat→AV} {os:Nat→Bool} {s:St} {Q:Fr→Prop} {all:Array Oper} {l:List Oper} {o:Oper} {draw:Bool}
theorem AOps.know {d:Nat} {b c:Bool} (hb:tm d=.bool b) (hc:b=c) (k:AOps C I draw all l ⟨upd tm d (.bool c),os,s⟩ Q):AOps C I draw all l ⟨tm,os,s⟩ Q:=by
 subst hc
 have e:upd tm d (.bool b)=tm:=by funext j; unfold upd; split<;>simp_all
 rwa [e] at k
theorem and_t {c x:Bool} (h:c=true):x=(c&&x):=by subst h; rfl
theorem and_f {c x:Bool} (h:c=false):false=(c&&x):=by subst h; rfl
theorem or_t {c x:Bool} (h:c=true):true=(c||x):=by subst h; rfl
theorem or_f {c x:Bool} (h:c=false):x=(c||x):=by subst h; rfl
theorem Cs_cons {p:AV→Prop} {ps:List (AV→Prop)} {cs:List AV} (h:Cs (p::ps) cs):∃ c cs',cs=c::cs'∧p c∧Cs ps cs':=by
 cases h with
 | cons h k=>exact ⟨_,_,rfl,h,k⟩
theorem Cs_nil {cs:List AV} (h:Cs [] cs):cs=[]:=by cases h; rfl
theorem AW.meet {σ:Type} {i:Item} {f:Fr} (F:σ→(Nat→AV)→(Nat→Bool)→Fr) (P:σ→Prop) (hK:∀ y tm os,P y→AW C I t (F y tm os) Q) (hB:(∀ y tm os,P y→AW C I t (F y tm os) Q)→AW C I (i::t) f Q):AW C I (i::t) f Q:=hB hK
theorem omap {α β:Type} {a:Option α} {f:α→β} {r:β} (h:a.map f=some r):∃ x,a=some x∧f x=r:=Option.map_eq_some_iff.1 h
theorem len_eq {α:Type} {r:α→AV→Prop} {sz:Nat} {l:List α} {z:Nat} {e:List AV} (h:LR r sz l z e):AV.int .i64 (e.length:Nat)=.int .i64 (l.length:Nat):=by rw[h.el.len]
theorem LR.lit {α:Type} {r:α→AV→Prop} {sz:Nat} {l:List α} {e:List AV} (k:L2 r l e):LR r sz l sz e:=⟨.inl rfl,k⟩

theorem app_some {α:Type} {x y l:List α} (h:app x y=some l):l=x++y∧x.length+y.length≤LIM:=by
 unfold app at h
 split at h
 ·cases h; exact ⟨rfl,by assumption⟩
 ·cases h

theorem app_LR {α:Type} {r:α→AV→Prop} {sz sz':Nat} {x y l:List α} {z z':Nat} {e e':List AV} (h:LR r sz x z e) (k:LR r sz' y z' e') (hl:app x y=some l):LR r sz l sz (e++e')∧e.length+e'.length≤LIM:=by
 obtain ⟨rfl,h1⟩:=app_some hl
 exact ⟨⟨.inl rfl,h.el.app k.el⟩,by rw[h.el.len,k.el.len]; exact h1⟩

theorem appSrc_sl {C:Cfg} {ei:TI} {yt e0 a b:Nat} {zz:AV} {z:Nat} {f:Bool} {e:List AV} (hz:z=ei.size∨z=0∧e=[]) (hT:C.ty yt=some ⟨.slice e0,a,b,zz⟩):appSrc C ei yt (.sl z f e)=some e:=by
 unfold appSrc
 rw[hT]
 simp only
 rcases hz with hz | hz
 ·rw[if_pos hz]
 ·rw[hz.2]; split<;>rfl

theorem own_tmp {os:Nat→Bool} {x:Operand} {t:Nat} {f o:Bool} (h:f=true∨o=true) (hx:x=.tmp t) (ho:os t=o):f=true∨∃ t,x=.tmp t∧os t=true:=by
 rcases h with h | h
 ·exact .inl h
 ·exact .inr ⟨t,hx,ho.trans h⟩

theorem AOps.appL {d:Nat} {x y:Operand} {st yt et:Nat} {T ei:TI} {z z':Nat} {f f':Bool} {e e':List AV} (hw:wantedA o all tm=some true) (ho:o.op=.call { callee:=.builtin .append,args:=#[x,y],argTypes:=#[st,yt] }) (hT:C.ty st=some T) (hTu:T.u=.slice et)
  (hE:C.ty et=some ei) (hX:evalO tm x=.sl z f e) (hY:evalO tm y=.sl z' f' e') (hs:appSrc C ei yt (.sl z' f' e')=some e') (hc:z=ei.size∨z=0∧e=[]) (hei:0<ei.size∧ei.bytes≤256∧layable ei.zero=true∧ei.zero.cells.length=ei.size) (hdy:I.dy.contains d=false)
  (hd:o.dst=some d) (hlen:e.length+e'.length≤LIM) (hA:f=true∨∃ t,x=.tmp t∧os t=true)
  (k:AOps C I draw all l ⟨upd tm d (.sl ei.size false (e++e')),upd (clearO os x) d true,s⟩ Q):AOps C I draw all (o::l) ⟨tm,os,s⟩ Q:=by
 refine .op hw (by unfold callee?; rw[ho]) (f':=⟨upd tm d (.sl ei.size false (e++e')),upd (clearO os x) d true,s⟩) ?_ k
 obtain ⟨u,a,b,zz⟩:=T
 simp only at hTu
 subst hTu
 have hmay:mayApp ⟨tm,os,s⟩ x (.sl z f e)=some (z,e):=by
  unfold mayApp
  cases f with
  | true=>rfl
  | false =>
   rcases hA with hA | ⟨t,rfl,ht⟩
   ·cases hA
   ·simp[ht]
 unfold opF
 simp only[moveOp,cutM,cutV,Option.map_none,pureOp,makeOp,ho]
 unfold memOp
 simp only[ho,hT,hE,hX,hY,hmay,hs,hd,Option.any_some,hdy]
 rw[if_pos ⟨hc,hei⟩,if_pos hlen,if_neg (by simp)]
 rfl

theorem add_str {a b w:List UInt8} (h:app a b=some w):(if a.length+b.length≤LIM then some (AV.str (a++b)) else none)=some (.str w):=by
 obtain ⟨rfl,h1⟩:=app_some h
 rw[if_pos h1]

theorem bnd_int {k:IntKind} {i:Int} {n:Nat} (h0:0≤i) (h1:i≤n):bnd (.int k i) n=some i.toNat:=by unfold bnd; simp only; rw[if_pos ⟨h0,h1⟩]
theorem cut_some {α:Type} {l m:List α} {lo hi:Int} (h:cut l lo hi=some m):0≤lo∧lo≤hi∧hi≤l.length∧m=(l.drop lo.toNat).take (hi.toNat - lo.toNat):=by
 unfold cut at h
 split at h
 ·rename_i h1; cases h; exact ⟨h1.1,h1.2.1,h1.2.2,rfl⟩
 ·cases h

section cutsl
variable {α:Type} {r:α→AV→Prop} {sz z:Nat} {l m:List α} {e:List AV}
theorem cut_cond (hL:LR r sz l z e):z=sz∨e.isEmpty=true:=by
 rcases hL.z with h | ⟨_,h⟩
 ·exact .inl h
 ·exact .inr (by simp[h])
theorem LR.cut (hL:LR r sz l z e) (a b:Nat):LR r sz ((l.drop a).take b) z ((e.drop a).take b):=by
 refine ⟨?_,(hL.el.drop a).take b⟩
 rcases hL.z with h | ⟨h,h2⟩
 ·exact .inl h
 ·exact .inr ⟨h,by simp[h2]⟩
theorem cut_slH {k:IntKind} {hi:Int} (f:Bool) (hL:LR r sz l z e) (h:cut l 0 hi=some m):∃ f' e',LR r sz m z e'∧(if z=sz∨e.isEmpty=true then sliceA z f e none (some (.int k hi)) none else none)=some (.sl z f' e'):=by
 obtain ⟨h1,h2,h3,rfl⟩:=cut_some h
 refine ⟨f&&decide (hi.toNat=e.length),_,hL.cut 0 hi.toNat,?_⟩
 rw[if_pos (cut_cond hL)]
 unfold sliceA bndO
 simp only[bnd_int (show 0≤hi by omega) (show hi≤(e.length:Nat) by rw[hL.el.len]; exact h3),Option.bind_some]
 rfl
end cutsl

def quoI (k:IntKind) (a b:Int):Option Int:=if b=0 then none else some (k.wrap (a.tdiv b))
def remI (_:IntKind) (a b:Int):Option Int:=if b=0 then none else some (a.tmod b)
theorem quo_ok {k:IntKind} {a b n:Int} (h:quoI k a b=some n):(if b=0 then none else some (AV.int k (k.wrap (a.tdiv b))))=some (.int k n):=by
 unfold quoI at h; split at h<;>cases h; rw[if_neg (by assumption)]
theorem rem_ok {k:IntKind} {a b n:Int} (h:remI k a b=some n):(if b=0 then none else some (AV.int k (a.tmod b)))=some (.int k n):=by
 unfold remI at h; split at h<;>cases h; rw[if_neg (by assumption)]
end
theorem AW.sr {C:Cfg} {I:FI} {t:List Item} {f:Fr} {Q:Fr→Prop} {id:Nat} {all:Array Oper} {draw:Bool} {b:Code} (k:AOps C I draw all all.toList f fun f'=>AW C I (.code b::t) f' Q):AW C I (.code (.seq (.region id all draw) b)::t) f Q:=AW.seq (AW.region k)
end Ae
namespace Ae
open Go

section
variable {C:Cfg} {I:FI} {t:List Item} {tm:Nat→AV} {os:Nat→Bool} {s:St} {Q:Fr→Prop} {all:Array Oper} {l:List Oper} {o:Oper} {draw:Bool}

theorem AOps.allocP {d ty:Nat} {ti:TI} (hw:wantedA o all tm=some true) (ho:o.op=.alloc ty) (hT:C.ty ty=some ti) (hb:lookBk I.bk d=none) (hz:layable ti.zero=true∧ti.zero.cells.length=ti.size) (hd:o.dst=some d)
  (k:AOps C I draw all l ⟨upd tm d (.pend ti.size),upd os d true,s⟩ Q):AOps C I draw all (o::l) ⟨tm,os,s⟩ Q :=
 .op hw (by unfold callee?; rw[ho]) (f':=⟨upd tm d (.pend ti.size),upd os d true,s⟩) (by simp[opF,moveOp,cutM,cutV,Option.map_none,pureOp,makeOp,memOp,ho,hT,hd,hb,hz.1,hz.2,Fr.put]) k

theorem AOps.stP {p ty sz:Nat} {X:Operand} {ti:TI} {v:AV} (hw:wantedA o all tm=some true) (ho:o.op=.store ty (.tmp p) X) (hT:C.ty ty=some ti) (hp:tm p=.pend sz) (hos:os p=true) (hsz:sz=ti.size) (hv:evalO tm X=v) (hl:layable v=true) (hn:v.cells.length=ti.size) (h0:0<ti.size) (hd:o.dst=none)
  (k:AOps C I draw all l ⟨upd tm p (.eptr v.cells 0),upd os p false,s⟩ Q):AOps C I draw all (o::l) ⟨tm,os,s⟩ Q :=
 .op hw (by unfold callee?; rw[ho]) (f':=⟨upd tm p (.eptr v.cells 0),upd os p false,s⟩) (by
  have e:evalO tm (.tmp p)=.pend sz:=hp
  simp[opF,moveOp,cutM,cutV,Option.map_none,pureOp,makeOp,memOp,ho,hT,hv,hl,hn,h0,hd,e,hos,hsz]) k
end


structure BX where
 b:Option Nat
 cs:List AV
 ow:Nat→Bool

structure HS (ex:List Nat) (kp:Bool) (s0 s:St) (L:List BX):Prop where
 n:s0.n≤s.n
 ro:s.ro=s0.ro
 lo:s.lo=(if kp then s0.lo else s0.n)
 lol:s0.lo≤s0.n
 wf:s0.ro≤s0.n
 xl:∀ b∈ex,s0.ro≤b∧b<s0.n
 old:∀ b,b<s0.n→b∉ex→s.h b=s0.h b∧s.ow b=s0.ow b
 bx:∀ x∈L,∀ b,x.b=some b→(s0.n≤b∨b∈ex)∧b<s.n∧s.h b=some x.cs∧s.ow b=x.ow
 nd:(L.filterMap BX.b).Nodup

theorem HS.init {s:St} (h:WF s):HS [] false s { s with lo:=s.n } []:=⟨Nat.le_refl _,rfl,rfl,h.lo,h.ro,fun _ hb=>(by cases hb),fun _ _ _=>⟨rfl,rfl⟩,fun x hx=>(by cases hx),List.nodup_nil⟩
theorem HS.wf' {ex:List Nat} {kp:Bool} {s0 s:St} {L:List BX} (h:HS ex kp s0 s L):WF s:=⟨by rw[h.ro]; exact Nat.le_trans h.wf h.n,by
 rw[h.lo]
 have h1:=h.n
 have h2:=h.lol
 split<;>omega⟩
theorem HS.back {kp:Bool} {s0 s:St} {L:List BX} (h:HS [] kp s0 s L):s0.back s=s0:=by
 cases s0
 simp only[St.back,St.mk.injEq,true_and,and_true]
 constructor<;>funext b<;>split
 ·rename_i hb; exact (h.old b hb (List.not_mem_nil)).1
 ·rfl
 ·rename_i hb; exact (h.old b hb (List.not_mem_nil)).2
 ·rfl

theorem ACallN.boxes {C:Cfg} {g:Nat} {args:List AV} {s:St} {J:FI} {p:AV→Prop} (h0:C.ext g=none) (h1:C.fn g=some J) (h2:J.keep=false)
  (k:AW C J [.code J.body] ⟨enterTm args,fun _=>false,{ s with lo:=s.n }⟩ fun f1=>(∃ L,HS [] false s f1.s L)∧∃ v o,resA C J f1=some (v,o)∧∃ v',fin f1.s s.n FINK v=some v'∧p v'):ACallN C g args s fun v _ s'=>p v∧s'=s:=by
 refine .enter h0 h1 h2 ?_
 obtain ⟨n,r,hr,⟨L,hL⟩,v,o,hres,v',h3,h4⟩:=k
 exact ⟨n,r,hr,v,o,v',hres,h3,h4,hL.back⟩
theorem ACall.boxes {C:Cfg} {g:Nat} {args:List AV} {s:St} {J:FI} {p:AV→Prop} (h0:C.ext g=none) (h1:C.fn g=some J) (h2:J.keep=false)
  (k:AW C J [.code J.body] ⟨enterTm args,fun _=>false,{ s with lo:=s.n }⟩ fun f1=>(∃ L,HS [] false s f1.s L)∧∃ v o,resA C J f1=some (v,o)∧∃ v',fin f1.s s.n FINK v=some v'∧p v')
  (h3:J.rd=0:=by rfl):ACall C g args s fun v _ s'=>p v∧s'=s:=(ACallN.boxes h0 h1 h2 k).toCall h0 h1 h3

theorem HS.push {ex:List Nat} {kp:Bool} {s0 s:St} {L:List BX} (h:HS ex kp s0 s L) (cs:List AV):HS ex kp s0 (s.push cs) (⟨some s.n,cs,fun _=>false⟩::L) where
 n:=Nat.le_succ_of_le h.n
 ro:=h.ro
 lo:=h.lo
 lol:=h.lol
 wf:=h.wf
 xl:=h.xl
 old:=fun b hb hx=>by
  have:=h.n
  have e:b≠s.n:=by omega
  simpa[St.push,upd,e] using h.old b hb hx
 bx:=fun x hx b hb=>by
  rcases List.mem_cons.1 hx with rfl | hx
  ·cases hb
   exact ⟨.inl h.n,Nat.lt_succ_self _,by simp[St.push,upd],by simp[St.push,upd]⟩
  ·obtain ⟨h1,h2,h3,h4⟩:=h.bx x hx b hb
   have e:b≠s.n:=by omega
   exact ⟨h1,Nat.lt_succ_of_lt h2,by simpa[St.push,upd,e] using h3,by simpa[St.push,upd,e] using h4⟩
 nd:=by
  simp only[List.filterMap_cons,List.nodup_cons]
  refine ⟨fun hm=>?_,h.nd⟩
  obtain ⟨x,hx,hb⟩:=List.mem_filterMap.1 hm
  have:=(h.bx x hx _ hb).2.1
  omega

theorem HS.non {ex:List Nat} {kp:Bool} {s0 s:St} {L:List BX} (h:HS ex kp s0 s L) (cs:List AV) (ow:Nat→Bool):HS ex kp s0 s (⟨none,cs,ow⟩::L) where
 n:=h.n
 ro:=h.ro
 lo:=h.lo
 lol:=h.lol
 wf:=h.wf
 xl:=h.xl
 old:=h.old
 bx:=fun x hx b hb=>by
  rcases List.mem_cons.1 hx with rfl | hx
  ·cases hb
  ·exact h.bx x hx b hb
 nd:=by simpa using h.nd

theorem nodup_set {L:List BX} (h:(L.filterMap BX.b).Nodup) {i:Nat} {x y:BX} (hx:L[i]?=some x) (hb:y.b=x.b):((L.set i y).filterMap BX.b)=L.filterMap BX.b:=by
 induction L generalizing i with
 | nil=>simp at hx
 | cons a L ih =>
  cases i with
  | zero =>
   simp at hx
   subst hx
   simp[List.filterMap_cons,hb]
  | succ i =>
   simp at hx
   have:(L.filterMap BX.b).Nodup:=by
    cases ha:a.b with
    | none=>simpa[List.filterMap_cons,ha] using h
    | some b=>simp[ha] at h; exact h.2
   simp[List.filterMap_cons,ih this hx]

theorem nodup_inj {L:List BX} (h:(L.filterMap BX.b).Nodup) {i j b:Nat} {x y:BX} (hx:L[i]?=some x) (hy:L[j]?=some y) (hb:x.b=some b) (hb':y.b=some b):i=j:=by
 induction L generalizing i j with
 | nil=>simp at hx
 | cons a L ih =>
  have hn:(L.filterMap BX.b).Nodup:=by
   cases ha:a.b with
   | none=>simpa[List.filterMap_cons,ha] using h
   | some b=>simp[ha] at h; exact h.2
  have hno:∀ {k:Nat} {z:BX},L[k]?=some z→z.b=some b→a.b≠some b:=by
   intro k z hz hzb ha
   simp only[List.filterMap_cons,ha,List.nodup_cons] at h
   exact h.1 (List.mem_filterMap.2 ⟨z,List.mem_of_getElem? hz,hzb⟩)
  cases i with
  | zero =>
   cases j with
   | zero=>rfl
   | succ j=>simp at hx hy; subst hx; exact absurd hb (hno hy hb')
  | succ i =>
   cases j with
   | zero=>simp at hx hy; subst hy; exact absurd hb' (hno hx hb)
   | succ j=>simp at hx hy; rw[ih hn hx hy]
theorem HS.set {ex:List Nat} {kp:Bool} {s0 s:St} {L:List BX} (h:HS ex kp s0 s L) {i b:Nat} {x:BX} (hx:L[i]?=some x) (hb:x.b=some b) (cs:List AV) (ow:Nat→Bool):HS ex kp s0 (s.setBox b cs ow) (L.set i ⟨some b,cs,ow⟩) where
 n:=h.n
 ro:=h.ro
 lo:=h.lo
 lol:=h.lol
 wf:=h.wf
 xl:=h.xl
 old:=fun b' hb' hx'=>by
  have h1:=h.bx x (List.mem_of_getElem? hx) b hb
  have e:b'≠b:=by
   intro e
   rcases h1.1 with h1 | h1
   ·omega
   ·exact hx' (e▸h1)
  simpa[St.setBox,upd,e] using h.old b' hb' hx'
 bx:=fun y hy b' hb'=>by
  have h1:=h.bx x (List.mem_of_getElem? hx) b hb
  obtain ⟨j,hj⟩:=List.mem_iff_getElem?.1 hy
  rw[List.getElem?_set] at hj
  split at hj
  ·rename_i hij
   subst hij
   split at hj
   ·cases hj
    cases hb'
    exact ⟨h1.1,h1.2.1,by simp[St.setBox,upd],by simp[St.setBox,upd]⟩
   ·cases hj
  ·rename_i hij
   have h2:=h.bx y (List.mem_of_getElem? hj) b' hb'
   have e:b'≠b:=by
    intro e
    subst e
    exact hij (nodup_inj h.nd hx hj hb hb')
   exact ⟨h2.1,h2.2.1,by simpa[St.setBox,upd,e] using h2.2.2.1,by simpa[St.setBox,upd,e] using h2.2.2.2⟩
 nd:=by rw[nodup_set h.nd hx (by simp[hb])]; exact h.nd
end Ae
namespace Ae
open Go

theorem nodup_new {L:List BX} {n:Nat} (h:(L.filterMap BX.b).Nodup) (hlt:∀ x∈L,∀ b,x.b=some b→b<n) {i:Nat} {y:BX} (hy:y.b=some n) (hi:i<L.length):((L.set i y).filterMap BX.b).Nodup:=by
 induction L generalizing i with
 | nil=>simp at hi
 | cons a L ih =>
  have hn:(L.filterMap BX.b).Nodup:=by
   cases ha:a.b with
   | none=>simpa[List.filterMap_cons,ha] using h
   | some b=>simp[ha] at h; exact h.2
  cases i with
  | zero =>
   simp only[List.set_cons_zero,List.filterMap_cons,hy,List.nodup_cons]
   refine ⟨fun hm=>?_,hn⟩
   obtain ⟨x,hx,hb⟩:=List.mem_filterMap.1 hm
   exact absurd (hlt x (List.mem_cons_of_mem _ hx) _ hb) (Nat.lt_irrefl _)
  | succ i =>
   have ih':=ih hn (fun x hx=>hlt x (List.mem_cons_of_mem _ hx)) (i:=i) (by simpa using hi)
   cases ha:a.b with
   | none=>simpa[List.filterMap_cons,ha] using ih'
   | some b =>
    simp only[List.set_cons_succ,List.filterMap_cons,ha,List.nodup_cons]
    refine ⟨fun hm=>?_,ih'⟩
    obtain ⟨x,hx,hb⟩:=List.mem_filterMap.1 hm
    obtain ⟨j,hj⟩:=List.mem_iff_getElem?.1 hx
    rw[List.getElem?_set] at hj
    split at hj
    ·split at hj
     ·cases hj
      rw[hy] at hb
      cases hb
      exact absurd (hlt a (List.mem_cons_self ..) _ ha) (Nat.lt_irrefl _)
     ·cases hj
    ·simp only[List.filterMap_cons,ha,List.nodup_cons] at h
     exact h.1 (List.mem_filterMap.2 ⟨x,List.mem_of_getElem? hj,hb⟩)

theorem HS.re {ex:List Nat} {kp:Bool} {s0 s:St} {L:List BX} (h:HS ex kp s0 s L) {i:Nat} {x:BX} (hx:L[i]?=some x) {s1:St} (h1:s1.n=s.n) (h2:s1.ro=s.ro) (h3:s1.lo=s.lo) (h4:s1.ow=s.ow) (h5:∀ b,s1.h b=s.h b∨(x.b=some b)) (cs:List AV):HS ex kp s0 (s1.push cs) (L.set i ⟨some s.n,cs,fun _=>false⟩) where
 n:=by have:=h.n; simp only[St.push,h1]; omega
 ro:=h2.trans h.ro
 lo:=h3.trans h.lo
 lol:=h.lol
 wf:=h.wf
 xl:=h.xl
 old:=fun b hb hx'=>by
  have hn:=h.n
  have e:b≠s.n:=by omega
  have e2:s1.h b=s.h b:=by
   rcases h5 b with h5 | h5
   ·exact h5
   ·rcases (h.bx x (List.mem_of_getElem? hx) b h5).1 with h6 | h6
    ·omega
    ·exact absurd h6 hx'
  simpa[St.push,upd,e,h1,h4,e2] using h.old b hb hx'
 bx:=fun y hy b hb=>by
  obtain ⟨j,hj⟩:=List.mem_iff_getElem?.1 hy
  rw[List.getElem?_set] at hj
  split at hj
  ·split at hj
   ·cases hj
    cases hb
    exact ⟨.inl h.n,by simp[St.push,h1],by simp[St.push,upd,h1],by simp[St.push,upd,h1]⟩
   ·cases hj
  ·rename_i hij
   have k:=h.bx y (List.mem_of_getElem? hj) b hb
   have e:b≠s.n:=by omega
   have e2:s1.h b=s.h b:=by
    rcases h5 b with h5 | h5
    ·exact h5
    ·exact absurd (nodup_inj h.nd hx hj h5 hb) hij
   exact ⟨k.1,by simp only[St.push,h1]; omega,by simpa[St.push,upd,e,h1,e2] using k.2.2.1,by simpa[St.push,upd,e,h1,h4] using k.2.2.2⟩
 nd:=nodup_new h.nd (fun y hy b hb=>(h.bx y hy b hb).2.1) rfl (List.getElem?_eq_some_iff.1 hx).1

theorem HS.take {ex:List Nat} {kp:Bool} {s0 s:St} {L:List BX} (h:HS ex kp s0 s L) {i b off:Nat} {x:BX} (hx:L[i]?=some x) (hb:x.b=some b):HS ex kp s0 { s with ow:=upd s.ow b (upd (s.ow b) off false) } (L.set i ⟨some b,x.cs,upd x.ow off false⟩) where
 n:=h.n
 ro:=h.ro
 lo:=h.lo
 lol:=h.lol
 wf:=h.wf
 xl:=h.xl
 old:=fun b' hb' hx'=>by
  have h1:=h.bx x (List.mem_of_getElem? hx) b hb
  have e:b'≠b:=by
   intro e
   rcases h1.1 with h1 | h1
   ·omega
   ·exact hx' (e▸h1)
  simpa[upd,e] using h.old b' hb' hx'
 bx:=fun y hy b' hb'=>by
  have h1:=h.bx x (List.mem_of_getElem? hx) b hb
  obtain ⟨j,hj⟩:=List.mem_iff_getElem?.1 hy
  rw[List.getElem?_set] at hj
  split at hj
  ·split at hj
   ·cases hj
    cases hb'
    exact ⟨h1.1,h1.2.1,h1.2.2.1,by simp[upd,h1.2.2.2]⟩
   ·cases hj
  ·rename_i hij
   have h2:=h.bx y (List.mem_of_getElem? hj) b' hb'
   have e:b'≠b:=by
    intro e
    subst e
    exact hij (nodup_inj h.nd hx hj hb hb')
   exact ⟨h2.1,h2.2.1,h2.2.2.1,by simpa[upd,e] using h2.2.2.2⟩
 nd:=by rw[nodup_set h.nd hx (by simp[hb])]; exact h.nd


def Shp (ag:Bool) (sz:Nat) (el:AV):Prop:=el.cells.length=sz∧if ag=true then ∃ c,el=.agg c∧∀ x∈c,x.one=true else el.one=true
def Sh {α:Type} (ag:Bool) (sz:Nat) (r:α→AV→Prop):Prop:=∀ x v,r x v→Shp ag sz v
theorem Sh.I {k:IntKind}:Sh false 1 (rI k):=fun x v h=>by cases h; exact ⟨rfl,rfl⟩
theorem Sh.B:Sh false 1 rB:=fun x v h=>by cases h; exact ⟨rfl,rfl⟩
theorem Sh.S:Sh false 1 rS:=fun x v h=>by cases h; exact ⟨rfl,rfl⟩
def One (p:AV→Prop):Prop:=∀ v,p v→v.one=true
theorem One.of {α:Type} {r:α→AV→Prop} (h:Sh false 1 r) (x:α):One (r x):=fun v hv=>by simpa using (h x v hv).2
theorem Cs.one:∀ {ps:List (AV→Prop)} {cs:List AV},All One ps→Cs ps cs→∀ x∈cs,x.one=true
 | _,_,_,.nil,x,hx=>by cases hx
 | _,_,.cons hp hps,.cons hr t,x,hx=>by
  rcases List.mem_cons.1 hx with rfl | hx
  ·exact hp _ hr
  ·exact Cs.one hps t x hx
theorem Sh.A {α:Type} {f:α→List (AV→Prop)} {n:Nat} (h:∀ x,All One (f x)∧(f x).length=n):Sh true n fun x=>rA (f x):=fun x v hv=>by
 obtain ⟨cs,rfl,hc⟩:=hv
 exact ⟨by rw[← (h x).2]; exact hc.len,by rw[if_pos rfl]; exact ⟨cs,rfl,Cs.one (h x).1 hc⟩⟩

structure MS {α:Type} (r:α→AV→Prop) (ag:Bool) (sz:Nat) (l:List α) (n:Nat) (cs:List AV):Prop where
 ex:∃ els ex,cs=flatA els++ex∧els.length=n∧L2 r l els∧∀ el∈els,Shp ag sz el

section
variable {α:Type} {r:α→AV→Prop} {ag:Bool} {sz n b:Nat} {l m:List α} {cs:List AV}

theorem MS.len (h:MS r ag sz l n cs):n=l.length:=by
 obtain ⟨els,ex,_,h2,h3,_⟩:=h.ex
 rw[← h2,h3.len]

theorem MS.of {els:List AV} (h:L2 r l els) (hs:Sh ag sz r):MS r ag sz l els.length (flatA els) :=
 ⟨els,[],by simp,rfl,h,by
  intro el hel
  obtain ⟨i,hi⟩:=List.mem_iff_getElem?.1 hel
  have hlt:=(List.getElem?_eq_some_iff.1 hi).1
  rw[h.len] at hlt
  obtain ⟨b,h1,h2⟩:=h.get (List.getElem?_eq_getElem hlt)
  rw[hi] at h1
  cases h1
  exact hs _ _ h2⟩

theorem ms_lt (h:MS r ag sz l n cs) {i:Int} {x:α} (hx:ix l i=some x):0≤i∧i<n∧l[i.toNat]?=some x:=by
 unfold ix at hx
 split at hx
 ·rename_i h0
  have:=(List.getElem?_eq_some_iff.1 hx).1
  rw[h.len]
  exact ⟨h0,by omega,hx⟩
 ·cases hx

theorem idx_ms (h:MS r ag sz l n cs) {i:Int} {x:α} (hx:ix l i=some x):(if sz=sz then (idx i n).map fun m=>AV.ptr b (0+m*sz) else none)=some (.ptr b (0+i.toNat*sz)):=by
 obtain ⟨h0,h1,_⟩:=ms_lt h hx
 rw[if_pos rfl]
 unfold idx
 rw[if_pos ⟨h0,h1⟩]
 rfl

theorem flat_at {els:List AV} (hz:∀ el∈els,el.cells.length=sz) {i:Nat} {el:AV} (hi:els[i]?=some el) (ex:List AV):((flatA els++ex).drop (i*sz)).take sz=el.cells∧i*sz+sz≤(flatA els).length:=by
 induction els generalizing i with
 | nil=>simp at hi
 | cons a els ih =>
  have ha:=hz a (List.mem_cons_self ..)
  have hf:flatA (a::els)=a.cells++flatA els:=by simp[flatA]
  cases i with
  | zero =>
   simp at hi
   subst hi
   rw[hf]
   refine ⟨?_,by simp; omega⟩
   simp[ha]
  | succ i =>
   simp at hi
   obtain ⟨h1,h2⟩:=ih (fun el h=>hz el (List.mem_cons_of_mem _ h)) hi
   rw[hf,List.append_assoc]
   refine ⟨?_,by simp[Nat.add_mul]; omega⟩
   rw[← h1,List.drop_append,ha]
   have:a.cells.drop ((i+1)*sz)=[]:=List.drop_eq_nil_of_le (by rw[ha,Nat.add_mul]; omega)
   have e2:(i+1)*sz - sz=i*sz:=by rw[Nat.add_mul]; omega
   rw[this,List.nil_append,e2]

theorem part_ms (h:MS r ag sz l n cs) {i:Int} {x:α} (hx:ix l i=some x) (ti:TI):∃ c,r x c∧Shp ag sz c∧∀ off,0<ti.size→off+ti.size≤sz→part ti cs (0+i.toNat*sz+off)=part ti c.cells off:=by
 obtain ⟨h0,h1,h2⟩:=ms_lt h hx
 obtain ⟨els,ex,rfl,h3,h4,h5⟩:=h.ex
 obtain ⟨c,h6,h7⟩:=h4.get h2
 have hs:=h5 c (List.mem_of_getElem? h6)
 refine ⟨c,h7,hs,fun off hpos hoff=>?_⟩
 obtain ⟨k1,k2⟩:=flat_at (fun el hel=>(h5 el hel).1) h6 ex
 have e:∀ j,j<sz→(flatA els++ex)[0+i.toNat*sz+j]?=c.cells[j]?:=by
  intro j hj
  rw[← k1,List.getElem?_take,if_pos hj,List.getElem?_drop,Nat.zero_add]
 unfold part
 by_cases ha:ti.isAgg=true
 ·rw[if_pos ha,if_pos ha,if_pos (by rw[List.length_append]; omega),if_pos (by rw[hs.1]; exact hoff)]
  congr 2
  apply List.ext_getElem?
  intro j
  rw[List.getElem?_take,List.getElem?_take]
  split
  ·rw[List.getElem?_drop,List.getElem?_drop,Nat.add_assoc,e _ (by omega)]
  ·rfl
 ·rw[if_neg ha,if_neg ha,e off (by omega)]

theorem flat_set {els:List AV} (hz:∀ el∈els,el.cells.length=sz) {i:Nat} (hi:i<els.length) {v:AV} (hv:v.cells.length=sz) (ex:List AV):over (flatA els++ex) (0+i*sz) v.cells=flatA (els.set i v)++ex:=by
 induction els generalizing i with
 | nil=>simp at hi
 | cons a els ih =>
  have ha:=hz a (List.mem_cons_self ..)
  have hf:∀ a els,flatA (a::els)=a.cells++flatA els:=by intro a els; simp[flatA]
  cases i with
  | zero =>
   simp only[List.set_cons_zero,hf,over,Nat.zero_mul,Nat.add_zero,List.take_zero,List.nil_append,Nat.zero_add]
   rw[hv,List.append_assoc,List.append_assoc,List.drop_append,ha]
   simp[← ha]
  | succ i =>
   have ih':=ih (fun el h=>hz el (List.mem_cons_of_mem _ h)) (i:=i) (by simpa using hi)
   simp only[List.set_cons_succ,hf,List.append_assoc]
   rw[← ih']
   unfold over
   have e:0+(i+1)*sz=sz+(0+i*sz):=by rw[Nat.add_mul]; omega
   rw[e]
   generalize 0+i*sz=q
   have t1:(a.cells++(flatA els++ex)).take (sz+q)=a.cells++(flatA els++ex).take q:=by
    rw[List.take_append,ha,List.take_of_length_le (by omega)]; congr 2; omega
   have t2:(a.cells++(flatA els++ex)).drop (sz+q+v.cells.length)=(flatA els++ex).drop (q+v.cells.length):=by
    rw[List.drop_append,ha,List.drop_eq_nil_of_le (by omega),List.nil_append]; congr 1; omega
   rw[t1,t2,List.append_assoc,List.append_assoc,List.append_assoc]

theorem MS.set (h:MS r ag sz l n cs) {i:Int} {x y:α} (hx:ix l i=some x) {v:AV} (hr:r y v) (hs:Shp ag sz v):MS r ag sz (l.set i.toNat y) n (over cs (0+i.toNat*sz) v.cells):=by
 obtain ⟨h0,h1,h2⟩:=ms_lt h hx
 obtain ⟨els,ex,rfl,h3,h4,h5⟩:=h.ex
 refine ⟨els.set i.toNat v,ex,flat_set (fun el hel=>(h5 el hel).1) (by omega) hs.1 ex,by simp[h3],h4.set _ hr,?_⟩
 intro el hel
 rcases List.mem_or_eq_of_mem_set hel with h | rfl
 ·exact h5 el h
 ·exact hs

theorem MS.bound (h:MS r ag sz l n cs) {i:Int} {x:α} (hx:ix l i=some x):0+i.toNat*sz+sz≤cs.length:=by
 obtain ⟨h0,h1,h2⟩:=ms_lt h hx
 obtain ⟨els,ex,rfl,h3,h4,h5⟩:=h.ex
 obtain ⟨c,h6,h7⟩:=h4.get h2
 have:=(flat_at (fun el hel=>(h5 el hel).1) h6 ex).2
 rw[List.length_append]; omega

theorem MS.cut (h:MS r ag sz l n cs) {k:IntKind} {hi:Int} (hc:Ae.cut l 0 hi=some m):MS r ag sz m hi.toNat cs∧((bndO (some (.int k hi)) n n).bind fun h=>(bndO none h 0).map fun l=>AV.ms ag sz b (0+l*sz) (h - l))=some (.ms ag sz b 0 hi.toNat):=by
 obtain ⟨h1,h2,h3,rfl⟩:=cut_some hc
 have hn:=h.len
 obtain ⟨els,ex,rfl,h4,h5,h6⟩:=h.ex
 constructor
 ·refine ⟨els.take hi.toNat,flatA (els.drop hi.toNat)++ex,?_,by simp; omega,?_,fun el hel=>h6 el (List.mem_of_mem_take hel)⟩
  ·rw[← List.append_assoc]
   congr 1
   conv=>lhs; rw[← List.take_append_drop hi.toNat els]
   unfold flatA
   rw[List.map_append,List.flatten_append]
  ·simpa using h5.take hi.toNat
 ·unfold bndO
  simp only[bnd_int (show 0≤hi by omega) (show hi≤(n:Nat) by omega),Option.bind_some,Option.map_some,Nat.zero_mul,Nat.add_zero,Nat.sub_zero]

theorem MS.app (h:MS r ag sz l n cs) {e:List AV} (hm:L2 r m e) (hs:Sh ag sz r):MS r ag sz (l++m) (n+e.length) (cs.take (n*sz)++flatA e):=by
 obtain ⟨els,ex,rfl,h3,h4,h5⟩:=h.ex
 refine ⟨els++e,[],?_,by simp[h3],h4.app hm,?_⟩
 ·have hfl:(flatA els).length=n*sz:=by
   rw[← h3]
   exact flat_len (fun el hel=>(h5 el hel).1)
  have e1:flatA (els++e)=flatA els++flatA e:=by unfold flatA; rw[List.map_append,List.flatten_append]
  rw[List.append_nil,List.take_append,hfl,List.take_of_length_le (by omega),Nat.sub_self,List.take_zero,List.append_nil,e1]
 ·intro el hel
  rcases List.mem_append.1 hel with h | h
  ·exact h5 el h
  ·obtain ⟨i,hi⟩:=List.mem_iff_getElem?.1 h
   have hlt:=(List.getElem?_eq_some_iff.1 hi).1
   rw[hm.len] at hlt
   obtain ⟨b,h1,h2⟩:=hm.get (List.getElem?_eq_getElem hlt)
   rw[hi] at h1
   cases h1
   exact hs _ _ h2
theorem MS.bound2 (h:MS r ag sz l n cs):n*sz≤cs.length:=by
 obtain ⟨els,ex,rfl,h3,h4,h5⟩:=h.ex
 have hfl:(flatA els).length=n*sz:=by rw[← h3]; exact flat_len (fun el hel=>(h5 el hel).1)
 rw[List.length_append]; omega
end
end Ae
namespace Ae
open Go

section
variable {C:Cfg} {I:FI} {t:List Item} {tm:Nat→AV} {os:Nat→Bool} {ex:List Nat} {kp:Bool} {s s0:St} {L:List BX} {Q:Fr→Prop} {all:Array Oper} {l:List Oper} {o:Oper} {draw:Bool}

theorem AOps.alloc1 {d ty:Nat} {ti:TI} (hH:HS ex kp s0 s L) (hw:wantedA o all tm=some true) (ho:o.op=.alloc ty) (hT:C.ty ty=some ti) (hb:lookBk I.bk d=some 1) (hz:layable ti.zero=true) (hd:o.dst=some d)
  (k:∀ b s2,HS ex kp s0 s2 (⟨some b,ti.zero.cells,fun _=>false⟩::L)→AOps C I draw all l ⟨upd tm d (.ptr b 0),upd os d false,s2⟩ Q):AOps C I draw all (o::l) ⟨tm,os,s⟩ Q :=
 .op hw (by unfold callee?; rw[ho]) (f':=⟨upd tm d (.ptr s.n 0),upd os d false,s.push ti.zero.cells⟩) (by simp[opF,moveOp,cutM,cutV,Option.map_none,pureOp,makeOp,memOp,ho,hT,hd,hb,hz,Fr.put]) (k _ _ (hH.push _))

theorem AOps.box1 {d ty:Nat} {X:Operand} {v:AV} {ti:TI} (hH:HS ex kp s0 s L) (hw:wantedA o all tm=some true) (ho:o.op=.box ty X) (hT:C.ty ty=some ti) (hb:lookBk I.bk d=some 1) (hv:evalO tm X=v) (hz:layable v=true) (hn:v.cells.length=ti.size) (hd:o.dst=some d)
  (k:∀ b s2,HS ex kp s0 s2 (⟨some b,v.cells,fun _=>false⟩::L)→AOps C I draw all l ⟨upd tm d (.ptr b 0),upd os d false,s2⟩ Q):AOps C I draw all (o::l) ⟨tm,os,s⟩ Q :=
 .op hw (by unfold callee?; rw[ho]) (f':=⟨upd tm d (.ptr s.n 0),upd os d false,s.push v.cells⟩) (by simp[opF,moveOp,cutM,cutV,Option.map_none,pureOp,makeOp,memOp,ho,hT,hd,hb,hv,hz,hn,Fr.put]) (k _ _ (hH.push _))

theorem AOps.ldB {d ty i b off:Nat} {X:Operand} {ti:TI} {x:BX} {v:AV} (hH:HS ex kp s0 s L) (hi:L[i]?=some x) (hb:x.b=some b) (hw:wantedA o all tm=some true) (ho:o.op=.load ty X) (hT:C.ty ty=some ti) (hX:evalO tm X=.ptr b off) (hp:part ti x.cs off=some v)
  (hm:(I.mv.contains d&&!ti.isAgg&&!isFull v)=false) (hd:o.dst=some d) (k:AOps C I draw all l ⟨upd tm d v,upd os d false,s⟩ Q) (him:I.im.contains d=false:=by rfl):AOps C I draw all (o::l) ⟨tm,os,s⟩ Q:=by
 have hx:=(hH.bx x (List.mem_of_getElem? hi) b hb).2.2.1
 refine .op hw (by unfold callee?; rw[ho]) (f':=⟨upd tm d v,upd os d false,s⟩) ?_ k
 unfold opF
 simp only[moveOp,cutM,cutV,Option.map_none,pureOp,makeOp,ho]
 unfold memOp
 simp only[ho,hT,hX,imH_of (o:=o) (by rw[hd]; exact him) hx,hp,Option.bind_some,hd,Option.getD_some,hm]
 rfl

theorem AOps.ldMv {d ty i b off:Nat} {X:Operand} {ti:TI} {x:BX} {v:AV} (hH:HS ex kp s0 s L) (hi:L[i]?=some x) (hb:x.b=some b) (hw:wantedA o all tm=some true) (ho:o.op=.load ty X) (hT:C.ty ty=some ti) (hX:evalO tm X=.ptr b off) (hp:part ti x.cs off=some v)
  (hm:I.mv.contains d=true) (ha:ti.isAgg=false) (hd:o.dst=some d) (hA:isFull v=true∨x.ow off=true)
  (k:∀ o' ow' s2,(isFull v=true∨o'=true)→(∀ j,j≠off→ow' j=x.ow j)→HS ex kp s0 s2 (L.set i ⟨some b,x.cs,ow'⟩)→AOps C I draw all l ⟨upd tm d v,upd os d o',s2⟩ Q) (him:I.im.contains d=false:=by rfl):AOps C I draw all (o::l) ⟨tm,os,s⟩ Q:=by
 have hx:=hH.bx x (List.mem_of_getElem? hi) b hb
 cases hf:isFull v with
 | true =>
  refine .op hw (by unfold callee?; rw[ho]) (f':=⟨upd tm d v,upd os d false,s⟩) ?_ (k false x.ow s (.inl hf) (fun _ _=>rfl) ?_)
  ·unfold opF
   simp only[moveOp,cutM,cutV,Option.map_none,pureOp,makeOp,ho]
   unfold memOp
   simp only[ho,hT,hX,imH_of (o:=o) (by rw[hd]; exact him) hx.2.2.1,hp,Option.bind_some,hd,Option.getD_some,hf]
   simp[Fr.put]
  ·have:L.set i ⟨some b,x.cs,x.ow⟩=L:=by
    have:(⟨some b,x.cs,x.ow⟩:BX)=x:=by cases x; simp only at hb; subst hb; rfl
    rw[this]
    apply List.ext_getElem?
    intro j
    rw[List.getElem?_set]
    split
    ·rename_i e; subst e; rw[hi]; split
     ·rfl
     ·rename_i h; exact absurd (List.getElem?_eq_some_iff.1 hi).1 h
    ·rfl
   rw[this]; exact hH
 | false =>
  have hA':x.ow off=true:=by rcases hA with h | h; rw[hf] at h; cases h; exact h
  refine .op hw (by unfold callee?; rw[ho]) (f':=⟨upd tm d v,upd os d true,{ s with ow:=upd s.ow b (upd (s.ow b) off false) }⟩) ?_ (k true _ _ (.inr rfl) (fun j hj=>?_) (hH.take hi hb))
  ·unfold opF
   simp only[moveOp,cutM,cutV,Option.map_none,pureOp,makeOp,ho]
   unfold memOp
   simp only[ho,hT,hX,imH_of (o:=o) (by rw[hd]; exact him) hx.2.2.1,hp,Option.bind_some,hd,Option.getD_some,hf,hm,ha,hx.2.2.2,hA']
   simp[Fr.put]
  ·simp[upd,hj]

def stOw (os:Nat→Bool) (X:Operand) (v:AV) (off size:Nat) (ow:Nat→Bool):Nat→Bool:=fun i =>
 if off≤i∧i<off+size then (match X with | .tmp t=>decide (i=off)&&v.one&&os t | _=>false) else ow i
def own1 (os:Nat→Bool):Operand→Bool
 | .tmp t=>os t
 | _=>false

theorem HS.stX {ex:List Nat} {kp:Bool} {s0 s:St} {L:List BX} (h:HS ex kp s0 s L) {i b:Nat} {x:BX} (hi:L[i]?=some x) (hb:x.b=some b):s.ro≤b∧s.h b=some x.cs∧s.ow b=x.ow:=by
 have hx:=h.bx x (List.mem_of_getElem? hi) b hb
 refine ⟨?_,hx.2.2.1,hx.2.2.2⟩
 rw[h.ro]
 rcases hx.1 with h1 | h1
 ·exact Nat.le_trans h.wf h1
 ·exact (h.xl b h1).1
theorem HS.st {kp:Bool} {s0 s:St} {L:List BX} (h:HS [] kp s0 s L) {i b:Nat} {x:BX} (hi:L[i]?=some x) (hb:x.b=some b):s.ro≤b∧s.lo≤b∧s.h b=some x.cs∧s.ow b=x.ow:=by
 have hx:=h.bx x (List.mem_of_getElem? hi) b hb
 have h1:s0.n≤b:=by
  rcases hx.1 with h1 | h1
  ·exact h1
  ·cases h1
 exact ⟨by rw[h.ro]; exact Nat.le_trans h.wf h1,by
  rw[h.lo]
  have h2:=h.lol
  split<;>omega,hx.2.2.1,hx.2.2.2⟩

theorem AOps.stB {ty i b off:Nat} {p X:Operand} {ti:TI} {x:BX} {v:AV} (hH:HS [] kp s0 s L) (hi:L[i]?=some x) (hb:x.b=some b) (hw:wantedA o all tm=some true) (ho:o.op=.store ty p X) (hT:C.ty ty=some ti) (hX:evalO tm p=.ptr b off) (hv:evalO tm X=v)
  (hl:layable v=true) (hn:v.cells.length=ti.size) (h0:0<ti.size) (hlen:off+ti.size≤x.cs.length) (hd:o.dst=none)
  (k:∀ ow' s2,(∀ j,(j<off∨off+ti.size≤j)→ow' j=x.ow j)→(ow' off=(v.one&&own1 os X))→HS [] kp s0 s2 (L.set i ⟨some b,over x.cs off v.cells,ow'⟩)→AOps C I draw all l ⟨tm,clearO os X,s2⟩ Q) (him:stPd I p=false:=by rfl):AOps C I draw all (o::l) ⟨tm,os,s⟩ Q:=by
 obtain ⟨h1,h2,h3,h4⟩:=hH.st hi hb
 refine .op hw (by unfold callee?; rw[ho]) (f':=⟨tm,clearO os X,s.setBox b (over x.cs off v.cells) (stOw os X v off ti.size (s.ow b))⟩) ?_ (k _ _ (fun j hj=>?_) ?_ (hH.set hi hb _ _))
 ·unfold opF
  simp only[moveOp,cutM,cutV,Option.map_none,pureOp,makeOp,ho]
  unfold memOp
  simp only[ho,hT,hX,hv,hl,hn,h0,hd,imS_of him h3,Option.isNone_none,decide_true,Bool.and_self,if_true]
  rw[if_pos ⟨h1,hlen⟩,if_pos (.inl h2)]
  rfl
 ·unfold stOw
  rw[if_neg (by omega),h4]
 ·unfold stOw
  rw[if_pos ⟨Nat.le_refl _,by omega⟩]
  cases X<;>simp[own1]

theorem AOps.stX {ty i b off:Nat} {p X:Operand} {ti:TI} {x:BX} {v:AV} (hH:HS ex kp s0 s L) (hi:L[i]?=some x) (hb:x.b=some b) (hw:wantedA o all tm=some true) (ho:o.op=.store ty p X) (hT:C.ty ty=some ti) (hX:evalO tm p=.ptr b off) (hv:evalO tm X=v)
  (hl:layable v=true) (hn:v.cells.length=ti.size) (h0:0<ti.size) (hlen:off+ti.size≤x.cs.length) (hd:o.dst=none) (hp:v.pureB 0=true)
  (k:∀ ow' s2,(∀ j,(j<off∨off+ti.size≤j)→ow' j=x.ow j)→(ow' off=(v.one&&own1 os X))→HS ex kp s0 s2 (L.set i ⟨some b,over x.cs off v.cells,ow'⟩)→AOps C I draw all l ⟨tm,clearO os X,s2⟩ Q) (him:stPd I p=false:=by rfl):AOps C I draw all (o::l) ⟨tm,os,s⟩ Q:=by
 obtain ⟨h1,h3,h4⟩:=hH.stX hi hb
 refine .op hw (by unfold callee?; rw[ho]) (f':=⟨tm,clearO os X,s.setBox b (over x.cs off v.cells) (stOw os X v off ti.size (s.ow b))⟩) ?_ (k _ _ (fun j hj=>?_) ?_ (hH.set hi hb _ _))
 ·unfold opF
  simp only[moveOp,cutM,cutV,Option.map_none,pureOp,makeOp,ho]
  unfold memOp
  simp only[ho,hT,hX,hv,hl,hn,h0,hd,imS_of him h3,Option.isNone_none,decide_true,Bool.and_self,if_true]
  rw[if_pos ⟨h1,hlen⟩,if_pos (.inr hp)]
  rfl
 ·unfold stOw
  rw[if_neg (by omega),h4]
 ·unfold stOw
  rw[if_pos ⟨Nat.le_refl _,by omega⟩]
  cases X<;>simp[own1]


def mk {α:Type} (z:α) (n:Int):Option (List α):=if 0≤n∧n≤LIM then some (List.replicate n.toNat z) else none

theorem AOps.ldM {α:Type} {r:α→AV→Prop} {xs:List α} {x0:α} {ag:Bool} {sz n:Nat} {m:Int} {d ty i b off a:Nat} {X:Operand} {ti:TI} {x:BX} (hH:HS ex kp s0 s L) (hi:L[i]?=some x) (hb:x.b=some b) (hM:MS r ag sz xs n x.cs) (hx:ix xs m=some x0) (hw:wantedA o all tm=some true) (ho:o.op=.load ty X) (hT:C.ty ty=some ti)
  (hX:evalO tm X=.ptr b a) (hoff:a=0+m.toNat*sz+off) (h0:0<ti.size) (h1:off+ti.size≤sz) (hm:I.mv.contains d=false) (hd:o.dst=some d)
  (k:∀ c,r x0 c→Shp ag sz c→∀ v,part ti c.cells off=some v→AOps C I draw all l ⟨upd tm d v,upd os d false,s⟩ Q) (hv:∀ c,r x0 c→Shp ag sz c→∃ v,part ti c.cells off=some v) (him:I.im.contains d=false:=by rfl):AOps C I draw all (o::l) ⟨tm,os,s⟩ Q:=by
 obtain ⟨c,hr,hs,hp⟩:=part_ms hM hx ti
 obtain ⟨v,hv⟩:=hv c hr hs
 have hp:=hp off h0 h1
 rw[hv,← hoff] at hp
 exact .ldB hH hi hb hw ho hT hX hp (by rw[hm]; rfl) hd (k c hr hs v hv) him

theorem AOps.stM {α:Type} {r:α→AV→Prop} {xs:List α} {x0 y:α} {ag:Bool} {sz n:Nat} {m:Int} {ty i b:Nat} {p X:Operand} {ti:TI} {x:BX} {v:AV} (hH:HS [] kp s0 s L) (hi:L[i]?=some x) (hb:x.b=some b) (hM:MS r ag sz xs n x.cs) (hx:ix xs m=some x0) (hw:wantedA o all tm=some true) (ho:o.op=.store ty p X) (hT:C.ty ty=some ti)
  (hX:evalO tm p=.ptr b (0+m.toNat*sz)) (hv:evalO tm X=v) (hr:r y v) (hs:Shp ag sz v) (hl:layable v=true) (hn:v.cells.length=ti.size) (h0:0<ti.size) (hsz:ti.size=sz) (hd:o.dst=none)
  (k:∀ cs' ow' s2,MS r ag sz (xs.set m.toNat y) n cs'→HS [] kp s0 s2 (L.set i ⟨some b,cs',ow'⟩)→AOps C I draw all l ⟨tm,clearO os X,s2⟩ Q) (him:stPd I p=false:=by rfl):AOps C I draw all (o::l) ⟨tm,os,s⟩ Q :=
 .stB hH hi hb hw ho hT hX hv hl hn h0 (by have:=hM.bound hx; omega) hd (fun ow' s2 _ _ h=>k _ _ _ (hM.set hx hr hs) h) him

theorem own_keep {f:Bool} {ow ow':Nat→Bool} {j:Nat} (h:f=true∨ow j=true) (e:ow' j=ow j):f=true∨ow' j=true:=by rw[e]; exact h

theorem appM_run {C:Cfg} {f:Fr} {o:Oper} {ei:TI} {yt:Nat} {ag:Bool} {sz b n:Nat} {ys cs:List AV} {y:AV} (hy:appSrc C ei yt y=some ys) (hh:f.s.h b=some cs) (h1:sz=ei.size) (h2:ag=ei.isAgg) (h3:n*sz≤cs.length) (h4:f.s.ro≤b) (hei:0<ei.size∧ei.bytes≤256∧layable ei.zero=true∧ei.zero.cells.length=ei.size) (h5:n+ys.length≤LIM) :
  appM C f o ei yt (.ms ag sz b 0 n) y=some { (f.put o.dst (.ms ag sz f.s.n 0 (n+ys.length)) false) with s:=(f.s.kill b).push (cs.take (n*sz)++flatA ys) }:=by
 unfold appM
 simp only[hy,hh]
 rw[if_pos ⟨h1,h2,trivial,h3,h4,hei.1,hei.2.1,hei.2.2.1,hei.2.2.2,h5⟩]

theorem AOps.appB {α:Type} {r:α→AV→Prop} {xs ys zs:List α} {d i b n:Nat} {x y:Operand} {st yt et:Nat} {T ei:TI} {bx:BX} {z':Nat} {f':Bool} {e':List AV} (hH:HS ex kp s0 s L) (hi:L[i]?=some bx) (hb:bx.b=some b) (hM:MS r ei.isAgg ei.size xs n bx.cs) (hsh:Sh ei.isAgg ei.size r)
  (hw:wantedA o all tm=some true) (ho:o.op=.call { callee:=.builtin .append,args:=#[x,y],argTypes:=#[st,yt] }) (hT:C.ty st=some T) (hTu:T.u=.slice et) (hE:C.ty et=some ei) (hX:evalO tm x=.ms ei.isAgg ei.size b 0 n) (hY:evalO tm y=.sl z' f' e') (hs:appSrc C ei yt (.sl z' f' e')=some e') (hr:L2 r ys e')
  (hei:0<ei.size∧ei.bytes≤256∧layable ei.zero=true∧ei.zero.cells.length=ei.size) (hdy:I.dy.contains d=true) (hd:o.dst=some d) (hz:app xs ys=some zs)
  (k:∀ b' cs' s2,MS r ei.isAgg ei.size zs (n+e'.length) cs'→HS ex kp s0 s2 (L.set i ⟨some b',cs',fun _=>false⟩)→AOps C I draw all l ⟨upd tm d (.ms ei.isAgg ei.size b' 0 (n+e'.length)),upd os d false,s2⟩ Q):AOps C I draw all (o::l) ⟨tm,os,s⟩ Q:=by
 obtain ⟨rfl,hlen⟩:=app_some hz
 obtain ⟨h1,h3,h4⟩:=hH.stX hi hb
 obtain ⟨u,a,b0,zz⟩:=T
 simp only at hTu
 subst hTu
 refine .op hw (by unfold callee?; rw[ho]) (f':=⟨upd tm d (.ms ei.isAgg ei.size s.n 0 (n+e'.length)),upd os d false,(s.kill b).push (bx.cs.take (n*ei.size)++flatA e')⟩) ?_ (k _ _ _ (hM.app hr hsh) ?_)
 ·unfold opF
  simp only[moveOp,cutM,cutV,Option.map_none,pureOp,makeOp,ho]
  unfold memOp
  simp only[ho,hT,hE,hX,hY,show mayApp ⟨tm,os,s⟩ x (.ms ei.isAgg ei.size b 0 n)=none from rfl,hd,Option.any_some,hdy,if_true]
  rw[appM_run hs h3 rfl rfl hM.bound2 h1 hei (by rw[hM.len,hr.len]; exact hlen)]
  simp[Fr.put,hd]
 ·refine hH.re hi (s1:=s.kill b) rfl rfl rfl rfl (fun b'=>?_) _
  by_cases e:b'=b
  ·subst e; exact .inr hb
  ·exact .inl (by simp[St.kill,upd,e])

theorem AOps.appN {α:Type} {r:α→AV→Prop} {xs ys zs:List α} {d:Nat} {x y:Operand} {st yt et:Nat} {T ei:TI} {z z':Nat} {f':Bool} {e e':List AV} (hH:HS ex kp s0 s L) (hL:LR r ei.size xs z e) (hsh:Sh ei.isAgg ei.size r)
  (hw:wantedA o all tm=some true) (ho:o.op=.call { callee:=.builtin .append,args:=#[x,y],argTypes:=#[st,yt] }) (hT:C.ty st=some T) (hTu:T.u=.slice et) (hE:C.ty et=some ei) (hX:evalO tm x=.sl z true e) (hY:evalO tm y=.sl z' f' e') (hs:appSrc C ei yt (.sl z' f' e')=some e') (hr:L2 r ys e') (hne:e'.isEmpty=false)
  (hei:0<ei.size∧ei.bytes≤256∧layable ei.zero=true∧ei.zero.cells.length=ei.size) (hdy:I.dy.contains d=true) (hd:o.dst=some d) (hz:app xs ys=some zs)
  (k:∀ b' cs' s2,MS r ei.isAgg ei.size zs (e.length+e'.length) cs'→s2=s.push cs'→b'=s.n→AOps C I draw all l ⟨upd tm d (.ms ei.isAgg ei.size b' 0 (e.length+e'.length)),upd os d false,s2⟩ Q):AOps C I draw all (o::l) ⟨tm,os,s⟩ Q:=by
 obtain ⟨rfl,hlen⟩:=app_some hz
 obtain ⟨u,a,b0,zz⟩:=T
 simp only at hTu
 subst hTu
 refine .op hw (by unfold callee?; rw[ho]) (f':=⟨upd tm d (.ms ei.isAgg ei.size s.n 0 (e.length+e'.length)),upd os d false,s.push (flatA (e++e'))⟩) ?_ (k _ _ _ ?_ rfl rfl)
 ·unfold opF
  simp only[moveOp,cutM,cutV,Option.map_none,pureOp,makeOp,ho]
  unfold memOp
  simp only[ho,hT,hE,hX,hY,show mayApp ⟨tm,os,s⟩ x (.sl z true e)=some (z,e) from rfl,hs,hd,Option.any_some,hdy,if_true]
  rw[if_pos ⟨hL.z,hei⟩,if_pos (by rw[hL.el.len,hr.len]; exact hlen)]
  simp[isFull,Fr.put]
  intro he; rw[he] at hne; cases hne
 ·have:=MS.of (hL.el.app hr) hsh
  rwa [List.length_append] at this
end

def DY {α:Type} (r:α→AV→Prop) (ag:Bool) (sz:Nat) (l:List α) (v:AV) (x:BX):Prop :=
 (x.b=none∧l=[]∧∃ z,(z=sz∨z=0)∧v=.sl z true [])∨∃ b n,x.b=some b∧v=.ms ag sz b 0 n∧MS r ag sz l n x.cs

def Fin (s:St) (n k:Nat) (p:AV→Prop) (v:AV):Prop:=(v.canonB n=true→p v)∧∃ v',fin s n k v=some v'∧p v'
theorem Fin.of {s:St} {n k:Nat} {p:AV→Prop} {v:AV} (h:Nice k p) (hv:p v):Fin s n k p v:=⟨fun _=>hv,h.fin s n v hv⟩

theorem chunk_flat {sz:Nat} {ag:Bool} (hag:ag=false→sz=1):∀ {els:List AV},(∀ el∈els,Shp ag sz el)→∀ ex,chunk sz ag (flatA els++ex) els.length=els
 | [],_,ex=>rfl
 | a::els,h,ex=>by
  have hf:flatA (a::els)=a.cells++flatA els:=by simp[flatA]
  have ha:=h a (List.mem_cons_self ..)
  rw[List.length_cons,chunk,hf,List.append_assoc]
  have t1:(a.cells++(flatA els++ex)).drop sz=flatA els++ex:=by rw[← ha.1]; simp
  rw[t1,chunk_flat hag (fun el hel=>h el (List.mem_cons_of_mem _ hel)) ex]
  congr 1
  cases ag with
  | true =>
   obtain ⟨h1,h2⟩:=ha
   rw[if_pos rfl] at h2
   obtain ⟨c,rfl,_⟩:=h2
   simp only[if_true,AV.cells] at h1 ⊢
   rw[← h1]; simp
  | false =>
   obtain ⟨h1,h2⟩:=ha
   have h2:a.one=true:=by simpa using h2
   rw[AV.cells_one h2]
   rfl

theorem Fin.ms {α:Type} {r:α→AV→Prop} {ag:Bool} {sz n k:Nat} {l:List α} {kp:Bool} {s0 s:St} {L:List BX} {i b:Nat} {x:BX} (hH:HS [] kp s0 s L) (hi:L[i]?=some x) (hb:x.b=some b) (hM:MS r ag sz l n x.cs) (hr:∀ x,Nice k (r x)) (hag:ag=false→sz=1):Fin s s0.n (k+1) (rL r sz l) (.ms ag sz b 0 n):=by
 have hx:=hH.bx x (List.mem_of_getElem? hi) b hb
 have hx1:s0.n≤b:=by
  rcases hx.1 with h | h
  ·exact h
  ·cases h
 have hc:(AV.ms ag sz b 0 n).canonB s0.n=false:=by simp[AV.canonB]; omega
 refine ⟨fun h=>(by rw[hc] at h; cases h),?_⟩
 obtain ⟨els,ex,h1,h2,h3,h4⟩:=hM.ex
 obtain ⟨e',h5,h6⟩:=finL hr s s0.n h3
 refine ⟨.sl sz false e',?_,sz,false,e',rfl,.inl rfl,h6⟩
 unfold fin
 rw[hc]
 simp only[hx.2.2.1]
 have hlen:(flatA els).length=n*sz:=by rw[← h2]; exact flat_len (fun el hel=>(h4 el hel).1)
 rw[if_neg (by simp),if_pos ⟨by rw[h1,List.length_append]; omega,by cases ag; exact .inr (hag rfl); exact .inl rfl⟩,List.drop_zero,h1,← h2,chunk_flat hag h4 ex,h5]
 rfl

theorem Fin.dy {α:Type} {r:α→AV→Prop} {ag:Bool} {sz k:Nat} {l:List α} {kp:Bool} {s0 s:St} {L:List BX} {i:Nat} {x:BX} {v:AV} (hH:HS [] kp s0 s L) (hi:L[i]?=some x) (hD:DY r ag sz l v x) (hr:∀ x,Nice k (r x)) (hag:ag=false→sz=1):Fin s s0.n (k+1) (rL r sz l) v:=by
 rcases hD with ⟨_,rfl,z,hz,rfl⟩ | ⟨b,n,hb,rfl,hM⟩
 ·refine .of (Nice.L hr) ⟨z,true,[],rfl,?_,.nil⟩
  rcases hz with hz | hz
  ·exact .inl hz
  ·exact .inr ⟨hz,rfl⟩
 ·exact .ms hH hi hb hM hr hag

inductive AllF (s:St) (n k:Nat):List (AV→Prop)→List AV→Prop
 | nil:AllF s n k [] []
 | cons {p ps c cs} (h:Fin s n k p c) (t:AllF s n k ps cs):AllF s n k (p::ps) (c::cs)

theorem AllF.fin {s:St} {n k:Nat}:∀ {ps:List (AV→Prop)} {cs:List AV},AllF s n k ps cs→(AV.canonL n cs=true→Cs ps cs)∧∃ cs',cs.mapM (fin s n k)=some cs'∧Cs ps cs'
 | _,_,.nil=>⟨fun _=>.nil,[],rfl,.nil⟩
 | _,_,.cons h t=>by
  obtain ⟨h1,v',h2,h3⟩:=h
  obtain ⟨t1,cs',t2,t3⟩:=t.fin
  refine ⟨fun hc=>?_,v'::cs',by simp[List.mapM_cons,h2,t2],.cons h3 t3⟩
  simp only[AV.canonL,Bool.and_eq_true] at hc
  exact .cons (h1 hc.1) (t1 hc.2)

theorem Fin.A {s:St} {n k:Nat} {ps:List (AV→Prop)} {cs:List AV} (h:AllF s n k ps cs):Fin s n (k+1) (rA ps) (.agg cs):=by
 obtain ⟨h1,cs',h2,h3⟩:=h.fin
 refine ⟨fun hc=>⟨cs,rfl,h1 (by simpa[AV.canonB] using hc)⟩,?_⟩
 unfold Ae.fin
 split
 ·rename_i hc
  exact ⟨_,rfl,cs,rfl,h1 (by simpa[AV.canonB] using hc)⟩
 ·exact ⟨.agg cs',by simp[h2],cs',rfl,h3⟩
theorem Fin.T {s:St} {n k:Nat} {ps:List (AV→Prop)} {cs:List AV} (h:AllF s n k ps cs):Fin s n (k+1) (rT ps) (.tup cs):=by
 obtain ⟨h1,cs',h2,h3⟩:=h.fin
 refine ⟨fun hc=>⟨cs,rfl,h1 (by simpa[AV.canonB] using hc)⟩,?_⟩
 unfold Ae.fin
 split
 ·rename_i hc
  exact ⟨_,rfl,cs,rfl,h1 (by simpa[AV.canonB] using hc)⟩
 ·exact ⟨.tup cs',by simp[h2],cs',rfl,h3⟩
end Ae
namespace Ae
open Go

def noBX:BX:=⟨none,[],fun _=>false⟩
def pickB (L:List BX):Option Nat→BX
 | some i=>L.getD i noBX
 | none=>noBX

theorem HS.sel {ex:List Nat} {kp:Bool} {s0 s:St} {L:List BX} (h:HS ex kp s0 s L) (ps:List (Option Nat)) (hd:(ps.filterMap id).Nodup):HS ex kp s0 s (ps.map (pickB L)) where
 n:=h.n
 ro:=h.ro
 lo:=h.lo
 lol:=h.lol
 wf:=h.wf
 xl:=h.xl
 old:=h.old
 bx:=fun x hx b hb=>by
  obtain ⟨p,_,rfl⟩:=List.mem_map.1 hx
  cases p with
  | none=>cases hb
  | some i =>
   simp only[pickB,List.getD_eq_getElem?_getD] at hb ⊢
   cases hi:L[i]? with
   | none=>rw[hi] at hb; cases hb
   | some y =>
    rw[hi] at hb
    exact h.bx y (List.mem_of_getElem? hi) b hb
 nd:=by
  induction ps with
  | nil=>exact List.nodup_nil
  | cons p ps ih =>
   cases p with
   | none=>simpa[pickB,noBX] using ih (by simpa using hd)
   | some i =>
    simp only[List.filterMap_cons,id,List.nodup_cons] at hd
    have ih':=ih hd.2
    cases hi:L[i]? with
    | none =>
     have:(pickB L (some i)).b=none:=by simp[pickB,List.getD_eq_getElem?_getD,hi,noBX]
     simpa[List.filterMap_cons,this] using ih'
    | some y =>
     have e:pickB L (some i)=y:=by simp[pickB,List.getD_eq_getElem?_getD,hi]
     rw[List.map_cons,e]
     cases hb:y.b with
     | none=>simpa[List.filterMap_cons,hb] using ih'
     | some b =>
      simp only[List.filterMap_cons,hb,List.nodup_cons]
      refine ⟨fun hm=>?_,ih'⟩
      obtain ⟨z,hz,hzb⟩:=List.mem_filterMap.1 hm
      obtain ⟨q,hq,rfl⟩:=List.mem_map.1 hz
      cases q with
      | none=>cases hzb
      | some j =>
       cases hj:L[j]? with
       | none=>simp[pickB,List.getD_eq_getElem?_getD,hj,noBX] at hzb
       | some w =>
        have e2:pickB L (some j)=w:=by simp[pickB,List.getD_eq_getElem?_getD,hj]
        rw[e2] at hzb
        have:=nodup_inj h.nd hi hj hb hzb
        subst this
        exact hd.1 (List.mem_filterMap.2 ⟨some i,hq,rfl⟩)

section
variable {α:Type} {r:α→AV→Prop} {ag:Bool} {sz n b:Nat} {l m:List α} {v:AV} {x:BX}
theorem DY.nil:DY r ag sz ([]:List α) (.sl 0 true []) noBX:=.inl ⟨rfl,rfl,0,.inr rfl,rfl⟩
theorem DY.nil':DY r ag sz ([]:List α) (.sl sz true []) noBX:=.inl ⟨rfl,rfl,sz,.inl rfl,rfl⟩
theorem DY.ms (hb:x.b=some b) (h:MS r ag sz l n x.cs):DY r ag sz l (.ms ag sz b 0 n) x:=.inr ⟨b,n,hb,rfl,h⟩
theorem DY.has (h:DY r ag sz l v x) {i:Int} {y:α} (hy:ix l i=some y):∃ b n,x.b=some b∧v=.ms ag sz b 0 n∧MS r ag sz l n x.cs:=by
 rcases h with ⟨_,rfl,_⟩ | h
 ·simp[ix] at hy
 ·exact h
theorem DY.one (h:DY r ag sz l v x):v.one=true:=by
 rcases h with ⟨_,_,z,_,rfl⟩ | ⟨b,n,_,rfl,_⟩<;>rfl
theorem DY.len {C:Cfg} {o:Oper} {tm:Nat→AV} {X:Operand} {ty et a c:Nat} {zz:AV} (h:DY r ag sz l v x) (ho:o.op=.call { callee:=.builtin .len,args:=#[X],argTypes:=#[ty] }) (hT:C.ty ty=some ⟨.slice et,a,c,zz⟩) (hX:evalO tm X=v):pureOp C o tm=some (.int .i64 (l.length:Nat)):=by
 unfold pureOp
 rcases h with ⟨_,rfl,z,_,rfl⟩ | ⟨b,n,_,rfl,hM⟩
 ·simp[ho,hT,hX]
 ·simp[ho,hT,hX,hM.len]
end

section
variable {C:Cfg} {I:FI} {t:List Item} {tm:Nat→AV} {os:Nat→Bool} {ex:List Nat} {kp:Bool} {s s0:St} {L:List BX} {Q:Fr→Prop} {all:Array Oper} {l:List Oper} {o:Oper} {draw:Bool}
theorem AOps.appD {α:Type} {r:α→AV→Prop} {xs ys zs:List α} {d i:Nat} {x y:Operand} {st yt et:Nat} {T ei:TI} {bx:BX} {v:AV} {z':Nat} {f':Bool} {e':List AV} (hH:HS ex kp s0 s L) (hi:L[i]?=some bx) (hD:DY r ei.isAgg ei.size xs v bx) (hsh:Sh ei.isAgg ei.size r)
  (hw:wantedA o all tm=some true) (ho:o.op=.call { callee:=.builtin .append,args:=#[x,y],argTypes:=#[st,yt] }) (hT:C.ty st=some T) (hTu:T.u=.slice et) (hE:C.ty et=some ei) (hX:evalO tm x=v) (hY:evalO tm y=.sl z' f' e') (hs:appSrc C ei yt (.sl z' f' e')=some e') (hr:L2 r ys e') (hne:e'.isEmpty=false)
  (hei:0<ei.size∧ei.bytes≤256∧layable ei.zero=true∧ei.zero.cells.length=ei.size) (hdy:I.dy.contains d=true) (hd:o.dst=some d) (hz:app xs ys=some zs)
  (k:∀ b' n' cs' s2,MS r ei.isAgg ei.size zs n' cs'→HS ex kp s0 s2 (L.set i ⟨some b',cs',fun _=>false⟩)→AOps C I draw all l ⟨upd tm d (.ms ei.isAgg ei.size b' 0 n'),upd os d false,s2⟩ Q):AOps C I draw all (o::l) ⟨tm,os,s⟩ Q:=by
 rcases hD with ⟨hb,rfl,z,hz0,rfl⟩ | ⟨b,n,hb,rfl,hM⟩
 ·refine .appN (z:=z) (e:=[]) hH ⟨?_,.nil⟩ hsh hw ho hT hTu hE hX hY hs hr hne hei hdy hd hz (fun b' cs' s2 h1 h2 h3=>?_)
  ·rcases hz0 with h | h
   ·exact .inl h
   ·exact .inr ⟨h,rfl⟩
  ·subst h2 h3
   exact k _ _ _ _ h1 (hH.re hi rfl rfl rfl rfl (fun _=>.inl rfl) _)
 ·exact .appB hH hi hb hM hsh hw ho hT hTu hE hX hY hs hr hei hdy hd hz (fun b' cs' s2 h1 h2=>k _ _ _ _ h1 h2)
end
end Ae
namespace Ae
open Go
section
variable {C:Cfg} {I:FI} {t:List Item} {tm:Nat→AV} {os:Nat→Bool} {ex:List Nat} {kp:Bool} {s s0:St} {L:List BX} {Q:Fr→Prop} {all:Array Oper} {l:List Oper} {o:Oper} {draw:Bool}
theorem len_ms {α:Type} {r:α→AV→Prop} {ag:Bool} {sz n:Nat} {l:List α} {cs:List AV} (h:MS r ag sz l n cs):AV.int .i64 (n:Nat)=.int .i64 (l.length:Nat):=by rw[h.len]
theorem own_st {f o:Bool} {os:Nat→Bool} {X:Operand} {t j:Nat} {w:Nat→Bool} {v:AV} (h:f=true∨o=true) (hw:w j=(v.one&&own1 os X)) (hv:v.one=true) (hX:X=.tmp t) (ho:os t=o):f=true∨w j=true:=by
 rcases h with h | h
 ·exact .inl h
 ·refine .inr ?_
  rw[hw,hv,hX]
  simp[own1,ho,h]
theorem AOps.appB' {α:Type} {r:α→AV→Prop} {xs ys zs:List α} {d i b n:Nat} {x y:Operand} {st yt et:Nat} {T ei:TI} {bx:BX} {z':Nat} {f':Bool} {e':List AV} (hH:HS ex kp s0 s L) (hi:L[i]?=some bx) (hb:bx.b=some b) (hM:MS r ei.isAgg ei.size xs n bx.cs) (hsh:Sh ei.isAgg ei.size r)
  (hw:wantedA o all tm=some true) (ho:o.op=.call { callee:=.builtin .append,args:=#[x,y],argTypes:=#[st,yt] }) (hT:C.ty st=some T) (hTu:T.u=.slice et) (hE:C.ty et=some ei) (hX:evalO tm x=.ms ei.isAgg ei.size b 0 n) (hY:evalO tm y=.sl z' f' e') (hs:appSrc C ei yt (.sl z' f' e')=some e') (hr:L2 r ys e')
  (hei:0<ei.size∧ei.bytes≤256∧layable ei.zero=true∧ei.zero.cells.length=ei.size) (hdy:I.dy.contains d=true) (hd:o.dst=some d) (hz:app xs ys=some zs)
  (k:∀ b' n' cs' s2,MS r ei.isAgg ei.size zs n' cs'→HS ex kp s0 s2 (L.set i ⟨some b',cs',fun _=>false⟩)→AOps C I draw all l ⟨upd tm d (.ms ei.isAgg ei.size b' 0 n'),upd os d false,s2⟩ Q):AOps C I draw all (o::l) ⟨tm,os,s⟩ Q :=
 .appB hH hi hb hM hsh hw ho hT hTu hE hX hY hs hr hei hdy hd hz (fun b' cs' s2 h1 h2=>k _ _ _ _ h1 h2)
end
end Ae
namespace Ae
open Go
theorem lt_b {a b:Nat} (h:Nat.blt a b=true):a<b:=Nat.le_of_ble_eq_true h
theorem le_b {a b:Nat} (h:Nat.ble a b=true):a≤b:=Nat.le_of_ble_eq_true h
end Ae
namespace Ae
open Go
theorem resA_dy {α:Type} {C:Cfg} {I:FI} {f:Fr} {t i k:Nat} {r:α→AV→Prop} {ag:Bool} {sz:Nat} {l:List α} {v:AV} {x:BX} {kp:Bool} {s0:St} {L:List BX} (hres:I.res=[.tmp t]) (ht:f.tm t=v) (hH:HS [] kp s0 f.s L) (hi:L[i]?=some x) (hD:DY r ag sz l v x) (hr:∀ x,Nice k (r x)) (hag:ag=false→sz=1) (hk:I.keep=false:=by rfl) :
  ∃ v o,resA C I f=some (v,o)∧∃ v',fin f.s s0.n (k+1) v=some v'∧rL r sz l v':=by
 unfold resA
 rw[hres]
 rcases hD with ⟨hb,rfl,z,hz,rfl⟩ | ⟨b,n,hb,rfl,hM⟩
 ·refine ⟨.sl z false [],f.os t||true,by simp[resOne,ht,hk],?_⟩
  exact (Fin.of (Nice.L hr) ⟨z,false,[],rfl,by rcases hz with h | h; exact .inl h; exact .inr ⟨h,rfl⟩,.nil⟩).2
 ·exact ⟨.ms ag sz b 0 n,false,by simp[resOne,ht,hk],(Fin.ms hH hi hb hM hr hag).2⟩
end Ae
namespace Ae
open Go
theorem HS.fr {ex:List Nat} {kp:Bool} {s0 s:St} {L:List BX} (h:HS ex kp s0 s L) {i:Nat} {x:BX} (hi:L[i]?=some x):∀ b,x.b=some b→s.h b=some x.cs:=fun b hb=>(h.bx x (List.mem_of_getElem? hi) b hb).2.2.1
section
variable {C:Cfg} {I:FI} {tm:Nat→AV} {os:Nat→Bool} {s:St} {Q:Fr→Prop} {all:Array Oper} {l:List Oper} {o:Oper} {draw:Bool}
end
end Ae
namespace Ae
theorem lay_cons {a:AV} {cs:List AV} (h:a.one=true) (k:layable (.agg cs)=true):layable (.agg (a::cs))=true:=by
 simp only[layable,List.all_cons,Bool.and_eq_true] at k ⊢
 exact ⟨h,k⟩
theorem lay_nil:layable (.agg [])=true:=rfl
end Ae
namespace Ae
open Go

theorem Ret.pure {E:Env} {s:St} (hc:Core E s) (hlo:s.lo≤s.n) {v:AV} {y:Value} (hv:V E v y):Ret E s v false s y E.w:=by
 refine ⟨E,rfl,?_⟩
 have h:=Inv.enter hc hlo (args:=[v]) (vs:=#[y]) (nt:=1) ⟨rfl,fun i c x hc hx=>by
  cases i with
  | zero=>simp at hc hx; subst hc hx; exact hv
  | succ i=>simp at hc⟩
 have ea:(⟨#[y]++Array.replicate (1 - #[y].size) undef,[]⟩:Act)=⟨#[y],[]⟩:=by simp
 rw[ea] at h
 have eos:∀ t,(retFr v false s).os t=false:=fun t=>by simp[retFr]
 exact { h with
   v:=fun t=>by
     cases t with
     | zero=>exact hv
     | succ t=>exact .undef _
   held:=fun t ht=>by rw[eos] at ht; cases ht
   dt:=fun t t' g h1 _=>by have:=h1.1; rw[eos] at this; cases this
   dc:=fun t b i g h1 _=>by have:=h1.1; rw[eos] at this; cases this
   oT:=fun t g h1=>by have:=h1.1; rw[eos] at this; cases this }

def ixByte (s:List UInt8) (c:Int):Int:=Lib.indexByte s c.toNat.toUInt8
def φByte:List AV→Option (AV × Bool)
 | [.str s,.int .u8 c]=>some (.int .i64 (ixByte s c),false)
 | _=>none

theorem φByte_ok {P : Program} {g : Nat} {fn : Func} (hf : P.funcs[g]? = some fn) (hname : (fn.name == "runtime.NumGoroutine") = false) (hb : fn.body.isNone = true) (hn : Extern.findNext fn = none) (he : Extern.find fn = some Extern.BytealgIndexByte.indexByte) :
  ∀ args v ow,φByte args=some (v,ow)→∀ (E:Env) (s:St) (vs:Array Value),Core E s→s.lo≤s.n→VA E args vs→Reach P g vs E.w (Ret E s v ow s):=by
 intro args v ow h E s vs hc hlo hva
 unfold φByte at h
 split at h
 ·rename_i b c
  cases h
  obtain ⟨hl,hv⟩:=hva
  obtain ⟨x,y,rfl⟩:∃ x y,vs=#[x,y]:=by
   obtain ⟨l⟩:=vs
   match l,hl with
   | [x,y],_=>exact ⟨x,y,rfl⟩
  have h0:=hv 0 _ _ rfl rfl
  have h1:=hv 1 _ _ rfl rfl
  simp at h0 h1
  cases h1
  generalize hbb:(AV.str b)=bb at h0
  cases h0<;>cases hbb
  refine .inr ⟨.int .i64 _,E.w,?_,Ret.pure hc hlo (.int _ _)⟩
  rw[run_callFunc_extern hf hname hb hn he,Lib.run_indexByteString]
  rfl
 ·cases h
end Ae
namespace Ae
open Go Go.RowKit

end Ae
namespace Ae
def ixByteM (s:List UInt8) (c:Int):Option Int:=some (ixByte s c)
end Ae
namespace Ae
open Go

theorem orT {f o:Bool} (h:f=true∨o=true):(o||f)=true:=by rcases h with rfl | rfl<;>simp

section
variable {C:Cfg} {I:FI} {tm:Nat→AV} {os:Nat→Bool} {s:St} {Q:Fr→Prop} {all:Array Oper} {l:List Oper} {o:Oper}

theorem AOps.callDPO {d g:Nat} {args:List AV} {p:AV→Prop} (hw:wantedA o all tm=some true) (hc:callee? o tm=some (g,args)) (hd:o.dst=some d) (h:ACall C g args s.still fun v w s'=>(p v∧s'=s.still)∧w=true) (hn:∀ v,p v→v.pureB s.n=true)
  (k:∀ v,p v→AOps C I true all l ⟨upd tm d v,upd os d true,s⟩ Q) (ha:alias I o=false:=by rfl) (he:eff I o=false:=by rfl):AOps C I true all (o::l) ⟨tm,os,s⟩ Q :=
 .callDR hw hc hd (h.mono fun v ow s' h=>⟨hn v h.1.1,by obtain ⟨⟨h1,_⟩,rfl⟩:=h; exact k v h1⟩) ha he

theorem ACallN.pureO {g:Nat} {args:List AV} {J:FI} {p:AV→Prop} (h0:C.ext g=none) (h1:C.fn g=some J) (h2:J.keep=false) (hn:Nice FINK p)
  (k:AW C J [.code J.body] ⟨enterTm args,fun _=>false,{ s with lo:=s.n }⟩ fun f1=>f1.s={ s with lo:=s.n }∧∃ v o,resA C J f1=some (v,o)∧p v∧o=true):ACallN C g args s fun v o s'=>(p v∧s'=s)∧o=true:=by
 refine .enter h0 h1 h2 ?_
 obtain ⟨n,r,hr,hs,v,o,hres,hp,ho⟩:=k
 obtain ⟨v',h3,h4⟩:=hn.fin r.s s.n v hp
 exact ⟨n,r,hr,v,o,v',hres,h3,⟨h4,by rw[hs]; exact s.back_lo⟩,ho⟩
theorem ACall.pureO {g:Nat} {args:List AV} {J:FI} {p:AV→Prop} (h0:C.ext g=none) (h1:C.fn g=some J) (h2:J.keep=false) (hn:Nice FINK p)
  (k:AW C J [.code J.body] ⟨enterTm args,fun _=>false,{ s with lo:=s.n }⟩ fun f1=>f1.s={ s with lo:=s.n }∧∃ v o,resA C J f1=some (v,o)∧p v∧o=true)
  (h3:J.rd=0:=by rfl):ACall C g args s fun v o s'=>(p v∧s'=s)∧o=true:=(ACallN.pureO h0 h1 h2 hn k).toCall h0 h1 h3
end
end Ae
namespace Ae
open Go Go.RowKit

theorem Ret.owned {E:Env} {s:St} (hc:Core E s) (hlo:s.lo≤s.n) {els:List AV} {vals:Nat→Value} {w':World} {te:TypeId} {g cap:Nat} {cur:Array Value} (hb:Below E.w.heap.size E.w w')
  (hg:E.w.heap.size≤g) (hcur:w'.heap[g]?=some (.cells cur te (0,0))) (hcap:els.length≤cap) (hsz:cur.size=cap)
  (hone:∀ el∈els,el.one=true) (hcell:∀ (i:Nat) el,els[i]?=some el→cur[i]?=some (vals i)∧V E el (vals i)) :
  Ret E s (.sl 1 false els) true s (.slice (some ⟨g,0,none⟩) els.length cap) w':=by
 have hh:∀ g,g<E.w.heap.size→w'.heap[g]?=E.w.heap[g]?:=fun g hg=>hb.block g hg
 let E':Env:={ E with w:=w',pr:=fun k=>if k=g then els.length else E.pr k }
 have epr:∀ k,k<E.w.heap.size→E'.pr k=E.pr k:=fun k hk=>by
  show (if k=g then _ else _)=_
  rw[if_neg (by omega)]
 have hle:E.le E':=⟨Nat.le_refl _,fun _ _=>rfl,fun k=>by
   show E.pr k≤if k=g then _ else _
   split
   ·rename_i h; rw[h,hc.new g hg]; exact Nat.zero_le _
   ·exact Nat.le_refl _,fun k o ho=>by
   have hk:k<E.w.heap.size:=by
    rcases Nat.lt_or_ge k E.w.heap.size with h | h
    ·exact h
    ·rw[hc.new k h] at ho; cases ho
   exact cell_heap (hh k hk),fun _ _=>rfl⟩
 have hgw:g<w'.heap.size:=(Array.getElem?_eq_some_iff.1 hcur).1
 obtain ⟨hc',hsp⟩:=hc.step (E':=E') hle rfl (fun _ _=>rfl) hb.size (fun k hk=>by
  show (if k=g then _ else _)=0
  rw[if_neg (by have:w'.heap.size≤k:=hk; omega)]
  exact hc.new k (Nat.le_trans hb.size hk)) (fun b hb'=>⟨hh _ (hc.blt b hb'),epr _ (hc.blt b hb')⟩) (fun b i k hs=>⟨hh k (hc.lt hs),epr k (hc.lt hs)⟩)
 have eos:∀ t,(retFr (.sl 1 false els) true s).os t=true→t=0:=fun t h=>by
  simp[retFr] at h; exact h
 have hsp0:∀ k,spare (AV.sl 1 false els) (.slice (some ⟨g,0,none⟩) els.length cap)=some k→k=g∧els.length<cap:=by
  intro k hk
  unfold spare at hk
  simp at hk
  exact ⟨hk.2.symm,hk.1⟩
 have hV:V E' (.sl 1 false els) (.slice (some ⟨g,0,none⟩) els.length cap):=by
  refine .sl 1 false els g 0 cap (fun i _=>vals i) hcap (fun h=>by cases h) (fun i el h=>by rw[AV.cells_one (hone _ (List.mem_of_getElem? h))]; rfl) (fun i el j c h k=>?_) (fun i el j c h k=>?_) (fun i el j c h k=>?_) (fun i el j c h k=>?_)
  all_goals
   have h1:=hone _ (List.mem_of_getElem? h)
   rw[AV.cells_one h1] at k
   obtain ⟨rfl,rfl⟩:j=0∧c=el:=by
    cases j with
    | zero=>simp at k; exact ⟨rfl,k.symm⟩
    | succ j=>simp at k
   have hlt:=(List.getElem?_eq_some_iff.1 h).1
  ·exact h1
  ·show 0+i*1+0<if g=g then _ else _
   rw[if_pos rfl]; omega
  ·show w'.cell? _=_
   unfold World.cell?
   simp only[hcur,Nat.zero_add,Nat.mul_one,Nat.add_zero]
   simpa using (hcell i c h).1
  ·exact (hcell i c h).2.le hle
 refine ⟨E',rfl,?_⟩
 exact {
   core:=hc',le:=hle,os:=hb.os,tape:=hb.tape,out:=hb.output,size:=hb.size
   fr:=fun k hk _=>⟨hh k hk,epr k hk⟩
   bx:=fun b h1 h2=>by have h2':b<s.n:=h2; omega
   v:=fun t=>by
     cases t with
     | zero=>exact hV
     | succ t=>exact .undef _
   held:=fun t ht=>by
     obtain rfl:=eos t ht
     intro k hk
     obtain ⟨rfl,hlt⟩:=hsp0 k hk
     refine .sl 1 false els k 0 els.length cap cur te rfl (by decide) hlt hcur (by omega) ?_ fun b hb'=>?_
     · show (if k=k then _ else _)≤_
       rw[if_pos rfl]; omega
     · have:=hc.blt b (by rw[← hc.n]; exact hb')
       show E.μ b≠k
       omega
   dt:=fun t t' k h1 h2=>(eos t h1.1).trans (eos t' h2.1).symm
   dc:=fun t b i k h1 h2=>by
     have ht:=eos t h1.1
     subst ht
     obtain ⟨rfl,_⟩:=hsp0 k h1.2
     have:=hc.lt ((hsp b i k).1 h2)
     omega
   oT:=fun t k h1=>by
     have ht:=eos t h1.1
     subst ht
     obtain ⟨rfl,_⟩:=hsp0 k h1.2
     exact .inl hg
   oC:=fun b i g hs=>.inr ⟨b,i,(hsp b i g).1 hs⟩
   ro:=rfl,lo:=rfl,n:=Nat.le_refl _,n0:=hc.n,lon:=hlo
   pb:=fun k _ h=>h
   nt:=by simp }

theorem Ret.noroom {E:Env} {s:St} (hc:Core E s) (hlo:s.lo≤s.n) {v:AV} {y:Value} (hv:V E v y) (hs:spare v y=none):Ret E s v true s y E.w:=by
 obtain ⟨E',e,h⟩:=Ret.pure hc hlo hv
 refine ⟨E',e,?_⟩
 have eos:∀ t,(retFr v true s).os t=true→t=0:=fun t h=>by simp[retFr] at h; exact h
 have no:∀ t g,TmpSp (retFr v true s) ⟨#[y],[]⟩ t g→False:=fun t g h=>by
  have ht:=eos t h.1
  subst ht
  have h2:spare v y=some g:=h.2
  rw[hs] at h2; cases h2
 exact { h with
   v:=h.v
   held:=fun t ht g hg=>by
     have ht':=eos t ht
     subst ht'
     have h2:spare v y=some g:=hg
     rw[hs] at h2; cases h2
   dt:=fun t t' g h1 _=>(no t g h1).elim
   dc:=fun t b i g h1 _=>no t g h1
   oT:=fun t g h1=>(no t g h1).elim }

def ints:List AV→Option (List Int)
 | []=>some []
 | .int .i64 n::l=>(ints l).map (n::·)
 | _=>none
theorem ints_get:∀ {els:List AV} {l:List Int},ints els=some l→els=l.map (AV.int .i64)
 | [],l,h=>by cases h; rfl
 | a::els,l,h=>by
  unfold ints at h
  split at h
  ·rename_i he; cases he
  ·rename_i n l' he
   cases he
   simp only[Option.map_eq_some_iff] at h
   obtain ⟨l',h1,rfl⟩:=h
   rw[ints_get h1]; rfl
  ·cases h
theorem ints_rL {l:List Int} {e:List AV} (h:L2 (rI .i64) l e):ints e=some l:=by
 induction h with
 | nil=>rfl
 | cons h k ih=>cases h; simp[ints,ih]

def cloneI (l:List Int):Option (List Int):=if l.length≤17592186044416 then some l else none
def φClone:List AV→Option (AV × Bool)
 | [.sl z _ els]=>(ints els).bind fun l=>if z=1∨els=[] then (cloneI l).map fun _=>(.sl 1 false els,true) else none
 | _=>none

theorem φClone_run {l:List Int} {z:Nat} {f:Bool} {e:List AV} (h:LR (rI .i64) 1 l z e) {r:List Int} (hr:cloneI l=some r):φClone [.sl z f e]=some (.sl 1 false e,true)∧r=l:=by
 have h1:=ints_rL h.el
 have h2:z=1∨e=[]:=h.z.imp id fun h=>h.2
 refine ⟨?_,?_⟩
 ·unfold φClone
  simp only[h1,Option.bind_some,if_pos h2,hr,Option.map_some]
 ·unfold cloneI at hr
  split at hr<;>cases hr
  rfl

theorem φClone_ok {P : Program} {g : Nat} {fn : Func} {te : TypeId} (hf : P.funcs[g]? = some fn) (hname : (fn.name == "runtime.NumGoroutine") = false) (hb : fn.body.isSome = true)
  (hN:∀ (n c:Nat) (w:World),Calls P g #[.slice none n c] w fun e w'=>e=.returned (.slice none 0 0)∧w'=w)
  (hZ:∀ (a:Addr) (c:Nat) (w:World),Calls P g #[.slice (some a) 0 c] w fun e w'=>∃ v',e=.returned v'∧w'.ownsRow w.heap.size te 1 v' 0 []∧v'≠.slice none 0 0∧Below w.heap.size w w')
  (hI:∀ (b off n c:Nat) (zs:List Int) (w:World),n≤zs.length→n*8≤140737488355328→(∀ j,j<zs.length→w.cell? ⟨b,off+j,none⟩=some (.int .i64 (zs.getD j 0))) →
   Calls P g #[.slice (some ⟨b,off,none⟩) n c] w fun e w'=>∃ v',e=.returned v'∧w'.ownsRow w.heap.size te 1 v' n ((zs.take n).map (Value.int .i64))∧v'≠.slice none 0 0∧Below w.heap.size w w') :
  ∀ args v ow,φClone args=some (v,ow)→∀ (E:Env) (s:St) (vs:Array Value),Core E s→s.lo≤s.n→VA E args vs→Reach P g vs E.w (Ret E s v ow s):=by
 have hent:∀ vs w,(callFunc g vs).run P w=.ok (.enter g vs) w:=by
  intro vs w
  have h1 : fn.name ≠ "runtime.NumGoroutine" := by simpa using hname
  obtain ⟨bd,hbd⟩:=Option.isSome_iff_exists.1 hb
  simp[callFunc,hf,h1,hbd]
 intro args v ow h E s vs hc hlo hva
 unfold φClone at h
 split at h
 case h_2=>cases h
 rename_i z f els
 simp only[Option.bind_eq_some_iff] at h
 obtain ⟨l,hl,h⟩:=h
 have hels:=ints_get hl
 split at h
 case isFalse=>cases h
 rename_i hz
 simp only[Option.map_eq_some_iff] at h
 obtain ⟨r,hr,h⟩:=h
 cases h
 have hlen:l.length≤17592186044416:=by
  unfold cloneI at hr
  split at hr
  ·assumption
  ·cases hr
 obtain ⟨x,rfl,hx⟩:∃ x,vs=#[x]∧V E (.sl z f els) x:=by
  obtain ⟨hl',hv⟩:=hva
  obtain ⟨vl⟩:=vs
  match vl,hl' with
  | [x],_=>exact ⟨x,rfl,hv 0 _ _ rfl rfl⟩
 have row:∀ {v':Value} {w':World} {n:Nat} {xs:List Value},w'.ownsRow E.w.heap.size te 1 v' n xs→v'≠.slice none 0 0→Below E.w.heap.size E.w w'→n=els.length→xs=l.map (Value.int .i64)→Ret E s (.sl 1 false els) true s v' w':=by
  intro v' w' n xs hrow hne hbel hn hxs
  obtain ⟨hxl,hrow⟩:=hrow
  rcases hrow with ⟨rfl,_⟩ | ⟨g',cap,cur,rfl,h1,h2,h3,h4,h5,h6⟩
  ·exact absurd rfl hne
  ·subst hn
   refine Ret.owned hc hlo (vals:=fun i=>.int .i64 (l.getD i 0)) hbel h1 h2 h3 (by omega) (fun el he=>by
    rw[hels] at he; obtain ⟨n,_,rfl⟩:=List.mem_map.1 he; rfl) fun i el he=>?_
   rw[hels,List.getElem?_map,Option.map_eq_some_iff] at he
   obtain ⟨n,hn,rfl⟩:=he
   have hlt:=(List.getElem?_eq_some_iff.1 hn).1
   have hll:els.length=l.length:=by rw[hels,List.length_map]
   refine ⟨?_,by simp only[List.getD_eq_getElem?_getD,hn,Option.getD_some]; exact .int _ _⟩
   have h7:(cur.toList.take (els.length*1))[i]?=(l.map (Value.int .i64))[i]?:=by rw[h6,hxs]
   rw[List.getElem?_take,if_pos (by omega),List.getElem?_map,hn] at h7
   simp only[List.getD_eq_getElem?_getD,hn,Option.getD_some]
   simpa using h7
 generalize hbb:(AV.sl z f els)=bb at hx
 cases hx<;>cases hbb
 ·rename_i A
  obtain rfl:l=[]:=by cases hl; rfl
  cases A with
  | none =>
   refine .inl ⟨hent _ _,(hN 0 0 E.w).mono fun e w' h=>?_⟩
   obtain ⟨rfl,rfl⟩:=h
   exact ⟨_,rfl,Ret.noroom hc hlo (.slNil 1 false none) rfl⟩
  | some a =>
   refine .inl ⟨hent _ _,(hZ a 0 E.w).mono fun e w' h=>?_⟩
   obtain ⟨v',rfl,h1,h2,h3⟩:=h
   exact ⟨_,rfl,row h1 h2 h3 rfl rfl⟩
 ·rename_i g' o cap vals hcap hzz k0 k1 k2 k3 hfull
  have hll:els.length=l.length:=by rw[hels,List.length_map]
  have hz1:els=[]∨z=1:=hz.symm
  have hcall:=hI g' o els.length cap l E.w (by omega) (by omega) (fun j hj=>by
   have he:els[j]?=some (.int .i64 l[j]):=by rw[hels,List.getElem?_map,List.getElem?_eq_getElem hj]; rfl
   have hz2:z=1:=by
    rcases hz1 with h | h
    ·rw[h] at he; cases he
    ·exact h
   have a1:=k3 j _ 0 _ he rfl
   have a2:=k0 j _ 0 _ he rfl
   rw[hz2] at a1
   have:vals j 0=.int .i64 l[j]:=by
    generalize hq:(AV.int .i64 l[j])=q at a2
    generalize vals j 0=y at a2
    cases a2<;>cases hq
    rfl
   rw[this] at a1
   simpa[List.getD_eq_getElem?_getD,hj] using a1)
  refine .inl ⟨hent _ _,hcall.mono fun e w' h=>?_⟩
  obtain ⟨v',rfl,h1,h2,h3⟩:=h
  exact ⟨_,rfl,row h1 h2 h3 rfl (by rw[hll,List.take_length])⟩
end Ae
namespace Ae
open Go

theorem HS.enter {ex0:List Nat} {kp:Bool} {s0 s:St} {L:List BX} (h:HS ex0 kp s0 s L) (F:List BX) (hF:∀ x∈F,x∈L∧x.b.isSome=true) (hd:(F.filterMap BX.b).Nodup) :
  HS (F.filterMap BX.b) false s { s with lo:=s.n } F where
 n:=Nat.le_refl _
 ro:=rfl
 lo:=rfl
 lol:=h.wf'.lo
 wf:=h.wf'.ro
 xl:=fun b hb=>by
  obtain ⟨x,hx,hxb⟩:=List.mem_filterMap.1 hb
  exact ⟨(h.stX (i:=(List.mem_iff_getElem?.1 (hF x hx).1).choose) (List.mem_iff_getElem?.1 (hF x hx).1).choose_spec hxb).1,(h.bx x (hF x hx).1 b hxb).2.1⟩
 old:=fun _ _ _=>⟨rfl,rfl⟩
 bx:=fun x hx b hb=>by
  have h1:=h.bx x (hF x hx).1 b hb
  exact ⟨.inr (List.mem_filterMap.2 ⟨x,hx,hb⟩),h1.2.1,h1.2.2.1,h1.2.2.2⟩
 nd:=hd

structure Fx (ex:List Nat) (s s':St) (F:List BX):Prop where
 n:s'.n=s.n
 ro:s'.ro=s.ro
 lo:s'.lo=s.lo
 old:∀ b,b<s.n→b∉ex→s'.h b=s.h b∧s'.ow b=s.ow b
 bx:∀ x∈F,∀ b,x.b=some b→b∈ex∧s'.h b=some x.cs∧s'.ow b=x.ow

theorem HS.leave {ex:List Nat} {kp:Bool} {s s1:St} {L:List BX} (h:HS ex kp s s1 L) (F:List BX) (hF:∀ x∈F,x∈L∧∀ b,x.b=some b→b∈ex):Fx ex s (s.back s1) F where
 n:=rfl
 ro:=rfl
 lo:=rfl
 old:=fun b hb hx=>by simpa[St.back,hb] using h.old b hb hx
 bx:=fun x hx b hb=>by
  have h1:=(hF x hx).2 b hb
  have h2:=h.bx x (hF x hx).1 b hb
  have h3:=(h.xl b h1).2
  exact ⟨h1,by simpa[St.back,h3] using h2.2.2.1,by simpa[St.back,h3] using h2.2.2.2⟩

theorem ACallN.foreign {C:Cfg} {g:Nat} {args:List AV} {s:St} {J:FI} {p:AV→St→Prop} (h0:C.ext g=none) (h1:C.fn g=some J) (h2:J.keep=false)
  (k:AW C J [.code J.body] ⟨enterTm args,fun _=>false,{ s with lo:=s.n }⟩ fun f1=>∃ v o,resA C J f1=some (v,o)∧∃ v',fin f1.s s.n FINK v=some v'∧p v' (s.back f1.s)):ACallN C g args s fun v _ s'=>p v s':=by
 refine .enter h0 h1 h2 ?_
 obtain ⟨n,r,hr,v,o,hres,v',h3,h4⟩:=k
 exact ⟨n,r,hr,v,o,v',hres,h3,h4⟩
theorem ACall.foreign {C:Cfg} {g:Nat} {args:List AV} {s:St} {J:FI} {p:AV→St→Prop} (h0:C.ext g=none) (h1:C.fn g=some J) (h2:J.keep=false)
  (k:AW C J [.code J.body] ⟨enterTm args,fun _=>false,{ s with lo:=s.n }⟩ fun f1=>∃ v o,resA C J f1=some (v,o)∧∃ v',fin f1.s s.n FINK v=some v'∧p v' (s.back f1.s))
  (h3:J.rd=0:=by rfl):ACall C g args s fun v _ s'=>p v s':=(ACallN.foreign h0 h1 h2 k).toCall h0 h1 h3


def setAll:List BX→List Nat→List BX→List BX
 | L,i::ps,y::F=>setAll (L.set i y) ps F
 | L,_,_=>L

theorem HS.enterP {ex0:List Nat} {kp:Bool} {s0 s:St} {L:List BX} (h:HS ex0 kp s0 s L) (ps bs:List Nat) (hb:ps.map (fun i=>(L.getD i noBX).b)=bs.map some) (hd:ps.Nodup) :
  HS bs false s { s with lo:=s.n } (ps.map fun i=>L.getD i noBX):=by
 have e:(ps.map fun i=>L.getD i noBX).filterMap BX.b=bs:=by
  rw[List.filterMap_map]
  have:∀ (l:List Nat),List.filterMap (BX.b∘fun i=>L.getD i noBX) l=(l.map fun i=>(L.getD i noBX).b).filterMap id:=by
   intro l; rw[List.filterMap_map]; rfl
  rw[this,hb,List.filterMap_map]
  simp
 have hmem:∀ i∈ps,∃ x b,L[i]?=some x∧L.getD i noBX=x∧x.b=some b:=by
  intro i hi
  have h1:(L.getD i noBX).b∈bs.map some:=by rw[← hb]; exact List.mem_map.2 ⟨i,hi,rfl⟩
  obtain ⟨b,_,hb'⟩:=List.mem_map.1 h1
  cases hx:L[i]? with
  | none=>simp[List.getD_eq_getElem?_getD,hx,noBX] at hb'
  | some x=>exact ⟨x,b,rfl,by simp[List.getD_eq_getElem?_getD,hx],by rw[hb']; simp[List.getD_eq_getElem?_getD,hx]⟩
 have:=h.enter (ps.map fun i=>L.getD i noBX) (fun x hx=>by
  obtain ⟨i,hi,rfl⟩:=List.mem_map.1 hx
  obtain ⟨y,b,h1,h2,h3⟩:=hmem i hi
  rw[h2]
  exact ⟨List.mem_of_getElem? h1,by rw[h3]; rfl⟩) (by
  have:∀ l:List Nat,(∀ i∈l,i∈ps)→l.Nodup→((l.map fun i=>L.getD i noBX).filterMap BX.b).Nodup:=by
   intro l hl hn
   induction l with
   | nil=>exact List.nodup_nil
   | cons i l ih =>
    obtain ⟨y,b,h1,h2,h3⟩:=hmem i (hl i (List.mem_cons_self ..))
    rw[List.nodup_cons] at hn
    rw[List.map_cons,h2,List.filterMap_cons,h3]
    simp only[List.nodup_cons]
    refine ⟨fun hm=>?_,ih (fun j hj=>hl j (List.mem_cons_of_mem _ hj)) hn.2⟩
    obtain ⟨z,hz,hzb⟩:=List.mem_filterMap.1 hm
    obtain ⟨j,hj,rfl⟩:=List.mem_map.1 hz
    obtain ⟨z,b',k1,k2,k3⟩:=hmem j (hl j (List.mem_cons_of_mem _ hj))
    rw[k2] at hzb
    have:=nodup_inj h.nd h1 k1 h3 hzb
    subst this
    exact hn.1 hj
  exact this ps (fun _ h=>h) hd)
 rw[e] at this
 exact this

theorem HS.leaveP {ex:List Nat} {kp:Bool} {s s1:St} {L:List BX} (h:HS ex kp s s1 L) (ps:List Nat) (hb:ps.map (fun i=>(L.getD i noBX).b)=ex.map some):Fx ex s (s.back s1) (ps.map fun i=>L.getD i noBX) :=
 h.leave _ fun x hx=>by
  obtain ⟨i,hi,rfl⟩:=List.mem_map.1 hx
  have h1:(L.getD i noBX).b∈ex.map some:=by rw[← hb]; exact List.mem_map.2 ⟨i,hi,rfl⟩
  obtain ⟨b,hbe,hb'⟩:=List.mem_map.1 h1
  cases hx:L[i]? with
  | none=>simp[List.getD_eq_getElem?_getD,hx,noBX] at hb'
  | some x =>
   have e:L.getD i noBX=x:=by simp[List.getD_eq_getElem?_getD,hx]
   rw[e] at hb' ⊢
   exact ⟨List.mem_of_getElem? hx,fun b' hb2=>by rw[← hb'] at hb2; cases hb2; exact hbe⟩

theorem HS.setAll {ex0:List Nat} {kp:Bool} {s0 s:St} {L0:List BX} (h:HS ex0 kp s0 s L0) {s':St} (hn:s'.n=s.n) (hro:s'.ro=s.ro) (hlo:s'.lo=s.lo) (hold:∀ b,b<s0.n→b∉ex0→s'.h b=s0.h b∧s'.ow b=s0.ow b) :
  ∀ (ps:List Nat) (F L:List BX),L.map BX.b=L0.map BX.b→ps.length=F.length→(∀ (i:Nat) x b,L[i]?=some x→x.b=some b→i∉ps→s'.h b=some x.cs∧s'.ow b=x.ow) →
   (∀ (k i:Nat) y,ps[k]?=some i→F[k]?=some y→(L0.map BX.b)[i]?=some y.b∧∀ b,y.b=some b→s'.h b=some y.cs∧s'.ow b=y.ow)→HS ex0 kp s0 s' (Ae.setAll L ps F)
 | [],F,L,hL,_,hx,_=>by
  have e:Ae.setAll L [] F=L:=by unfold Ae.setAll; rfl
  rw[e]
  refine ⟨by rw[hn]; exact h.n,hro.trans h.ro,hlo.trans h.lo,h.lol,h.wf,h.xl,hold,fun x hxm b hb=>?_,?_⟩
  ·obtain ⟨i,hi⟩:=List.mem_iff_getElem?.1 hxm
   have h1:(L0.map BX.b)[i]?=some x.b:=by rw[← hL,List.getElem?_map,hi]; rfl
   rw[List.getElem?_map,Option.map_eq_some_iff] at h1
   obtain ⟨x0,h2,h3⟩:=h1
   have h4:=h.bx x0 (List.mem_of_getElem? h2) b (h3.trans hb)
   exact ⟨h4.1,by rw[hn]; exact h4.2.1,hx i x b hi hb List.not_mem_nil⟩
  ·have:∀ l:List BX,l.filterMap BX.b=(l.map BX.b).filterMap id:=fun l=>by rw[List.filterMap_map]; rfl
   rw[this,hL,← this]; exact h.nd
 | i::ps,[],L,_,hl,_,_=>by simp at hl
 | i::ps,y::F,L,hL,hl,hx,hy=>by
  have e:Ae.setAll L (i::ps) (y::F)=Ae.setAll (L.set i y) ps F:=by rw[Ae.setAll]
  rw[e]
  obtain ⟨h1,h2⟩:=hy 0 i y rfl rfl
  refine HS.setAll h hn hro hlo hold ps F (L.set i y) ?_ (by simpa using hl) (fun j x b hj hb hjp=>?_) (fun k j z hk hz=>hy (k+1) j z (by simpa using hk) (by simpa using hz))
  ·apply List.ext_getElem?
   intro j
   rw[← hL,List.getElem?_map,List.getElem?_map,List.getElem?_set]
   split
   ·rename_i hij
    subst hij
    rw[← hL,List.getElem?_map] at h1
    cases hLi:L[i]? with
    | none=>rw[hLi] at h1; cases h1
    | some x =>
     rw[hLi] at h1
     have hlt:=(List.getElem?_eq_some_iff.1 hLi).1
     rw[if_pos hlt]
     simpa using h1.symm
   ·rfl
  ·rw[List.getElem?_set] at hj
   split at hj
   ·split at hj
    ·cases hj; exact h2 b hb
    ·cases hj
   ·rename_i hij
    exact hx j x b hj hb (by simp; exact ⟨fun h=>hij h.symm,hjp⟩)

theorem HS.callP {ex ex0:List Nat} {kp:Bool} {s0 s s':St} {L F:List BX} (h:HS ex0 kp s0 s L) (ps:List Nat) (k:Fx ex s s' F) (hp:ps.map (fun i=>(L.getD i noBX).b)=ex.map some) (hF:F.map BX.b=ex.map some):HS ex0 kp s0 s' (Ae.setAll L ps F):=by
 have hlen:ps.length=F.length:=by
  have h1:=congrArg List.length hp
  have h2:=congrArg List.length hF
  simp at h1 h2
  omega
 have hget:∀ (q i:Nat),ps[q]?=some i→∃ b x,ex[q]?=some b∧L[i]?=some x∧x.b=some b:=by
  intro q i hq
  have h1:(ps.map fun i=>(L.getD i noBX).b)[q]?=some (L.getD i noBX).b:=by rw[List.getElem?_map,hq]; rfl
  rw[hp,List.getElem?_map,Option.map_eq_some_iff] at h1
  obtain ⟨b,h2,h3⟩:=h1
  cases hx:L[i]? with
  | none=>simp[List.getD_eq_getElem?_getD,hx,noBX] at h3
  | some x=>exact ⟨b,x,h2,rfl,by rw[h3]; simp[List.getD_eq_getElem?_getD,hx]⟩
 have hexL:∀ b∈ex,∃ i x,i∈ps∧L[i]?=some x∧x.b=some b:=by
  intro b hb
  obtain ⟨q,hq⟩:=List.mem_iff_getElem?.1 hb
  have hlq:q<ps.length:=by
   have h1:=congrArg List.length hp
   simp at h1
   have:=(List.getElem?_eq_some_iff.1 hq).1
   omega
  obtain ⟨b',x,h1,h2,h3⟩:=hget q ps[q] (List.getElem?_eq_getElem hlq)
  rw[hq] at h1; cases h1
  exact ⟨ps[q],x,List.getElem_mem hlq,h2,h3⟩
 refine h.setAll k.n k.ro k.lo (fun b hb hx=>?_) ps F L rfl hlen (fun i x b hi hb hip=>?_) (fun q i y hq hy=>?_)
 ·by_cases hbe:b∈ex
  ·obtain ⟨i,x,_,hxL,hxb⟩:=hexL b hbe
   rcases (h.bx x (List.mem_of_getElem? hxL) b hxb).1 with h1 | h1
   ·omega
   ·exact absurd h1 hx
  ·have h1:=k.old b (Nat.lt_of_lt_of_le hb h.n) hbe
   have h2:=h.old b hb hx
   exact ⟨h1.1.trans h2.1,h1.2.trans h2.2⟩
 ·have h1:=h.bx x (List.mem_of_getElem? hi) b hb
  have hbe:b∉ex:=fun hbe=>by
   obtain ⟨j,y,hj,hyL,hyb⟩:=hexL b hbe
   have:=nodup_inj h.nd hi hyL hb hyb
   subst this
   exact hip hj
  have h2:=k.old b h1.2.1 hbe
  exact ⟨h2.1.trans h1.2.2.1,h2.2.trans h1.2.2.2⟩
 ·obtain ⟨b,x,h1,h2,h3⟩:=hget q i hq
  have hyb:y.b=some b:=by
   have h4:(F.map BX.b)[q]?=some y.b:=by rw[List.getElem?_map,hy]; rfl
   rw[hF,List.getElem?_map,h1] at h4
   simpa using h4.symm
  refine ⟨by rw[List.getElem?_map,h2]; simp[h3,hyb],fun b' hb'=>?_⟩
  exact (k.bx y (List.mem_of_getElem? hy) b' hb').2

theorem finF {s:St} {n k:Nat} {p:AV→Prop} {v:AV} {q:Prop} (h:Fin s n k p v) (hq:q):∃ v',fin s n k v=some v'∧p v'∧q:=by
 obtain ⟨v',h1,h2⟩:=h.2
 exact ⟨v',h1,h2,hq⟩

section
variable {C:Cfg} {I:FI} {tm:Nat→AV} {os:Nat→Bool} {s:St} {Q:Fr→Prop} {all:Array Oper} {l:List Oper} {o:Oper}
theorem AOps.callF {d g:Nat} {args:List AV} {p:AV→St→Prop} (hw:wantedA o all tm=some true) (hc:callee? o tm=some (g,args)) (hd:o.dst=some d) {al:Bool} (h:ACall C g args s (fun v _ s'=>p v s') al)
  (k:∀ v ow s',p v s'→AOps C I false all l ⟨upd tm d v,upd os d ow,s'⟩ Q) (ha:alias I o=al:=by rfl):AOps C I false all (o::l) ⟨tm,os,s⟩ Q :=
 .callRA hw hc hd ha (h.mono fun v ow s' h=>k v ow s' h)
theorem AOps.callFE {d g:Nat} {args:List AV} {p:AV→St→Prop} (hw:wantedA o all tm=some true) (hc:callee? o tm=some (g,args)) (hd:o.dst=some d) {al:Bool} (h:ACall C g args s (fun v _ s'=>p v s') al)
  (hn:∀ v s',p v s'→s.n≤s'.n) (k:∀ v ow s',p v s'→AOps C I true all l ⟨upd tm d v,upd os d ow,s'⟩ Q) (ha:alias I o=al:=by rfl) (he:eff I o=true:=by rfl):AOps C I true all (o::l) ⟨tm,os,s⟩ Q :=
 .callER hw hc hd ha he (h.mono fun v ow s' h=>⟨hn v s' h,k v ow s' h⟩)
end


theorem HS.initK {s:St} (h:WF s):HS [] true s s []:=⟨Nat.le_refl _,rfl,rfl,h.lo,h.ro,fun _ hb=>(by cases hb),fun _ _ _=>⟨rfl,rfl⟩,fun x hx=>(by cases hx),List.nodup_nil⟩

theorem ACallN.keepR {C:Cfg} {g:Nat} {args:List AV} {s:St} {al:Bool} {J:FI} {p:AV→St→Prop} (h0:C.ext g=none) (h1:tbl C al g=some J) (h2:J.keep=true)
  (k:AW C J [.code J.body] ⟨enterTm args,fun _=>false,s⟩ fun f1=>∃ v o,resA C J f1=some (v,o)∧p v f1.s):ACallN C g args s (fun v _ s'=>p v s') al:=by
 refine .enterKeep h0 h1 h2 ?_
 obtain ⟨n,r,hr,v,o,hres,hp⟩:=k
 exact ⟨n,r,hr,v,o,hres,hp⟩
theorem ACall.keepR {C:Cfg} {g:Nat} {args:List AV} {s:St} {al:Bool} {J:FI} {p:AV→St→Prop} (h0:C.ext g=none) (h1:tbl C al g=some J) (h2:J.keep=true)
  (k:AW C J [.code J.body] ⟨enterTm args,fun _=>false,s⟩ fun f1=>∃ v o,resA C J f1=some (v,o)∧p v f1.s)
  (h3:J.rd=0:=by rfl):ACall C g args s (fun v _ s'=>p v s') al:=(ACallN.keepR h0 h1 h2 k).toCall h0 h1 h3

end Ae
