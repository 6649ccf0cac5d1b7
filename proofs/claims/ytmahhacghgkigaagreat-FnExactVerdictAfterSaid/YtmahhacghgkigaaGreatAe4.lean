import Derived.Test.YtmahhacghgkigaaGreatAe3
import Derived.Sort.Grow
import Derived.Sort.Row
import Derived.Deep.Slices
import Derived.IntWalk
import Derived.Carry
set_option linter.unusedVariables false
set_option linter.unusedSimpArgs false
namespace Ae
open Go

abbrev KT:=List Nat→AV
def KT.at (k:KT) (i:Nat):KT:=fun ρ=>k (i::ρ)

def Has (s:St) (n:Nat) (L:List BX):Prop:=∀ x∈L,∀ b,x.b=some b→n≤b∧s.h b=some x.cs
theorem Has.app {s:St} {n:Nat} {A B:List BX} (h:Has s n (A++B)):Has s n A∧Has s n B :=
 ⟨fun x hx=>h x (List.mem_append_left _ hx),fun x hx=>h x (List.mem_append_right _ hx)⟩

def mkv (ag:Bool) (cs:List AV):AV:=if ag then .agg cs else cs.headD .undef

structure OT (α:Type) where
 sz:Nat
 ag:Bool
 dep:Nat
 rel:α→AV→Prop
 own:KT→α→List AV→List BX→Prop
 len:∀ {k x cs L},own k x cs L→cs.length=sz
 one:∀ {k x cs L},own k x cs L→∀ c∈cs,c.one=true
 sz1:ag=false→sz=1
 fin:∀ {s n k x cs L},own k x cs L→Has s n L→Fin s n dep (rel x) (mkv ag cs)

def oLeaf {α:Type} (r:α→AV→Prop) (ag:Bool) (sz dep:Nat) (hs:Sh ag sz r) (h1:ag=false→sz=1) (hn:∀ x,Nice dep (r x)):OT α where
 sz:=sz
 ag:=ag
 dep:=dep
 rel:=r
 own:=fun _ x cs L=>(∃ v,r x v∧v.cells=cs)∧L=[]
 len:=by
  rintro k x cs L ⟨⟨v,hr,rfl⟩,_⟩
  exact (hs x v hr).1
 one:=by
  rintro k x cs L ⟨⟨v,hr,rfl⟩,_⟩ c hc
  obtain ⟨h2,h3⟩:=hs x v hr
  cases ag with
  | true =>
   rw[if_pos rfl] at h3
   obtain ⟨cs,rfl,h4⟩:=h3
   exact h4 c hc
  | false =>
   have h3:v.one=true:=by simpa using h3
   rw[AV.cells_one h3] at hc
   rw[List.mem_singleton.1 hc]; exact h3
 sz1:=h1
 fin:=by
  rintro s n k x cs L ⟨⟨v,hr,rfl⟩,_⟩ _
  have:mkv ag v.cells=v:=by
   obtain ⟨h2,h3⟩:=hs x v hr
   unfold mkv
   cases ag with
   | true =>
    rw[if_pos rfl] at h3
    obtain ⟨cs,rfl,h4⟩:=h3
    rfl
   | false =>
    have h3:v.one=true:=by simpa using h3
    rw[AV.cells_one h3]; rfl
  rw[this]
  exact .of (hn x) hr

inductive OL {α:Type} (e:OT α) (k:KT):Nat→List α→List AV→List BX→Prop
 | nil {i}:OL e k i [] [] []
 | cons {i x xs c cs B L} (h:e.own (k.at i) x c B) (t:OL e k (i+1) xs cs L):OL e k i (x::xs) (c++cs) (B++L)

def OS {α:Type} (e:OT α) (h:AV) (k:KT) (xs:List α) (L:List BX):Prop :=
 (∃ z,h=.sl z true []∧(z=e.sz∨z=0)∧xs=[]∧L=[]) ∨
 ∃ b cs ow L0,h=.ms e.ag e.sz b 0 xs.length∧L=⟨some b,cs,ow⟩::L0∧OL e k 0 xs cs L0

section
variable {α:Type} {e:OT α} {h:AV} {k:KT} {xs:List α} {L:List BX}

theorem OS.one (hO:OS e h k xs L):h.one=true:=by
 rcases hO with ⟨z,rfl,_⟩ | ⟨b,cs,ow,L0,rfl,_⟩<;>rfl
theorem OS.nil {z:Nat} (hz:z=e.sz∨z=0):OS e (.sl z true []) k [] []:=.inl ⟨z,rfl,hz,rfl,rfl⟩

theorem OL.len {i:Nat} {cs:List AV}:∀ {i:Nat} {xs:List α} {cs:List AV} {L:List BX},OL e k i xs cs L→cs.length=xs.length*e.sz
 | _,_,_,_,.nil=>by simp
 | _,_,_,_,.cons h t=>by
  have:=OL.len (i:=i) (cs:=cs) t
  rw[List.length_append,e.len h,this,List.length_cons,Nat.succ_mul]; omega

theorem OL.get:∀ {i:Nat} {xs:List α} {cs:List AV} {L:List BX},OL e k i xs cs L→∀ {j:Nat} {x:α},xs[j]?=some x →
  ∃ c B C1 C2 A D,e.own (k.at (i+j)) x c B∧cs=C1++c++C2∧C1.length=j*e.sz∧L=A++B++D ∧
   ∀ y c' B',e.own (k.at (i+j)) y c' B'→OL e k i (xs.set j y) (C1++c'++C2) (A++B'++D)
 | _,_,_,_,.nil,j,x,hj=>by simp at hj
 | i,x0::xs,_,_,.cons (c:=c0) (cs:=cs) (B:=B0) (L:=L0) h t,j,x,hj=>by
  cases j with
  | zero =>
   simp at hj
   subst hj
   exact ⟨c0,B0,[],cs,[],L0,h,rfl,by simp,rfl,fun y c' B' hy=>.cons hy t⟩
  | succ j =>
   simp at hj
   obtain ⟨c,B,C1,C2,A,D,h1,h2,h3,h4,h5⟩:=OL.get t hj
   have e1:i+1+j=i+(j+1):=by omega
   rw[e1] at h1 h5
   refine ⟨c,B,c0++C1,C2,B0++A,D,h1,by rw[h2]; simp,by rw[List.length_append,e.len h,h3,Nat.succ_mul]; omega,by rw[h4]; simp,?_⟩
   intro y c' B' hy
   have:=OL.cons h (h5 y c' B' hy)
   simpa using this

theorem OL.congr {k':KT}:∀ {i:Nat} {xs:List α} {cs:List AV} {L:List BX},OL e k i xs cs L→(∀ j,i≤j→j<i+xs.length→k'.at j=k.at j)→OL e k' i xs cs L
 | _,_,_,_,.nil,_=>.nil
 | i,x::xs,_,_,.cons h t,hk=>by
  refine .cons ?_ (OL.congr t (fun j h1 h2=>hk j (by omega) (by simp only[List.length_cons]; omega)))
  rw[hk i (Nat.le_refl _) (by simp only[List.length_cons]; omega)]; exact h

theorem OL.app:∀ {i:Nat} {xs:List α} {cs:List AV} {L:List BX},OL e k i xs cs L→∀ {ys:List α} {ds:List AV} {M:List BX},OL e k (i+xs.length) ys ds M→OL e k i (xs++ys) (cs++ds) (L++M)
 | _,_,_,_,.nil,ys,ds,M,h=>by simpa using h
 | i,x::xs,_,_,.cons h t,ys,ds,M,h2=>by
  have:=OL.cons h (OL.app t (by rw[show i+1+xs.length=i+(xs.length+1) by omega]; exact h2))
  simpa using this

theorem fin_rows {s:St} {n:Nat}:∀ {i:Nat} {xs:List α} {cs:List AV} {L:List BX},OL e k i xs cs L→Has s n L→∃ e',(chunk e.sz e.ag cs xs.length).mapM (Ae.fin s n e.dep)=some e'∧L2 e.rel xs e'
 | _,_,_,_,.nil,_=>⟨[],rfl,.nil⟩
 | i,x::xs,_,_,.cons (c:=c) (cs:=cs) (B:=B) (L:=L) h t,hL=>by
  obtain ⟨h1,h2⟩:=hL.app
  obtain ⟨e',h3,h4⟩:=fin_rows t h2
  obtain ⟨_,v',h5,h6⟩:=e.fin h h1
  have hl:=e.len h
  refine ⟨v'::e',?_,.cons h6 h4⟩
  have hv:(if e.ag then AV.agg ((c++cs).take e.sz) else (c++cs).headD .undef)=mkv e.ag c:=by
   unfold mkv
   cases ha:e.ag with
   | true=>simp[← hl]
   | false =>
    have:=e.sz1 ha
    match c,(hl.trans this) with
    | [c0],_=>rfl
  rw[List.length_cons,chunk,hv,List.mapM_cons,h5]
  have:(c++cs).drop e.sz=cs:=by rw[← hl]; simp
  rw[this,h3]
  rfl

theorem OS.fin {s:St} {n:Nat} (hO:OS e h k xs L) (hL:Has s n L):Fin s n (e.dep+1) (rL e.rel e.sz xs) h:=by
 rcases hO with ⟨z,rfl,hz,rfl,_⟩ | ⟨b,cs,ow,L0,rfl,rfl,hl⟩
 ·refine ⟨fun hc=>by simp[AV.canonB] at hc,.sl z false [],by simp[Ae.fin,AV.canonB],z,false,[],rfl,?_,.nil⟩
  rcases hz with hz | hz
  ·exact .inl hz
  ·exact .inr ⟨hz,rfl⟩
 ·obtain ⟨hb,hh⟩:=hL _ (List.mem_cons_self ..) b rfl
  have hc:(AV.ms e.ag e.sz b 0 xs.length).canonB n=false:=by simp[AV.canonB]; omega
  refine ⟨fun h=>(by rw[hc] at h; cases h),?_⟩
  obtain ⟨e',h5,h6⟩:=fin_rows hl (fun x hx=>hL x (List.mem_cons_of_mem _ hx))
  refine ⟨.sl e.sz false e',?_,e.sz,false,e',rfl,.inl rfl,h6⟩
  unfold Ae.fin
  rw[hc]
  simp only[hh]
  have hlen:=hl.len (i:=0) (cs:=cs)
  rw[if_neg (by simp),if_pos ⟨by rw[hlen]; omega,by cases ha:e.ag; exact .inr (e.sz1 ha); exact .inl rfl⟩,List.drop_zero,h5]
  rfl
end

def oSl {α:Type} (e:OT α):OT (List α) where
 sz:=1
 ag:=false
 dep:=e.dep+1
 rel:=rL e.rel e.sz
 own:=fun k xs cs L=>cs=[k []]∧OS e (k []) k xs L
 len:=by rintro k x cs L ⟨rfl,_⟩; rfl
 one:=by rintro k x cs L ⟨rfl,h⟩ c hc; rw[List.mem_singleton.1 hc]; exact h.one
 sz1:=fun _=>rfl
 fin:=by
  rintro s n k x cs L ⟨rfl,h⟩ hL
  exact h.fin hL


inductive AllG:List (List BX→Prop)→List (List BX)→Prop
 | nil:AllG [] []
 | cons {P L Ps Ls} (h:P L) (t:AllG Ps Ls):AllG (P::Ps) (L::Ls)

theorem AllG.get:∀ {G:List (List BX→Prop)} {Ls:List (List BX)},AllG G Ls→∀ {j:Nat} {P:List BX→Prop},G[j]?=some P→∃ L,Ls[j]?=some L∧P L
 | _,_,.nil,j,P,h=>by simp at h
 | _,_,.cons (L:=L) h t,j,P,hj=>by
  cases j with
  | zero=>simp at hj; subst hj; exact ⟨L,rfl,h⟩
  | succ j=>simp at hj; obtain ⟨L',h1,h2⟩:=t.get hj; exact ⟨L',by simpa using h1,h2⟩
theorem AllG.set:∀ {G:List (List BX→Prop)} {Ls:List (List BX)},AllG G Ls→∀ (j:Nat) {P:List BX→Prop} {L:List BX},P L→AllG (G.set j P) (Ls.set j L)
 | _,_,.nil,j,P,L,h=>.nil
 | _,_,.cons h t,0,P,L,hp=>.cons hp t
 | _,_,.cons h t,j+1,P,L,hp=>.cons h (t.set j hp)
theorem AllG.app:∀ {G:List (List BX→Prop)} {Ls:List (List BX)},AllG G Ls→∀ {G' Ls'},AllG G' Ls'→AllG (G++G') (Ls++Ls')
 | _,_,.nil,_,_,h=>h
 | _,_,.cons h t,_,_,h2=>.cons h (t.app h2)

theorem flat_mid:∀ {Ls:List (List BX)} {j:Nat} {L:List BX},Ls[j]?=some L→∃ U W,Ls.flatten=U++L++W∧∀ L',(Ls.set j L').flatten=U++L'++W
 | [],j,L,h=>by simp at h
 | M::Ls,0,L,h=>by
  simp at h
  subst h
  exact ⟨[],Ls.flatten,by simp,fun L'=>by simp⟩
 | M::Ls,j+1,L,h=>by
  simp at h
  obtain ⟨U,W,h1,h2⟩:=flat_mid h
  exact ⟨M++U,W,by simp[h1],fun L'=>by simp[h2]⟩

theorem HS.perm {ex:List Nat} {kp:Bool} {s0 s:St} {L L':List BX} (h:HS ex kp s0 s L) (hp:L.Perm L'):HS ex kp s0 s L' :=
 { n:=h.n,ro:=h.ro,lo:=h.lo,lol:=h.lol,wf:=h.wf,xl:=h.xl,old:=h.old
   bx:=fun x hx=>h.bx x (hp.mem_iff.2 hx)
   nd:=(hp.filterMap _).nodup_iff.1 h.nd }

theorem HS.less {ex:List Nat} {kp:Bool} {s0 s:St} {A B C:List BX} (h:HS ex kp s0 s (A++B++C)):HS ex kp s0 s (A++C) :=
 { n:=h.n,ro:=h.ro,lo:=h.lo,lol:=h.lol,wf:=h.wf,xl:=h.xl,old:=h.old
   bx:=fun x hx=>h.bx x (by
     rcases List.mem_append.1 hx with h1 | h1
     · exact List.mem_append_left _ (List.mem_append_left _ h1)
     · exact List.mem_append_right _ h1)
   nd:=by
     have:=h.nd
     simp only[List.filterMap_append] at this ⊢
     rw[List.append_assoc] at this
     exact List.Nodup.sublist (List.Sublist.append (List.Sublist.refl _) (List.sublist_append_right _ _)) this }

def Sub {β:Type} (P:List BX→Prop) (e:OT β) (h:AV) (k:KT) (ys:List β) (P':List β→List BX→Prop):Prop :=
 ∀ L,P L→∃ A B C,L=A++B++C∧OS e h k ys B∧∀ ys' B',OS e h k ys' B'→P' ys' (A++B'++C)

theorem Sub.here {α:Type} {e:OT α} {h:AV} {k:KT} {xs:List α}:Sub (OS e h k xs) e h k xs (fun ys=>OS e h k ys) :=
 fun L hL=>⟨[],L,[],by simp,hL,fun ys' B' h'=>by simpa using h'⟩

theorem OS.get {α:Type} {e:OT α} {h:AV} {k:KT} {xs:List α} {L:List BX} (hO:OS e h k xs L) {i:Int} {x:α} (hx:ix xs i=some x) :
  ∃ b cs ow L0 c B C1 C2 A D,h=.ms e.ag e.sz b 0 xs.length∧L=⟨some b,cs,ow⟩::L0∧e.own (k.at i.toNat) x c B∧cs=C1++c++C2∧C1.length=i.toNat*e.sz∧L0=A++B++D∧0≤i∧i<xs.length ∧
   ∀ y c' B' ow',e.own (k.at i.toNat) y c' B'→OS e h k (xs.set i.toNat y) (⟨some b,C1++c'++C2,ow'⟩::(A++B'++D)):=by
 have h0:0≤i∧xs[i.toNat]?=some x:=by
  unfold ix at hx
  split at hx
  ·rename_i h0; exact ⟨h0,hx⟩
  ·cases hx
 rcases hO with ⟨z,rfl,hz,rfl,rfl⟩ | ⟨b,cs,ow,L0,rfl,rfl,hl⟩
 ·simp[ix] at hx
 ·obtain ⟨c,B,C1,C2,A,D,h1,h2,h3,h4,h5⟩:=hl.get h0.2
  rw[Nat.zero_add] at h1 h5
  have hlt:=(List.getElem?_eq_some_iff.1 h0.2).1
  refine ⟨b,cs,ow,L0,c,B,C1,C2,A,D,rfl,rfl,h1,h2,h3,h4,h0.1,by omega,fun y c' B' ow' hy=>?_⟩
  exact .inr ⟨b,_,ow',_,by rw[List.length_set],rfl,h5 y c' B' hy⟩

end Ae
namespace Ae
open Go

def LoOK (ex:List Nat) (kp:Bool) (s0:St):Prop:=∀ b∈ex,(if kp then s0.lo else s0.n)≤b
theorem LoOK.nil {kp:Bool} {s0:St}:LoOK [] kp s0:=fun _ h=>by cases h

section
variable {ex:List Nat} {kp:Bool} {s0 s:St} {E:List BX} {Ls:List (List BX)} {G:List (List BX→Prop)} {j:Nat} {P:List BX→Prop}

theorem own_at {α:Type} {e:OT α} {h:AV} {k:KT} {ys:List α} {P':List α→List BX→Prop} {i:Int} {y:α} (hG:AllG G Ls) (hj:G[j]?=some P) (hS:Sub P e h k ys P') (hx:ix ys i=some y) :
  ∃ U W b cs ow c B,E++Ls.flatten=U++⟨some b,cs,ow⟩::W∧h=.ms e.ag e.sz b 0 ys.length∧e.own (k.at i.toNat) y c B∧i.toNat*e.sz+e.sz≤cs.length∧(cs.drop (i.toNat*e.sz)).take e.sz=c∧0≤i∧i<ys.length ∧
   ∀ y' c' ow',e.own (k.at i.toNat) y' c' B→∃ Ls',AllG (G.set j (P' (ys.set i.toNat y'))) Ls'∧U++⟨some b,over cs (i.toNat*e.sz) c',ow'⟩::W=E++Ls'.flatten:=by
 obtain ⟨L,hL,hP⟩:=hG.get hj
 obtain ⟨A,B,C,h1,h2,h3⟩:=hS L hP
 obtain ⟨b,cs,ow,L0,c,B0,C1,C2,A0,D0,k1,k2,k3,k4,k5,k6,k7,k8,k9⟩:=h2.get hx
 obtain ⟨U,W,f1,f2⟩:=flat_mid hL
 have hc:=e.len k3
 refine ⟨E++U++A,L0++C++W,b,cs,ow,c,B0,?_,k1,k3,?_,?_,k7,k8,?_⟩
 ·rw[f1,h1,k2]; simp
 ·rw[k4,List.length_append,List.length_append]; omega
 ·rw[k4,List.append_assoc,← k5,List.drop_append,List.drop_length,Nat.sub_self,List.drop_zero,List.nil_append,← hc]; simp
 ·intro y' c' ow' hy
  have hc':=e.len hy
  refine ⟨Ls.set j (A++(⟨some b,C1++c'++C2,ow'⟩::(A0++B0++D0))++C),hG.set j (h3 _ _ (k9 y' c' B0 ow' hy)),?_⟩
  rw[f2]
  have ho:over cs (i.toNat*e.sz) c'=C1++c'++C2:=by
   unfold over
   rw[k4,← k5,List.append_assoc C1 c C2]
   have t1:(C1++(c++C2)).take C1.length=C1:=by simp
   have t2:(C1++(c++C2)).drop (C1.length+c'.length)=C2:=by
    rw[List.drop_append,List.drop_eq_nil_of_le (by omega)]
    simp[show C1.length+c'.length - C1.length=c.length by omega]
   rw[t1,t2]
  rw[ho,k6]
  simp

theorem part_in {ti:TI} {cs c:List AV} {off sz q:Nat} (h:(cs.drop off).take sz=c) (hl:off+sz≤cs.length) (h0:0<ti.size) (hq:q+ti.size≤sz):part ti cs (off+q)=part ti c q:=by
 subst h
 have e:∀ j,j<sz→((cs.drop off).take sz)[j]?=cs[off+j]?:=by
  intro j hj
  rw[List.getElem?_take,if_pos hj,List.getElem?_drop]
 unfold part
 by_cases ha:ti.isAgg=true
 ·rw[if_pos ha,if_pos ha,if_pos (by omega),if_pos (by rw[List.length_take,List.length_drop]; omega)]
  congr 2
  apply List.ext_getElem?
  intro j
  rw[List.getElem?_take,List.getElem?_take]
  split
  ·rw[List.getElem?_drop,List.getElem?_drop,e _ (by omega),Nat.add_assoc]
  ·rfl
 ·rw[if_neg ha,if_neg ha,e q (by omega)]

variable {C:Cfg} {I:FI} {t:List Item} {tm:Nat→AV} {os:Nat→Bool} {Q:Fr→Prop} {all:Array Oper} {l:List Oper} {o:Oper} {draw:Bool}

theorem AOps.idxO {α:Type} {e:OT α} {h:AV} {k:KT} {ys:List α} {P':List α→List BX→Prop} {i:Int} {y:α} {d ty et:Nat} {X Y:Operand} {T ei:TI} {kk:IntKind} (hG:AllG G Ls) (hj:G[j]?=some P) (hS:Sub P e h k ys P') (hx:ix ys i=some y)
  (hw:wantedA o all tm=some true) (ho:o.op=.indexAddr ty X Y) (hT:C.ty ty=some T) (hTu:T.u=.slice et) (hE:C.ty et=some ei) (hX:evalO tm X=h) (hY:evalO tm Y=.int kk i) (hsz:e.sz=ei.size) (hd:o.dst=some d)
  (k:∀ b,h=.ms e.ag e.sz b 0 ys.length→AOps C I draw all l ⟨upd tm d (.ptr b (0+i.toNat*e.sz)),upd os d false,s⟩ Q):AOps C I draw all (o::l) ⟨tm,os,s⟩ Q:=by
 obtain ⟨U,W,b,cs,ow,c,B,_,h1,_,_,_,h2,h3,_⟩:=own_at (E:=[]) hG hj hS hx
 refine .op hw (by unfold callee?; rw[ho]) (f':=⟨upd tm d (.ptr b (0+i.toNat*e.sz)),upd os d false,s⟩) ?_ (k b h1)
 obtain ⟨u,a1,a2,zz⟩:=T
 simp only at hTu
 subst hTu
 have hi:idx i ys.length=some i.toNat:=by unfold idx; rw[if_pos ⟨h2,h3⟩]
 simp[opF,moveOp,cutM,cutV,Option.map_none,pureOp,ho,hT,hE,hX,hY,h1,hsz,hi,Fr.put,hd]

theorem AOps.lenO {α:Type} {e:OT α} {h:AV} {k:KT} {ys:List α} {P':List α→List BX→Prop} {d ty et a1 a2:Nat} {zz:AV} {X:Operand} (hG:AllG G Ls) (hj:G[j]?=some P) (hS:Sub P e h k ys P')
  (hw:wantedA o all tm=some true) (ho:o.op=.call { callee:=.builtin .len,args:=#[X],argTypes:=#[ty] }) (hT:C.ty ty=some ⟨.slice et,a1,a2,zz⟩) (hX:evalO tm X=h) (hd:o.dst=some d)
  (k:AOps C I draw all l ⟨upd tm d (.int .i64 (ys.length:Nat)),upd os d false,s⟩ Q):AOps C I draw all (o::l) ⟨tm,os,s⟩ Q:=by
 obtain ⟨L,hL,hP⟩:=hG.get hj
 obtain ⟨A,B,D,_,h2,_⟩:=hS L hP
 refine .op hw (by unfold callee?; rw[ho]) (f':=⟨upd tm d (.int .i64 (ys.length:Nat)),upd os d false,s⟩) ?_ k
 rcases h2 with ⟨z,rfl,_,rfl,_⟩ | ⟨b,cs,ow,L0,rfl,_⟩
 ·simp[opF,moveOp,cutM,cutV,Option.map_none,pureOp,ho,hT,hX,Fr.put,hd]
 ·simp[opF,moveOp,cutM,cutV,Option.map_none,pureOp,ho,hT,hX,Fr.put,hd]

theorem AOps.ldO {α:Type} {e:OT α} {h:AV} {k:KT} {ys:List α} {P':List α→List BX→Prop} {i:Int} {y:α} {d ty b a q n:Nat} {X:Operand} {ti:TI} (hH:HS ex kp s0 s (E++Ls.flatten)) (hG:AllG G Ls) (hj:G[j]?=some P) (hS:Sub P e h k ys P') (hx:ix ys i=some y) (hb:h=.ms e.ag e.sz b 0 n)
  (hw:wantedA o all tm=some true) (ho:o.op=.load ty X) (hT:C.ty ty=some ti) (hX:evalO tm X=.ptr b a) (ha:a=0+i.toNat*e.sz+q) (h0:0<ti.size) (hq:q+ti.size≤e.sz) (hm:I.mv.contains d=false) (hd:o.dst=some d)
  (kk:∀ c B v,e.own (k.at i.toNat) y c B→part ti c q=some v→AOps C I draw all l ⟨upd tm d v,upd os d false,s⟩ Q) (hv:∀ c B,e.own (k.at i.toNat) y c B→∃ v,part ti c q=some v) (him:I.im.contains d=false:=by rfl):AOps C I draw all (o::l) ⟨tm,os,s⟩ Q:=by
 obtain ⟨U,W,b',cs,ow,c,B,h1,h2,h3,h4,h5,_⟩:=own_at (E:=E) hG hj hS hx
 rw[hb] at h2
 simp only[AV.ms.injEq,true_and] at h2
 obtain ⟨rfl,_⟩:=h2
 obtain ⟨v,hpv⟩:=hv c B h3
 rw[h1] at hH
 have hbx:=(hH.bx ⟨some b,cs,ow⟩ (by simp) b rfl).2.2.1
 refine .op hw (by unfold callee?; rw[ho]) (f':=⟨upd tm d v,upd os d false,s⟩) ?_ (kk c B v h3 hpv)
 have hp:part ti cs a=some v:=by
  rw[ha,Nat.zero_add,part_in h5 h4 h0 hq]; exact hpv
 have hmv:d∉I.mv:=by simpa using hm
 simp[opF,moveOp,cutM,cutV,Option.map_none,pureOp,makeOp,memOp,ho,hT,hX,imH_of (o:=o) (by rw[hd]; exact him) hbx,hp,hmv,Fr.put,hd]

theorem HS.setMid {U W:List BX} {b:Nat} {cs cs':List AV} {ow ow':Nat→Bool} (h:HS ex kp s0 s (U++⟨some b,cs,ow⟩::W)):HS ex kp s0 (s.setBox b cs' ow') (U++⟨some b,cs',ow'⟩::W):=by
 have:=h.set (i:=U.length) (x:=⟨some b,cs,ow⟩) (by simp) rfl cs' ow'
 simpa using this

theorem HS.lob (h:HS ex kp s0 s (E++Ls.flatten)) (hl:LoOK ex kp s0) {x:BX} (hx:x∈E++Ls.flatten) {b:Nat} (hb:x.b=some b):s.ro≤b∧s.lo≤b:=by
 have h1:=h.bx x hx b hb
 have h2:=h.lol
 have h3:=h.wf
 rw[h.ro,h.lo]
 rcases h1.1 with h4 | h4
 ·exact ⟨Nat.le_trans h3 h4,by split<;>omega⟩
 ·exact ⟨(h.xl b h4).1,hl b h4⟩

theorem OS.own {α:Type} {e:OT α} {h:AV} {k:KT} {xs:List α} {L:List BX} (hO:OS e h k xs L):(oSl e).own (fun ρ=>match ρ with | []=>h | a::ρ=>k (a::ρ)) xs [h] L:=by
 refine ⟨rfl,?_⟩
 rcases hO with h | ⟨b,cs,ow,L0,rfl,rfl,hl⟩
 ·exact .inl h
 ·exact .inr ⟨b,cs,ow,L0,rfl,rfl,hl.congr (fun j _ _=>rfl)⟩


theorem HS.pushG (hH:HS ex kp s0 s (E++Ls.flatten)) (cs:List AV):HS ex kp s0 (s.push cs) (E++([⟨some s.n,cs,fun _=>false⟩]::Ls).flatten):=by
 refine (hH.push cs).perm ?_
 simp only[List.flatten_cons,List.singleton_append]
 exact (List.perm_middle).symm

theorem AOps.appG {α:Type} {e:OT α} {h:AV} {k:KT} {xs ys zs:List α} {d:Nat} {x y:Operand} {st yt et:Nat} {T ei:TI} {z':Nat} {f':Bool} {e' ds:List AV} {M:List BX} {G1:List (List BX→Prop)} {Ls1:List (List BX)} (hH:HS ex kp s0 s ((E++Ls1.flatten)++M)) (hG:AllG G1 Ls1) (hj:G1[j]?=some (OS e h k xs))
  (hw:wantedA o all tm=some true) (ho:o.op=.call { callee:=.builtin .append,args:=#[x,y],argTypes:=#[st,yt] }) (hT:C.ty st=some T) (hTu:T.u=.slice et) (hE:C.ty et=some ei) (hX:evalO tm x=h) (hY:evalO tm y=.sl z' f' e') (hs:appSrc C ei yt (.sl z' f' e')=some e')
  (hei:0<ei.size∧ei.bytes≤256∧layable ei.zero=true∧ei.zero.cells.length=ei.size) (hsz:ei.isAgg=e.ag∧ei.size=e.sz) (hdy:I.dy.contains d=true) (hd:o.dst=some d) (hz:app xs ys=some zs) (hfl:flatA e'=ds) (hln:e'.length=ys.length)
  (k2:Nat→KT) (hown:∀ i,OL e (k2 i) i ys ds M)
  (kk:∀ h' k' Ls' s2,h'.one=true→AllG (G1.set j (OS e h' k' zs)) Ls'→HS ex kp s0 s2 (E++Ls'.flatten)→AOps C I draw all l ⟨upd tm d h',upd os d false,s2⟩ Q):AOps C I draw all (o::l) ⟨tm,os,s⟩ Q:=by
 obtain ⟨rfl,hlen⟩:=app_some hz
 obtain ⟨L,hL,hP⟩:=hG.get hj
 obtain ⟨U,W,f1,f2⟩:=flat_mid hL
 obtain ⟨u,a1,b1,zz⟩:=T
 simp only at hTu
 subst hTu
 have hdm:d∈I.dy:=by simpa using hdy
 rcases hP with ⟨z,rfl,hz0,rfl,rfl⟩ | ⟨b,cs,ow,L0,rfl,rfl,hol⟩
 ·-- the first elements
  by_cases hne':e'=[]
  ·subst hne'
   have hy0:ys=[]:=List.eq_nil_of_length_eq_zero (by rw[← hln]; rfl)
   subst hy0
   have hM:M=[]:=by
    have:=hown 0
    cases this; rfl
   subst hM
   rw[List.append_nil] at hH
   have hcond:(z=ei.size∨z=0∧([]:List AV)=[]):=by
    rcases hz0 with h | h
    ·exact .inl (by rw[hsz.2]; exact h)
    ·exact .inr ⟨h,rfl⟩
   refine .op hw (by unfold callee?; rw[ho]) (f':=⟨upd tm d (.sl ei.size true []),upd os d false,s⟩) ?_ (kk _ k (Ls1.set j []) s rfl (hG.set j (.inl ⟨_,rfl,.inl hsz.2,rfl,rfl⟩)) (by rw[f2,← f1]; exact hH))
   unfold opF
   simp[moveOp,cutM,cutV,Option.map_none,pureOp,makeOp,memOp,ho,hT,hE,hX,hY,hs,mayApp,hei.1,hei.2.1,hei.2.2.1,hei.2.2.2,hd,hdm,isFull,Fr.put]
   rcases hcond with h | h
   ·exact fun hn=>absurd h hn
   ·exact fun _=>h.1
  have hp:=(hH.push ds).perm (L':=(E++(U++(⟨some s.n,ds,fun _=>false⟩::M)++W))) (by
   rw[f1]
   simp only[List.append_nil,List.append_assoc,List.cons_append]
   have e1:(E++(U++(⟨some s.n,ds,fun _=>false⟩::(M++W))))=(E++U)++(⟨some s.n,ds,fun _=>false⟩::(M++W)):=by simp
   have e2:(⟨some s.n,ds,fun _=>false⟩::(E++(U++(W++M))):List BX)=⟨some s.n,ds,fun _=>false⟩::((E++U)++(W++M)):=by simp
   rw[e1,e2]
   refine List.Perm.trans ?_ List.perm_middle.symm
   exact List.Perm.cons _ (List.Perm.append_left _ List.perm_append_comm))
  rw[← f2] at hp
  refine .op hw (by unfold callee?; rw[ho]) (f':=⟨upd tm d (.ms ei.isAgg ei.size s.n 0 (0+e'.length)),upd os d false,s.push ds⟩) ?_ (kk _ (k2 0) _ _ rfl (hG.set j (.inr ⟨s.n,ds,_,M,?_,rfl,hown 0⟩)) hp)
  ·have hcond:(z=ei.size∨z=0∧([]:List AV)=[]):=by
    rcases hz0 with h | h
    ·exact .inl (by rw[hsz.2]; exact h)
    ·exact .inr ⟨h,rfl⟩
   have h5:e'.length≤LIM:=by rw[hln]; simpa using hlen
   have hfl0:flatA ([]++e')=ds:=by simpa using hfl
   unfold opF
   simp[moveOp,cutM,cutV,Option.map_none,pureOp,makeOp,memOp,ho,hT,hE,hX,hY,hs,mayApp,hei.1,hei.2.1,hei.2.2.1,hei.2.2.2,hd,hdm,isFull,hne',Fr.put]
   exact ⟨by simpa using hcond,h5,by rw[hfl]⟩
  ·rw[hsz.1,hsz.2]; simp[hln]
 ·-- more of them
  have hcsl:=hol.len (i:=0) (cs:=cs)
  have hap:OL e (fun ρ=>match ρ with | []=>.undef | a::ρ=>if a<xs.length then k (a::ρ) else k2 xs.length (a::ρ)) 0 (xs++ys) (cs++ds) (L0++M):=by
   refine OL.app (hol.congr (fun a _ h2=>?_)) ?_
   ·funext ρ; simp[KT.at,show a<xs.length by omega]
   ·rw[Nat.zero_add]
    refine (hown xs.length).congr (fun a h1 _=>?_)
    funext ρ; simp[KT.at,show ¬ a<xs.length by omega]
  have hH1:HS ex kp s0 s ((E++U)++⟨some b,cs,ow⟩::(L0++W++M)):=by
   rw[f1] at hH
   simpa using hH
  have hx:((E++U)++⟨some b,cs,ow⟩::(L0++W++M))[(E++U).length]?=some ⟨some b,cs,ow⟩:=by simp
  have hbx:=(hH1.bx ⟨some b,cs,ow⟩ (by simp) b rfl)
  have hro:s.ro≤b:=by
   rw[hH1.ro]
   rcases hbx.1 with h4 | h4
   ·exact Nat.le_trans hH1.wf h4
   ·exact (hH1.xl b h4).1
  have hp:=(hH1.re (s1:=s.kill b) hx rfl rfl rfl rfl (fun c=>by
   by_cases hcb:c=b
   ·subst hcb; exact .inr rfl
   ·exact .inl (by simp[St.kill,upd,hcb])) (cs.take (xs.length*e.sz)++ds)).perm (L':=(E++(U++(⟨some s.n,cs++ds,fun _=>false⟩::(L0++M))++W))) (by
    rw[List.take_of_length_le (by omega)]
    simp only[List.length_append,List.append_assoc,List.cons_append]
    rw[show (E++(U++⟨some b,cs,ow⟩::(L0++(W++M))))=(E++U)++⟨some b,cs,ow⟩::(L0++(W++M)) by simp]
    rw[show E.length+U.length=(E++U).length by simp]
    simp only[List.set_append_right,Nat.le_refl,Nat.sub_self,List.set_cons_zero]
    rw[show (E++(U++⟨some s.n,cs++ds,fun _=>false⟩::(L0++(M++W))))=(E++U)++⟨some s.n,cs++ds,fun _=>false⟩::(L0++(M++W)) by simp]
    exact List.Perm.append_left _ (List.Perm.cons _ (List.Perm.append_left _ List.perm_append_comm)))
  rw[← f2] at hp
  refine .op hw (by unfold callee?; rw[ho]) (f':=⟨upd tm d (.ms ei.isAgg ei.size s.n 0 (xs.length+e'.length)),upd os d false,(s.kill b).push (cs.take (xs.length*e.sz)++ds)⟩) ?_ (kk _ _ _ _ rfl (hG.set j (.inr ⟨s.n,cs++ds,_,L0++M,?_,rfl,hap⟩)) hp)
  ·have hrun:=appM_run (C:=C) (f:=⟨tm,os,s⟩) (o:=o) (ei:=ei) (yt:=yt) (ag:=e.ag) (sz:=e.sz) (b:=b) (n:=xs.length) (ys:=e') (cs:=cs) (y:=.sl z' f' e') hs hbx.2.2.1 hsz.2.symm hsz.1.symm (by omega) hro hei (by have h6:=hlen; rw[hln]; omega)
   have hX':evalO tm x=.ms e.ag e.sz b 0 xs.length:=hX
   have hmay:mayApp ⟨tm,os,s⟩ x (.ms e.ag e.sz b 0 xs.length)=none:=by cases x<;>rfl
   unfold opF
   simp only[moveOp,cutM,cutV,Option.map_none,pureOp,makeOp,memOp,ho,hT,hE]
   simp only[hX',hmay,hY,hd,Option.any_some,hdy,if_true]
   rw[hrun,hfl,hd]
   simp[Fr.put,hsz.1,hsz.2]
  ·rw[hsz.1,hsz.2]; simp[hln]
end
end Ae
namespace Ae
open Go

section
variable {ex ex0:List Nat} {kp kp0:Bool} {s0 s s':St} {E Ef:List BX} {Ls Lf:List (List BX)} {G Gf:List (List BX→Prop)}

theorem HS.enterK {A F:List BX} (h:HS ex0 kp0 s0 s (A++F)):HS (F.filterMap BX.b) true s s F where
 n:=Nat.le_refl _
 ro:=rfl
 lo:=rfl
 lol:=h.wf'.lo
 wf:=h.wf'.ro
 xl:=fun b hb=>by
  obtain ⟨x,hx,hxb⟩:=List.mem_filterMap.1 hb
  have h1:=h.bx x (List.mem_append_right _ hx) b hxb
  refine ⟨?_,h1.2.1⟩
  rw[h.ro]
  rcases h1.1 with h2 | h2
  ·exact Nat.le_trans h.wf h2
  ·exact (h.xl b h2).1
 old:=fun _ _ _=>⟨rfl,rfl⟩
 bx:=fun x hx b hb=>by
  have h1:=h.bx x (List.mem_append_right _ hx) b hb
  exact ⟨.inr (List.mem_filterMap.2 ⟨x,hx,hb⟩),h1.2.1,h1.2.2.1,h1.2.2.2⟩
 nd:=by
  have:=h.nd
  rw[List.filterMap_append,List.nodup_append] at this
  exact this.2.1

theorem HS.enterLo {A F:List BX} (h:HS ex0 kp0 s0 s (A++F)) (hl:LoOK ex0 kp0 s0):LoOK (F.filterMap BX.b) true s:=by
 intro b hb
 obtain ⟨x,hx,hxb⟩:=List.mem_filterMap.1 hb
 have:=HS.lob (Ls:=[F]) (E:=A) (by simpa using h) hl (x:=x) (by simp[hx]) hxb
 simpa using this.2

theorem HS.joinK {A F F':List BX} (h:HS ex0 kp0 s0 s (A++F)) (k:HS (F.filterMap BX.b) true s s' F'):HS ex0 kp0 s0 s' (A++F') where
 n:=Nat.le_trans h.n k.n
 ro:=k.ro.trans h.ro
 lo:=by
  have:=k.lo
  simp only[if_true] at this
  rw[this]; exact h.lo
 lol:=h.lol
 wf:=h.wf
 xl:=h.xl
 old:=fun b hb hx=>by
  have h2:=h.old b hb hx
  have h1:=k.old b (Nat.lt_of_lt_of_le hb h.n) (fun hm=>by
   obtain ⟨x,hx1,hxb⟩:=List.mem_filterMap.1 hm
   rcases (h.bx x (List.mem_append_right _ hx1) b hxb).1 with h3 | h3
   ·omega
   ·exact hx h3)
  exact ⟨h1.1.trans h2.1,h1.2.trans h2.2⟩
 bx:=fun x hx b hb=>by
  rcases List.mem_append.1 hx with hx | hx
  ·have h1:=h.bx x (List.mem_append_left _ hx) b hb
   have h2:=k.old b h1.2.1 (fun hm=>by
    have:=h.nd
    rw[List.filterMap_append,List.nodup_append] at this
    exact this.2.2 b (List.mem_filterMap.2 ⟨x,hx,hb⟩) b hm rfl)
   exact ⟨h1.1,Nat.lt_of_lt_of_le h1.2.1 k.n,h2.1.trans h1.2.2.1,h2.2.trans h1.2.2.2⟩
  ·have h1:=k.bx x hx b hb
   refine ⟨?_,h1.2⟩
   rcases h1.1 with h2 | h2
   ·exact .inl (Nat.le_trans h.n h2)
   ·obtain ⟨y,hy,hyb⟩:=List.mem_filterMap.1 h2
    exact (h.bx y (List.mem_append_right _ hy) b hyb).1
 nd:=by
  have hn:=h.nd
  rw[List.filterMap_append,List.nodup_append] at hn ⊢
  refine ⟨hn.1,k.nd,fun b hb c hc e=>?_⟩
  subst e
  obtain ⟨x,hx,hxb⟩:=List.mem_filterMap.1 hb
  obtain ⟨y,hy,hyb⟩:=List.mem_filterMap.1 hc
  have h1:=(h.bx x (List.mem_append_left _ hx) b hxb).2.1
  rcases (k.bx y hy b hyb).1 with h2 | h2
  ·omega
  ·exact hn.2.2 b hb b h2 rfl


open Classical in
noncomputable def ctB (a:BX) (l:List BX):Nat:=l.count a
open Classical in
noncomputable def oneBX (a x:BX):Nat:=if x=a then 1 else 0
open Classical in
theorem ctB_nil (a:BX):ctB a []=0:=rfl
open Classical in
theorem ctB_cons (a x:BX) (l:List BX):ctB a (x::l)=oneBX a x+ctB a l:=by
 classical
 unfold ctB oneBX
 rw[List.count_cons]
 by_cases h:x=a<;>simp[h]<;>omega
open Classical in
theorem ctB_app (a:BX) (l m:List BX):ctB a (l++m)=ctB a l+ctB a m:=by unfold ctB; rw[List.count_append]
open Classical in
theorem perm_ct {l m:List BX} (h:∀ a,ctB a l=ctB a m):l.Perm m:=List.perm_iff_count.2 h
open Classical in
theorem ctB_set {l:List BX} {i:Nat} {x y:BX} (hx:l[i]?=some x) (a:BX):oneBX a y+ctB a l=oneBX a x+ctB a (l.set i y):=by
 induction l generalizing i with
 | nil=>simp at hx
 | cons b l ih =>
  cases i with
  | zero =>
   simp at hx
   subst hx
   simp only[List.set_cons_zero,ctB_cons]; omega
  | succ i =>
   simp at hx
   have:=ih hx
   simp only[List.set_cons_succ,ctB_cons]; omega

theorem HS.nonR {x:BX} {L:List BX} (h:HS ex kp s0 s (x::L)):HS ex kp s0 s L :=
 HS.less (A:=[]) (B:=[x]) (C:=L) (by simpa using h)

theorem HS.pop0 (hH:HS ex kp s0 s (E++Ls.flatten)):HS ex kp s0 s ((E++Ls.flatten)++([]++([]:List (List BX)).flatten)):=by simpa using hH
theorem HS.push0 (hH:HS ex kp s0 s ((E++Ls.flatten)++([]++([]:List (List BX)).flatten))):HS ex kp s0 s (E++Ls.flatten):=by simpa using hH

theorem HS.popE (hH:HS ex kp s0 s ((E++Ls.flatten)++(Ef++Lf.flatten))) {i:Nat} {x:BX} (hx:E[i]?=some x):HS ex kp s0 s ((E.set i noBX++Ls.flatten)++((Ef++[x])++Lf.flatten)):=by
 refine (HS.non hH [] (fun _=>false)).perm (perm_ct fun a=>?_)
 have:=ctB_set (y:=noBX) hx a
 simp only[ctB_app,ctB_cons,ctB_nil]
 simp only[noBX] at this ⊢
 omega
theorem HS.pushE {x:BX} (hH:HS ex kp s0 s ((E++Ls.flatten)++((x::Ef)++Lf.flatten))) {i:Nat} (hx:E[i]?=some noBX):HS ex kp s0 s ((E.set i x++Ls.flatten)++(Ef++Lf.flatten)):=by
 refine HS.nonR (x:=noBX) (hH.perm (perm_ct fun a=>?_))
 have:=ctB_set (y:=x) hx a
 simp only[ctB_app,ctB_cons,ctB_nil]
 omega
theorem HS.pushNE {x:BX} (hH:HS ex kp s0 s ((E++Ls.flatten)++((x::Ef)++Lf.flatten))):HS ex kp s0 s (((x::E)++Ls.flatten)++(Ef++Lf.flatten)):=by
 refine hH.perm (perm_ct fun a=>?_)
 simp only[ctB_app,ctB_cons,ctB_nil,List.cons_append]
 omega

theorem ctB_pop {L:List BX} {j:Nat} (h:Ls[j]?=some L) (a:BX):ctB a Ls.flatten=ctB a L+ctB a (Ls.set j []).flatten:=by
 obtain ⟨U,W,f1,f2⟩:=flat_mid h
 rw[f1,f2]
 simp only[ctB_app,ctB_nil]; omega
theorem ctB_put {L:List BX} {j:Nat} (h:Ls[j]?=some []) (a:BX):ctB a (Ls.set j L).flatten=ctB a L+ctB a Ls.flatten:=by
 obtain ⟨U,W,f1,f2⟩:=flat_mid h
 rw[f1,f2]
 simp only[ctB_app,ctB_nil]; omega

def Non:List BX→Prop:=fun L=>L=[]

theorem HS.popG (hH:HS ex kp s0 s ((E++Ls.flatten)++(Ef++Lf.flatten))) (hG:AllG G Ls) (hF:AllG Gf Lf) {j:Nat} {P:List BX→Prop} (hj:G[j]?=some P) :
  ∃ Ls1 Lf1,AllG (G.set j Non) Ls1∧AllG (Gf++[P]) Lf1∧HS ex kp s0 s ((E++Ls1.flatten)++(Ef++Lf1.flatten)):=by
 obtain ⟨L,hL,hP⟩:=hG.get hj
 refine ⟨Ls.set j [],Lf++[L],hG.set j rfl,hF.app (.cons hP .nil),hH.perm (perm_ct fun a=>?_)⟩
 have:=ctB_pop hL a
 simp only[ctB_app,List.flatten_append,List.flatten_cons,List.flatten_nil,List.append_nil]
 omega
theorem HS.putG {P:List BX→Prop} (hH:HS ex kp s0 s ((E++Ls.flatten)++(Ef++Lf.flatten))) (hG:AllG G Ls) (hF:AllG (P::Gf) Lf) {j:Nat} (hj:G[j]?=some Non) :
  ∃ Ls1 Lf1,AllG (G.set j P) Ls1∧AllG Gf Lf1∧HS ex kp s0 s ((E++Ls1.flatten)++(Ef++Lf1.flatten)):=by
 obtain ⟨L,hL,hP⟩:=hG.get hj
 have hP':L=[]:=hP
 subst hP'
 cases hF with
 | cons h t =>
  rename_i L0 Lf0
  refine ⟨Ls.set j L0,Lf0,hG.set j h,t,hH.perm (perm_ct fun a=>?_)⟩
  have:=ctB_put (L:=L0) hL a
  simp only[ctB_app,List.flatten_cons]
  omega
theorem HS.pushN {P:List BX→Prop} (hH:HS ex kp s0 s ((E++Ls.flatten)++(Ef++Lf.flatten))) (hG:AllG G Ls) (hF:AllG (P::Gf) Lf) :
  ∃ Ls1 Lf1,AllG (P::G) Ls1∧AllG Gf Lf1∧HS ex kp s0 s ((E++Ls1.flatten)++(Ef++Lf1.flatten)):=by
 cases hF with
 | cons h t =>
  rename_i L0 Lf0
  refine ⟨L0::Ls,Lf0,.cons h hG,t,hH.perm (perm_ct fun a=>?_)⟩
  simp only[ctB_app,List.flatten_cons]
  omega


theorem HS.has (hH:HS ex kp s0 s (E++Ls.flatten)) {j:Nat} {L:List BX} (hj:Ls[j]?=some L) {n:Nat} (hn:n=0∨(n=s0.n∧ex=[])):Has s n L:=by
 intro x hx b hb
 obtain ⟨U,W,f1,_⟩:=flat_mid hj
 have h1:=hH.bx x (by rw[f1]; simp[hx]) b hb
 refine ⟨?_,h1.2.2.1⟩
 rcases hn with rfl | ⟨rfl,rfl⟩
 ·exact Nat.zero_le _
 ·rcases h1.1 with h | h
  ·exact h
  ·cases h
theorem HS.finO {α:Type} {e:OT α} {h:AV} {k:KT} {xs:List α} (hH:HS ex kp s0 s (E++Ls.flatten)) (hG:AllG G Ls) {j:Nat} (hj:G[j]?=some (OS e h k xs)) {n:Nat} (hn:n=0∨(n=s0.n∧ex=[])):Fin s n (e.dep+1) (rL e.rel e.sz xs) h:=by
 obtain ⟨L,hL,hP⟩:=hG.get hj
 exact hP.fin (hH.has hL hn)

theorem fin_up {s:St} {n:Nat}:∀ {k m:Nat} (_:k≤m) {v v':AV},fin s n k v=some v'→fin s n m v=some v':=by
 intro k
 induction k with
 | zero=>intro m _ v v' h; simp[fin] at h
 | succ k ih =>
  intro m hm v v' h
  obtain ⟨m,rfl⟩:∃ q,m=q+1:=⟨m - 1,by omega⟩
  have hm':k≤m:=by omega
  have key:∀ (l l':List AV),l.mapM (fin s n k)=some l'→l.mapM (fin s n m)=some l':=by
   intro l
   induction l with
   | nil=>intro l' h; simpa using h
   | cons a l ihl =>
    intro l' h
    rw[List.mapM_cons] at h⊢
    cases ha:fin s n k a with
    | none=>simp[ha] at h
    | some b =>
     cases hl:l.mapM (fin s n k) with
     | none=>simp[ha,hl] at h
     | some bs=>rw[ih hm' ha,ihl _ hl]; simpa[ha,hl] using h
  have mp:∀ {l:List AV} {f:List AV→AV} {v':AV},(l.mapM (fin s n k)).map f=some v'→(l.mapM (fin s n m)).map f=some v':=by
   intro l f v' h
   rw[Option.map_eq_some_iff] at h⊢
   obtain ⟨x,hx,hy⟩:=h
   exact ⟨x,key _ _ hx,hy⟩
  unfold fin at h⊢
  split at h
  ·rename_i hc; rw[if_pos hc]; exact h
  ·rename_i hc
   rw[if_neg hc]
   cases v with
   | ms ag sz b off len =>
    simp only at h⊢
    cases hb:s.h b with
    | none=>rw[hb] at h; cases h
    | some cs =>
     rw[hb] at h
     simp only at h⊢
     split at h
     ·rename_i hcc; rw[if_pos hcc]; exact mp h
     ·cases h
   | ptr b off =>
    simp only at h⊢
    cases hb:s.h b with
    | none=>rw[hb] at h; cases h
    | some cs =>
     rw[hb] at h
     simp only at h⊢
     exact mp h
   | _=>first | exact mp h | cases h
theorem Fin.up {s:St} {n k m:Nat} (hm:k≤m) {p:AV→Prop} {v:AV} (h:Fin s n k p v):Fin s n m p v:=by
 obtain ⟨h1,v',h2,h3⟩:=h
 exact ⟨h1,v',fin_up hm h2,h3⟩

theorem WF.blind {s:St}:WF s.blind:=⟨Nat.le_refl _,Nat.le_refl _⟩

variable {C:Cfg} {I:FI} {tm:Nat→AV} {os:Nat→Bool} {Q:Fr→Prop} {all:Array Oper} {l:List Oper} {o:Oper} {draw:Bool}

theorem AOps.lendP {d g:Nat} {args:List AV} {J:FI} {ps:List (AV→Prop)} {p:AV→Prop} (hw:wantedA o all tm=some true) (hc:callee? o tm=some (g,args)) (hd:o.dst=some d) (h0:C.ext g=none) (h1:C.fn g=some J) (h2:J.rd=1) (h3:J.keep=false)
  (hA:AllF s 0 FINK ps args) (h:∀ args',Cs ps args'→ACallN C g args' s.blind fun v _ s1=>p v∧s1=s.blind) (hf:∀ v n,p v→v.flatB n=true)
  (k:∀ v,p v→AOps C I false all l ⟨upd tm d v,upd os d false,s⟩ Q) (ha1:alias I o=false:=by rfl):AOps C I false all (o::l) ⟨tm,os,s⟩ Q:=by
 obtain ⟨_,args',ha,hcs⟩:=hA.fin
 refine .callR hw hc hd ?_ ha1
 refine ACallN.lend h0 h1 h2 ha ((h args' hcs).mono fun v ow s1 hp=>⟨hf v _ hp.1,?_⟩)
 rw[if_neg (by rw[h3]; simp)]
 exact k v hp.1
theorem AOps.lendD {d g:Nat} {args:List AV} {J:FI} {ps:List (AV→Prop)} {p:AV→Prop} (hw:wantedA o all tm=some true) (hc:callee? o tm=some (g,args)) (hd:o.dst=some d) (h0:C.ext g=none) (h1:C.fn g=some J) (h2:J.rd=1) (h3:J.keep=false)
  (hA:AllF s.still 0 FINK ps args) (h:∀ args',Cs ps args'→ACallN C g args' s.still.blind fun v _ s1=>p v∧s1=s.still.blind) (hf:∀ v n,p v→v.flatB n=true) (hp:∀ v,p v→v.pureB s.n=true)
  (k:∀ v,p v→AOps C I true all l ⟨upd tm d v,upd os d false,s⟩ Q) (ha1:alias I o=false:=by rfl) (he1:eff I o=false:=by rfl):AOps C I true all (o::l) ⟨tm,os,s⟩ Q:=by
 obtain ⟨_,args',ha,hcs⟩:=hA.fin
 refine .callDR hw hc hd ?_ ha1 he1
 refine ACallN.lend h0 h1 h2 ha ((h args' hcs).mono fun v ow s1 hq=>⟨hf v _ hq.1,hp v hq.1,?_⟩)
 exact k v hq.1
end
end Ae
namespace Ae
open Go

theorem one_lay {v:AV} (h:v.one=true):layable v=true:=by cases v<;>first | rfl | simp[AV.one] at h
theorem one_len {v:AV} (h:v.one=true):v.cells.length=1:=by rw[AV.cells_one h]; rfl

theorem AllG.imp {G:List (List BX→Prop)} {Ls:List (List BX)} (hG:AllG G Ls) (j:Nat) {P P':List BX→Prop} (hj:G[j]?=some P) (h:∀ L,P L→P' L):AllG (G.set j P') Ls:=by
 obtain ⟨L,hL,hP⟩:=hG.get hj
 have:=hG.set j (h L hP)
 have e:Ls.set j L=Ls:=by
  apply List.ext_getElem?
  intro i
  rw[List.getElem?_set]
  split
  ·rename_i e; subst e
   split
   ·exact hL.symm
   ·rename_i hlt; rw[List.getElem?_eq_none (by omega)]
  ·rfl
 rwa [e] at this

section
variable {ex:List Nat} {kp:Bool} {s0 s:St} {E:List BX} {Ls:List (List BX)} {G:List (List BX→Prop)}

theorem HS.g0 (h:HS ex kp s0 s E):HS ex kp s0 s (E++([]:List (List BX)).flatten):=by simpa using h
theorem HS.addNil (hH:HS ex kp s0 s (E++Ls.flatten)):HS ex kp s0 s (E++([]::Ls).flatten):=by simpa using hH

def selE:List (Option Nat)→List BX→List BX
 | [],_=>[]
 | some i::ps,E=>E.getD i noBX::selE ps (E.set i noBX)
 | none::ps,E=>noBX::selE ps E
def selP:List (Option Nat)→List (List BX→Prop)→List (List BX→Prop)
 | [],_=>[]
 | some j::qs,G=>G.getD j Non::selP qs (G.set j Non)
 | none::qs,G=>Non::selP qs G

theorem HS.selE1:∀ (ps:List (Option Nat)) {E Ef:List BX} {Lf:List (List BX)},HS ex kp s0 s ((E++Ls.flatten)++(Ef++Lf.flatten))→∃ E',HS ex kp s0 s ((E'++Ls.flatten)++((Ef++selE ps E)++Lf.flatten))
 | [],E,Ef,Lf,h=>⟨E,by simpa[selE] using h⟩
 | some i::ps,E,Ef,Lf,h=>by
  cases hi:E[i]? with
  | none =>
   have h1:HS ex kp s0 s ((E++Ls.flatten)++((Ef++[noBX])++Lf.flatten)):=(HS.non h [] (fun _=>false)).perm (perm_ct fun a=>by simp only[ctB_app,ctB_cons,ctB_nil,noBX]; omega)
   have e:E.set i noBX=E:=List.set_eq_of_length_le (by simpa using hi)
   obtain ⟨E',h2⟩:=HS.selE1 ps h1
   refine ⟨E',?_⟩
   simpa[selE,List.getD_eq_getElem?_getD,hi,e] using h2
  | some x =>
   obtain ⟨E',h2⟩:=HS.selE1 ps (h.popE hi)
   refine ⟨E',?_⟩
   simpa[selE,List.getD_eq_getElem?_getD,hi] using h2
 | none::ps,E,Ef,Lf,h=>by
  have h1:HS ex kp s0 s ((E++Ls.flatten)++((Ef++[noBX])++Lf.flatten)):=(HS.non h [] (fun _=>false)).perm (perm_ct fun a=>by simp only[ctB_app,ctB_cons,ctB_nil,noBX]; omega)
  obtain ⟨E',h2⟩:=HS.selE1 ps h1
  exact ⟨E',by simpa[selE] using h2⟩

theorem HS.selG1:∀ (qs:List (Option Nat)) {G Gf:List (List BX→Prop)} {Ls Lf:List (List BX)} {Ef:List BX},HS ex kp s0 s ((E++Ls.flatten)++(Ef++Lf.flatten))→AllG G Ls→AllG Gf Lf →
  ∃ (Ls' Lf':List (List BX)),AllG (Gf++selP qs G) Lf'∧HS ex kp s0 s ((E++Ls'.flatten)++(Ef++Lf'.flatten))
 | [],G,Gf,Ls,Lf,Ef,h,hG,hF=>⟨Ls,Lf,by simpa[selP] using hF,h⟩
 | some j::qs,G,Gf,Ls,Lf,Ef,h,hG,hF=>by
  cases hj:G[j]? with
  | none =>
   have h1:HS ex kp s0 s ((E++Ls.flatten)++(Ef++(Lf++[[]]).flatten)):=by simpa using h
   have e:G.set j Non=G:=List.set_eq_of_length_le (by simpa using hj)
   obtain ⟨L1,L2,h2,h3⟩:=HS.selG1 qs h1 hG (hF.app (G':=[Non]) (Ls':=[[]]) (.cons rfl .nil))
   exact ⟨L1,L2,by simpa[selP,List.getD_eq_getElem?_getD,hj,e] using h2,h3⟩
  | some P =>
   obtain ⟨L1,L2,h1,h2,h3⟩:=h.popG hG hF hj
   obtain ⟨L3,L4,h4,h5⟩:=HS.selG1 qs h3 h1 h2
   exact ⟨L3,L4,by simpa[selP,List.getD_eq_getElem?_getD,hj] using h4,h5⟩
 | none::qs,G,Gf,Ls,Lf,Ef,h,hG,hF=>by
  have h1:HS ex kp s0 s ((E++Ls.flatten)++(Ef++(Lf++[[]]).flatten)):=by simpa using h
  obtain ⟨L1,L2,h2,h3⟩:=HS.selG1 qs h1 hG (hF.app (G':=[Non]) (Ls':=[[]]) (.cons rfl .nil))
  exact ⟨L1,L2,by simpa[selP] using h2,h3⟩

theorem HS.selEG (hH:HS ex kp s0 s (E++Ls.flatten)) (hG:AllG G Ls) (ps qs:List (Option Nat)):∃ Ls':List (List BX),AllG (selP qs G) Ls'∧HS ex kp s0 s (selE ps E++Ls'.flatten):=by
 obtain ⟨E',h1⟩:=HS.selE1 ps hH.pop0
 obtain ⟨L1,L2,h2,h3⟩:=HS.selG1 qs h1 hG .nil
 refine ⟨L2,by simpa using h2,?_⟩
 have:=HS.less (A:=[]) (B:=E'++L1.flatten) (C:=([]++selE ps E)++L2.flatten) (by simpa using h3)
 simpa using this

variable {C:Cfg} {I:FI} {tm:Nat→AV} {os:Nat→Bool} {Q:Fr→Prop} {all:Array Oper} {l:List Oper} {o:Oper} {draw:Bool}

theorem AOps.stE {ty i b off:Nat} {p X:Operand} {ti:TI} {x:BX} {v:AV} (hH:HS ex kp s0 s (E++Ls.flatten)) (hlo:LoOK ex kp s0) (hi:E[i]?=some x) (hb:x.b=some b) (hw:wantedA o all tm=some true) (ho:o.op=.store ty p X) (hT:C.ty ty=some ti) (hX:evalO tm p=.ptr b off) (hv:evalO tm X=v)
  (hl:layable v=true) (hn:v.cells.length=ti.size) (h0:0<ti.size) (hlen:off+ti.size≤x.cs.length) (hd:o.dst=none)
  (k:∀ ow' s2,(∀ j,(j<off∨off+ti.size≤j)→ow' j=x.ow j)→(ow' off=(v.one&&own1 os X))→HS ex kp s0 s2 (E.set i ⟨some b,over x.cs off v.cells,ow'⟩++Ls.flatten)→AOps C I draw all l ⟨tm,clearO os X,s2⟩ Q) (him:stPd I p=false:=by rfl):AOps C I draw all (o::l) ⟨tm,os,s⟩ Q:=by
 have hi':(E++Ls.flatten)[i]?=some x:=by rw[List.getElem?_append_left (List.getElem?_eq_some_iff.1 hi).1]; exact hi
 obtain ⟨h1,h3,h4⟩:=hH.stX hi' hb
 have h2:=(hH.lob hlo (x:=x) (List.mem_of_getElem? hi') hb).2
 have hset:=hH.set hi' hb (over x.cs off v.cells) (stOw os X v off ti.size (s.ow b))
 rw[List.set_append_left _ _ (List.getElem?_eq_some_iff.1 hi).1] at hset
 refine .op hw (by unfold callee?; rw[ho]) (f':=⟨tm,clearO os X,s.setBox b (over x.cs off v.cells) (stOw os X v off ti.size (s.ow b))⟩) ?_ (k _ _ (fun j hj=>?_) ?_ hset)
 ·unfold opF
  simp[moveOp,cutM,cutV,Option.map_none,pureOp,makeOp,memOp,ho,hT,hX,hv,hl,hn,h0,hd,h1,h2,imS_of him h3,hlen,stOw]
  cases X<;>rfl
 ·unfold stOw
  rw[if_neg (by omega),h4]
 ·unfold stOw
  rw[if_pos (by omega)]
  cases X<;>simp[own1]

theorem OL.leaf {α:Type} {r:α→AV→Prop} {ag:Bool} {sz dep:Nat} {hs:Sh ag sz r} {h1:ag=false→sz=1} {hn:∀ x,Nice dep (r x)} {k:KT}:∀ {ys:List α} {e':List AV},L2 r ys e'→∀ i,OL (oLeaf r ag sz dep hs h1 hn) k i ys (flatA e') []
 | _,_,.nil,i=>.nil
 | _,_,.cons h t,i=>by
  have:=OL.cons (e:=oLeaf r ag sz dep hs h1 hn) (k:=k) (i:=i) (B:=[]) (L:=[]) ⟨⟨_,h,rfl⟩,rfl⟩ (OL.leaf t (i+1))
  simpa[flatA] using this

theorem AOps.appLf {α:Type} {e:OT α} {h:AV} {k:KT} {xs ys zs:List α} {d j:Nat} {x y:Operand} {st yt et:Nat} {T ei:TI} {z':Nat} {f':Bool} {e':List AV} (hH:HS ex kp s0 s (E++Ls.flatten)) (hG:AllG G Ls) (hj:G[j]?=some (OS e h k xs))
  (hw:wantedA o all tm=some true) (ho:o.op=.call { callee:=.builtin .append,args:=#[x,y],argTypes:=#[st,yt] }) (hT:C.ty st=some T) (hTu:T.u=.slice et) (hE:C.ty et=some ei) (hX:evalO tm x=h) (hY:evalO tm y=.sl z' f' e') (hs:appSrc C ei yt (.sl z' f' e')=some e')
  (hei:0<ei.size∧ei.bytes≤256∧layable ei.zero=true∧ei.zero.cells.length=ei.size) (hsz:ei.isAgg=e.ag∧ei.size=e.sz) (hdy:I.dy.contains d=true) (hd:o.dst=some d) (hz:app xs ys=some zs) (hln:e'.length=ys.length)
  (hown:∀ i,OL e (fun _=>.undef) i ys (flatA e') [])
  (kk:∀ h' k' Ls' s2,h'.one=true→AllG (G.set j (OS e h' k' zs)) Ls'→HS ex kp s0 s2 (E++Ls'.flatten)→AOps C I draw all l ⟨upd tm d h',upd os d false,s2⟩ Q):AOps C I draw all (o::l) ⟨tm,os,s⟩ Q :=
 .appG (M:=[]) (by simpa using hH) hG hj hw ho hT hTu hE hX hY hs hei hsz hdy hd hz rfl hln (fun _=>fun _=>.undef) hown kk

theorem HS.finS {β:Type} {P:List BX→Prop} {e:OT β} {h:AV} {k:KT} {ys:List β} {P':List β→List BX→Prop} (hH:HS ex kp s0 s (E++Ls.flatten)) (hG:AllG G Ls) {j:Nat} (hj:G[j]?=some P) (hS:Sub P e h k ys P') {n:Nat} (hn:n=0∨(n=s0.n∧ex=[])):Fin s n (e.dep+1) (rL e.rel e.sz ys) h:=by
 obtain ⟨L,hL,hP⟩:=hG.get hj
 obtain ⟨A,B,D,h1,h2,_⟩:=hS L hP
 exact h2.fin (by have:=hH.has hL hn; rw[h1] at this; exact this.app.1.app.2)
theorem HS.finSt {β:Type} {P:List BX→Prop} {e:OT β} {h:AV} {k:KT} {ys:List β} {P':List β→List BX→Prop} (hH:HS ex kp s0 s (E++Ls.flatten)) (hG:AllG G Ls) {j:Nat} (hj:G[j]?=some P) (hS:Sub P e h k ys P'):Fin s.still 0 (e.dep+1) (rL e.rel e.sz ys) h:=by
 obtain ⟨L,hL,hP⟩:=hG.get hj
 obtain ⟨A,B,D,h1,h2,_⟩:=hS L hP
 exact h2.fin (by have:=hH.has hL (.inl rfl); rw[h1] at this; exact this.app.1.app.2)
end
end Ae
namespace Ae
open Go
section
variable {ex:List Nat} {kp:Bool} {s0 s:St} {E:List BX} {Ls:List (List BX)} {G:List (List BX→Prop)}
variable {C:Cfg} {I:FI} {tm:Nat→AV} {os:Nat→Bool} {Q:Fr→Prop} {all:Array Oper} {l:List Oper} {o:Oper} {draw:Bool}
end
end Ae
namespace Ae
open Go
theorem AOps.boxR {C:Cfg} {I:FI} {tm:Nat→AV} {os:Nat→Bool} {s:St} {Q:Fr→Prop} {all:Array Oper} {l:List Oper} {o:Oper} {draw:Bool} {d t:Nat} {X:Operand} {ti:TI} {v:AV} (hw:wantedA o all tm=some true) (ho:o.op=.box t X) (hT:C.ty t=some ti) (hb:lookBk I.bk d=none) (hX:evalO tm X=v) (hl:layable v=true) (hn:v.cells.length=ti.size) (hd:o.dst=some d)
  (k:AOps C I draw all l ⟨upd tm d (.eptr v.cells 0),upd os d false,s⟩ Q):AOps C I draw all (o::l) ⟨tm,os,s⟩ Q:=by
 refine .op hw (by unfold callee?; rw[ho]) (f':=⟨upd tm d (.eptr v.cells 0),upd os d false,s⟩) ?_ k
 simp[opF,moveOp,cutM,cutV,Option.map_none,pureOp,makeOp,ho,hT,hX,hl,hn,Fr.put,hd,hb]
end Ae
namespace Ae
open Go

section
variable {C:Cfg} {I:FI} {t:List Item} {tm:Nat→AV} {os:Nat→Bool} {ex:List Nat} {kp:Bool} {s s0:St} {L:List BX} {Q:Fr→Prop} {all:Array Oper} {l:List Oper} {o:Oper} {draw:Bool}

end
theorem HS.resO {α:Type} {e:OT α} {h:AV} {k:KT} {xs:List α} {ex:List Nat} {kp:Bool} {s0 s:St} {E:List BX} {Ls:List (List BX)} {G:List (List BX→Prop)} (hH:HS ex kp s0 s (E++Ls.flatten)) (hG:AllG G Ls) {j:Nat} (hj:G[j]?=some (OS e h k xs)) (hn:s0.n=0∨(s0.n=s0.n∧ex=[])) (hd:e.dep+1≤FINK) (o:Bool) :
  ∃ v o',(match h with | .sl sz fl els=>(AV.sl sz false els,o||fl) | v=>(v,false))=(v,o')∧∃ v',fin s s0.n FINK v=some v'∧rL e.rel e.sz xs v':=by
 have hf:=Fin.up hd (hH.finO hG hj hn)
 obtain ⟨L,hL,hP⟩:=hG.get hj
 rcases hP with ⟨z,rfl,_⟩ | ⟨b,cs,ow,L0,rfl,_⟩
 ·refine ⟨_,_,rfl,?_⟩
  obtain ⟨_,v',h1,h2⟩:=hf
  refine ⟨v',?_,h2⟩
  rw[← h1]
  simp[Ae.fin,AV.canonB,FINK]
 ·exact ⟨_,_,rfl,hf.2⟩

end Ae
namespace Ae
open Go

section
variable {γ:Type}

end

section
variable {ex:List Nat} {kp:Bool} {s0 s:St} {E:List BX} {Ls:List (List BX)} {G:List (List BX→Prop)}
variable {C:Cfg} {I:FI} {t:List Item} {tm:Nat→AV} {os:Nat→Bool} {Q:Fr→Prop} {all:Array Oper} {l:List Oper} {o:Oper} {draw:Bool}

theorem AOps.litO {α:Type} {e:OT α} {xs:List α} {els:List AV} {d ty et len:Nat} {parts:Array (Nat × Operand)} {T ei:TI} (hH:HS ex kp s0 s (E++Ls.flatten)) (hG:AllG G Ls) (hw:wantedA o all tm=some true) (ho:o.op=.buildSlice ty len parts) (hT:C.ty ty=some T) (hTu:T.u=.slice et) (hE:C.ty et=some ei)
  (hels:elsA ei 0 len (parts.toList.map fun p=>(p.1,evalO tm p.2))=some els) (hlim:len*ei.size≤16777216) (hdy:I.dy.contains d=true) (hsz:ei.isAgg=e.ag∧ei.size=e.sz) (hlen:len=xs.length) (k0:KT) (hown:OL e k0 0 xs (flatA els) []) (hd:o.dst=some d)
  (kk:∀ h k Ls' s2,h.one=true→AllG (OS e h k xs::G) Ls'→HS ex kp s0 s2 (E++Ls'.flatten)→AOps C I draw all l ⟨upd tm d h,upd os d false,s2⟩ Q):AOps C I draw all (o::l) ⟨tm,os,s⟩ Q:=by
 obtain ⟨u,a,b,zz⟩:=T
 simp only at hTu
 subst hTu
 have hs:=hH.pushG (flatA els)
 have hy:d∈I.dy:=by simpa using hdy
 refine .op hw (by unfold callee?; rw[ho]) (f':=⟨upd tm d (.ms ei.isAgg ei.size s.n 0 len),upd os d false,s.push (flatA els)⟩) ?_ (kk _ k0 _ _ rfl (.cons ?_ hG) hs)
 ·simp[opF,moveOp,cutM,cutV,Option.map_none,pureOp,makeOp,memOp,ho,hT,hE,hels,hlim,Fr.put,hd,hy]
 ·exact .inr ⟨s.n,_,_,[],by rw[hsz.1,hsz.2,hlen],rfl,hown⟩
theorem app_ne {α:Type} {x y z:List α} (h:app x y=some z) (hx:x≠[]):z≠[]:=by
 obtain ⟨rfl,_⟩:=app_some h
 intro e
 exact hx (List.append_eq_nil_iff.1 e).1
end
end Ae
namespace Ae
open Go Go.RowKit Go.Sort

def srt (l:List Int):List Int:=l.mergeSort fun x y=>decide (x≤y)

def sortB (s:St) (b off len:Nat):Option St :=
 if s.ro≤b∧b<s.n then
  match s.h b with
  | none=>none
  | some cs =>
   if off+len≤cs.length then
    (ints ((cs.drop off).take len)).map fun l=>s.setBox b (over cs off ((srt l).map (AV.int .i64))) (fun i=>if off≤i∧i<off+len then false else s.ow b i)
   else none
 else none

def φSort:List AV→St→Option (AV × Bool × St)
 | [.ms _ 1 b off len],s=>if len<549755813888 then (if len=0 then some (.tup [],false,s) else (sortB s b off len).map fun s'=>(.tup [],false,s')) else none
 | [.sl _ _ []],s=>some (.tup [],false,s)
 | _,_=>none

theorem Inv.here {E:Env} {s:St} (hc:Core E s) (hlo:s.lo≤s.n) {v:AV} {y:Value} (hv:V E v y):Inv E s 1 E (retFr v false s) ⟨#[y],[]⟩:=by
 have eos:∀ t,(retFr v false s).os t=false:=fun t=>by simp[retFr]
 exact {
   core:=hc,le:=.refl E,os:=rfl,tape:=rfl,out:=rfl,size:=Nat.le_refl _
   fr:=fun g hg _=>⟨rfl,rfl⟩
   bx:=fun b h1 h2=>by have h2':b<s.n:=h2; omega
   v:=fun t=>by
     cases t with
     | zero=>exact hv
     | succ t=>exact .undef _
   held:=fun t ht=>by rw[eos] at ht; cases ht
   dt:=fun t t' g h1 _=>by have:=h1.1; rw[eos] at this; cases this
   dc:=fun t b i g h1 _=>by have:=h1.1; rw[eos] at this; cases this
   oT:=fun t g h1=>by have:=h1.1; rw[eos] at this; cases this
   oC:=fun b i g hs=>.inr ⟨b,i,hs⟩
   ro:=rfl,lo:=rfl,n:=Nat.le_refl _,n0:=hc.n,lon:=hlo
   pb:=fun k _ h=>h
   nt:=by simp }

theorem srt_nil:srt []=[]:=List.eq_nil_of_length_eq_zero (by unfold srt; rw[List.length_mergeSort]; rfl)
theorem srt_len (l:List Int):(srt l).length=l.length:=List.length_mergeSort l

theorem φSort_ok {P : Program} {g : Nat} {fn : Func} (hf : P.funcs[g]? = some fn) (hname : (fn.name == "runtime.NumGoroutine") = false) (hb : fn.body.isSome = true)
  (hN:∀ (p:Option Addr) (cap:Nat) (w:World),Calls P g #[.slice p 0 cap] w fun e w'=>e=.returned (.tuple #[])∧w'=w)
  (hS:∀ (blk off cap:Nat) (zs:List Int) (w:World),Holds (Value.int .i64) w blk off zs.toArray→blk<w.heap.size→zs.length<4611686018427387904 →
   Calls P g #[.slice (some ⟨blk,off,none⟩) zs.length cap] w fun e w'=>e=.returned (.tuple #[])∧∃ n os,w'=grow (putRow (Value.int .i64) (Sort.ahead w n) blk off (zs.mergeSort fun x y=>decide (x≤y)).toArray) os) :
  ∀ args s v ow s1,φSort args s=some (v,ow,s1)→∀ (E:Env) (vs:Array Value),Core E s→s.lo≤s.n→VA E args vs→Reach P g vs E.w (Ret E s v ow s1):=by
 have hent:∀ vs w,(callFunc g vs).run P w=.ok (.enter g vs) w:=by
  intro vs w
  have h1 : fn.name ≠ "runtime.NumGoroutine" := by simpa using hname
  obtain ⟨bd,hbd⟩:=Option.isSome_iff_exists.1 hb
  simp[callFunc,hf,h1,hbd]
 intro args s v ow s1 h E vs hc hlo ⟨hl,hva⟩
 unfold φSort at h
 split at h
 case h_3=>cases h
 case h_2 =>
  rename_i z f
  obtain ⟨y,rfl⟩:∃ y,vs=#[y]:=by
   have:vs.size=1:=by rw[← hl]; rfl
   exact ⟨vs[0], by apply Array.ext; simpa using this; intro i h1 h2; have : i = 0 := by simpa using h2
                    subst this; rfl⟩
  have hV:V E (.sl z f []) y:=hva 0 _ _ rfl rfl
  cases h
  refine .inl ⟨hent _ _,?_⟩
  obtain ⟨p,cap,rfl⟩:∃ p cap,y=.slice p 0 cap:=by cases hV<;>exact ⟨_,_,rfl⟩
  refine Calls.mono (hN p cap E.w) ?_
  rintro e w' ⟨rfl,rfl⟩
  exact ⟨_,rfl,E,rfl,Inv.here hc hlo (.tup [] #[] rfl (by simp))⟩
 rename_i ag b off len
 split at h
 case isFalse=>cases h
 rename_i hlim
 obtain ⟨y,rfl⟩:∃ y,vs=#[y]:=by
  have:vs.size=1:=by rw[← hl]; rfl
  exact ⟨vs[0], by apply Array.ext; simpa using this; intro i h1 h2; have : i = 0 := by simpa using h2
                   subst this; rfl⟩
 have hV:V E (.ms ag 1 b off len) y:=hva 0 _ _ rfl rfl
 have hT:V E (.tup []) (.tuple #[]):=.tup [] #[] rfl (by simp)
 split at h
 ·rename_i h0
  cases h
  subst h0
  refine .inl ⟨hent _ _,?_⟩
  obtain ⟨p,cap,rfl⟩:∃ p cap,y=.slice p 0 cap:=by cases hV<;>exact ⟨_,_,rfl⟩
  refine Calls.mono (hN p cap E.w) ?_
  rintro e w' ⟨rfl,rfl⟩
  exact ⟨_,rfl,E,rfl,Inv.here hc hlo hT⟩
 ·rename_i h0
  rw[Option.map_eq_some_iff] at h
  obtain ⟨s2,h1,h2⟩:=h
  cases h2
  unfold sortB at h1
  split at h1
  case isFalse=>cases h1
  rename_i hbn
  split at h1
  ·cases h1
  rename_i cs hcs
  split at h1
  case isFalse=>cases h1
  rename_i hoff
  rw[Option.map_eq_some_iff] at h1
  obtain ⟨l,hl1,rfl⟩:=h1
  have hels:=ints_get hl1
  have hll:l.length=len:=by
   have:=congrArg List.length hels
   simp at this
   omega
  obtain ⟨cap,rfl⟩:∃ cap,y=.slice (some ⟨E.μ b,E.off b+off,none⟩) len cap:=by
   cases hV with
   | ms _ _ _ _ _ cap=>exact ⟨cap,rfl⟩
   | msE=>exact absurd rfl h0
  obtain ⟨cur,T,hcur,hcp,hR,hpr⟩:=hc.box b cs hbn.2 hcs
  have hget:∀ j,j<len→cs[off+j]?=some (.int .i64 (l.getD j 0)):=by
   intro j hj
   have h1:((cs.drop off).take len)[j]?=cs[off+j]?:=by rw[List.getElem?_take,if_pos hj,List.getElem?_drop]
   rw[← h1,hels,List.getElem?_map,List.getElem?_eq_getElem (by omega)]
   simp[List.getD,List.getElem?_eq_getElem (show j<l.length by omega)]
  have hRl:=hR.len
  have hcurj:∀ j,j<len→cur[E.off b+off+j]?=some (.int .i64 (l.getD j 0)):=by
   intro j hj
   have hlt:E.off b+off+j<cur.size:=by omega
   have:=hR.v (off+j) _ cur[E.off b+off+j] (hget j hj) (by rw[← Nat.add_assoc]; exact Array.getElem?_eq_getElem hlt)
   rw[Array.getElem?_eq_getElem hlt]
   generalize cur[E.off b+off+j]=x at this
   cases this
   rfl
  have hH:Holds (Value.int .i64) E.w (E.μ b) (E.off b+off) l.toArray:=by
   intro j hj
   have hj':j<len:=by simpa[hll] using hj
   have e:l.toArray[j]! = l.getD j 0:=by simp[List.getD,getElem!_def,List.getElem?_eq_getElem (show j<l.length by omega)]
   refine ⟨?_,?_⟩
   ·rw[e]; simp[World.cell?,hcur,hcurj j hj']
   ·simp[World.frozen?,hcur]
  have hblk:=hc.blt b hbn.2
  refine .inl ⟨hent _ _,?_⟩
  rw[← hll]
  refine Calls.mono (hS (E.μ b) (E.off b+off) cap l E.w hH hblk (by omega)) ?_
  rintro e w' ⟨rfl,n,os,rfl⟩
  refine ⟨_,rfl,?_⟩
  have hsl:=srt_len l
  have hw:∀ k,k<E.w.heap.size→(grow (putRow (Value.int .i64) (Sort.ahead E.w n) (E.μ b) (E.off b+off) (srt l).toArray) os).heap[k]?=(E.w.setRow (E.μ b) (putCells (Value.int .i64) (E.off b+off) (srt l).toArray cur)).heap[k]?:=by
   intro k hk
   rw[heap_grow_old _ _ (by simpa using hk)]
   by_cases hkb:k=E.μ b
   ·subst hkb
    rw[setRow_heap _ _ _ _ _ _ hcur]
    simp[putRow,mapBlock,Array.getElem?_modify,hcur,onCells]
   ·rw[setRow_other _ _ _ _ hkb]
    simp[putRow,mapBlock,Array.getElem?_modify,Ne.symm hkb]
  have hvs:(putCells (Value.int .i64) (E.off b+off) (srt l).toArray cur).size=cur.size:=by simp[putCells]
  have hvin:∀ j,off≤j→j<off+l.length→(putCells (Value.int .i64) (E.off b+off) (srt l).toArray cur)[E.off b+j]?=some (.int .i64 ((srt l).getD (j - off) 0)):=by
   intro j h1 h2
   have hlt:E.off b+j<cur.size:=by omega
   simp only[putCells,Array.getElem?_mapIdx,Array.getElem?_eq_getElem hlt,Option.map_some,List.size_toArray,hsl]
   rw[if_pos ⟨by omega,by omega⟩,show E.off b+j - (E.off b+off)=j - off by omega]
   simp[List.getD,getElem!_def,List.getElem?_eq_getElem (show j - off<(srt l).length by omega)]
  have hvout:∀ j,¬ (off≤j∧j<off+l.length)→(putCells (Value.int .i64) (E.off b+off) (srt l).toArray cur)[E.off b+j]?=cur[E.off b+j]?:=by
   intro j h1
   simp only[putCells,Array.getElem?_mapIdx,List.size_toArray,hsl]
   cases cur[E.off b+j]? with
   | none=>rfl
   | some x=>rw[Option.map_some,if_neg (by omega)]
  have hnl:((srt l).map (AV.int .i64)).length=l.length:=by rw[List.length_map,hsl]
  have hR':RowO E (E.off b) (over cs off ((srt l).map (AV.int .i64))) (putCells (Value.int .i64) (E.off b+off) (srt l).toArray cur):=by
   have hin:∀ j,off≤j→j<off+l.length→(over cs off ((srt l).map (AV.int .i64)))[j]?=some (.int .i64 ((srt l).getD (j - off) 0)):=by
    intro j h1 h2
    unfold over
    rw[List.append_assoc,List.getElem?_append_right (by simp; omega),List.length_take,Nat.min_eq_left (by omega),List.getElem?_append_left (by rw[hnl]; omega),List.getElem?_map,List.getElem?_eq_getElem (by omega)]
    simp[List.getD,List.getElem?_eq_getElem (show j - off<(srt l).length by omega)]
   have hlen:(over cs off ((srt l).map (AV.int .i64))).length=cs.length:=by unfold over; simp[hsl]; omega
   refine ⟨by rw[hlen,hvs]; exact hR.len,fun i c hc'=>?_,fun i c x hc' hx=>?_⟩
   ·by_cases hi:off≤i∧i<off+l.length
    ·rw[hin i hi.1 hi.2] at hc'; cases hc'; rfl
    ·rw[over_at (by rw[hnl]; omega) (by rw[hnl]; exact hi)] at hc'; exact hR.one i c hc'
   ·by_cases hi:off≤i∧i<off+l.length
    ·rw[hin i hi.1 hi.2] at hc'; cases hc'
     rw[hvin i hi.1 hi.2] at hx; cases hx
     exact .int _ _
    ·rw[over_at (by rw[hnl]; omega) (by rw[hnl]; exact hi)] at hc'
     rw[hvout i hi] at hx
     exact hR.v i c x hc' hx
  have I0:=Inv.here hc hlo hT
  have I1:=I0.setBox (b:=b) (i0:=off) (cs:=cs) (cs':=over cs off ((srt l).map (AV.int .i64))) (cur:=cur) (vs:=putCells (Value.int .i64) (E.off b+off) (srt l).toArray cur) (T:=T) (os':=(retFr (.tup []) false s).os)
   (fl:=fun i=>if off≤i∧i<off+l.length then false else s.ow b i) hbn.2 hbn.1 hcs hcur hvs hR' (fun t h=>h)
   (fun i hi _=>by
    split at hi
    ·cases hi
    ·rename_i hi'
     exact ⟨hi,over_at (by rw[hnl]; omega) (by rw[hnl]; exact hi'),hvout i hi'⟩)
   (fun hi=>by
    exfalso
    rw[if_pos ⟨Nat.le_refl _,by omega⟩] at hi
    cases hi)
   (fun k hk1 hk2 hp=>pureL_over hp (pureL_iff.2 fun c hc'=>by
    obtain ⟨x,_,rfl⟩:=List.mem_map.1 hc'
    rfl))
  have hE1:(E.set (E.μ b) (putCells (Value.int .i64) (E.off b+off) (srt l).toArray cur) 0).w=E.w.setRow (E.μ b) (putCells (Value.int .i64) (E.off b+off) (srt l).toArray cur):=rfl
  have hsz1:(E.set (E.μ b) (putCells (Value.int .i64) (E.off b+off) (srt l).toArray cur) 0).w.heap.size=E.w.heap.size:=size_setRow _ _ _
  have hnew1:=I1.core.new
  have hlt1:∀ k,k<(E.set (E.μ b) (putCells (Value.int .i64) (E.off b+off) (srt l).toArray cur) 0).w.heap.size→(grow (putRow (Value.int .i64) (Sort.ahead E.w n) (E.μ b) (E.off b+off) (srt l).toArray) os).heap[k]?=(E.set (E.μ b) (putCells (Value.int .i64) (E.off b+off) (srt l).toArray cur) 0).w.heap[k]?:=fun k hk=>hw k (by rw[hsz1] at hk; exact hk)
  generalize hEE:E.set (E.μ b) (putCells (Value.int .i64) (E.off b+off) (srt l).toArray cur) 0=E1 at I1 hE1 hsz1 hnew1 hlt1
  have hszw:E1.w.heap.size≤(grow (putRow (Value.int .i64) (Sort.ahead E.w n) (E.μ b) (E.off b+off) (srt l).toArray) os).heap.size:=by rw[hsz1,size_grow,size_putRow]; exact Nat.le_add_right _ _
  refine ⟨{ E1 with w:=grow (putRow (Value.int .i64) (Sort.ahead E.w n) (E.μ b) (E.off b+off) (srt l).toArray) os },rfl,?_⟩
  exact I1.step (E':={ E1 with w:=grow (putRow (Value.int .i64) (Sort.ahead E.w n) (E.μ b) (E.off b+off) (srt l).toArray) os })
   ⟨Nat.le_refl _,fun _ _=>rfl,fun _=>Nat.le_refl _,fun g o ho=>by
    have hg:g<E1.w.heap.size:=by
     rcases Nat.lt_or_ge g E1.w.heap.size with h | h
     ·exact h
     ·rw[hnew1 g h] at ho; cases ho
    exact cell_heap (hlt1 g hg),fun _ _=>rfl⟩ rfl (fun _ _=>rfl) hszw (fun g hg=>hnew1 g (Nat.le_trans hszw hg)) (by rw[hE1]; rfl) (by rw[hE1]; rfl) (by rw[hE1]; rfl)
   (fun b hb'=>⟨hlt1 _ (I1.core.blt b hb'),rfl⟩) (fun b i g hs=>⟨hlt1 g (I1.core.lt hs),rfl⟩) (fun t g hs=>⟨hlt1 g (I1.tlt hs),rfl⟩)
   (fun g hg _=>⟨hlt1 g (Nat.lt_of_lt_of_le hg I1.size),rfl⟩)

def srtM (a:List Int):Option (List Int):=if a.length<549755813888 then some (srt a) else none
theorem ints_map:∀ (a:List Int),ints (a.map (AV.int .i64))=some a
 | []=>rfl
 | x::a=>by simp[ints,ints_map a]
theorem OL.ints {e:OT Int} (he:∀ k x cs L,e.own k x cs L↔cs=[.int .i64 x]∧L=[]) {k:KT}:∀ {i:Nat} {a:List Int} {cs:List AV} {L:List BX},OL e k i a cs L→cs=a.map (AV.int .i64)∧L=[]
 | _,_,_,_,.nil=>⟨rfl,rfl⟩
 | _,_,_,_,.cons h t=>by
  obtain ⟨rfl,rfl⟩:=(he _ _ _ _).1 h
  obtain ⟨rfl,rfl⟩:=OL.ints he t
  exact ⟨rfl,rfl⟩
theorem OL.ofInts {e:OT Int} (he:∀ k x cs L,e.own k x cs L↔cs=[.int .i64 x]∧L=[]) {k:KT}:∀ {i:Nat} (a:List Int),OL e k i a (a.map (AV.int .i64)) []
 | _,[]=>.nil
 | i,x::a=>.cons (c:=[.int .i64 x]) (B:=[]) ((he _ _ _ _).2 ⟨rfl,rfl⟩) (OL.ofInts he a)

theorem sortK {C:Cfg} {g:Nat} {al:Bool} {e:OT Int} (he:∀ k x cs L,e.own k x cs L↔cs=[.int .i64 x]∧L=[]) (hag:e.ag=false) (hsz:e.sz=1) (hx:C.ext g=some φSort)
  {a:List Int} {h1:AV} {k2:KT} {s:St} {ex:List Nat} {E:List BX} {Ls0:List (List BX)} (hH0:HS ex true s s (E++List.flatten Ls0)) (hG0:AllG [OS e h1 k2 a] Ls0) (hl:LoOK ex true s) {r:List Int} (h:srtM a=some r) :
  ACall C g [h1] s (fun v _ s'=>∃ (Ls':List (List BX)),v=(AV.tup [])∧HS ex true s s' (E++List.flatten Ls')∧AllG [OS e h1 k2 r] Ls') al:=by
 unfold srtM at h
 split at h
 case isFalse=>cases h
 rename_i hlim
 cases h
 obtain ⟨L,rfl,hO⟩:∃ L,Ls0=[L]∧OS e h1 k2 a L:=by
  cases hG0 with
  | cons h t=>cases t; exact ⟨_,rfl,h⟩
 rcases hO with ⟨z,rfl,hz,rfl,rfl⟩ | ⟨b,cs,ow,L0,rfl,rfl,hOL⟩
 ·exact ACall.extS hx (by rfl) ⟨[[]],rfl,hH0,.cons (.inl ⟨z,rfl,hz,srt_nil,rfl⟩) .nil⟩
 ·obtain ⟨rfl,rfl⟩:=OL.ints he hOL
  rw[hag,hsz]
  by_cases h0:a.length=0
  ·have:a=[]:=List.eq_nil_of_length_eq_zero h0
   subst this
   refine ACall.extS (s1:=s) hx (v:=.tup []) (o:=false) (by unfold φSort; simp) ⟨_,rfl,hH0,.cons (.inr ⟨b,[],ow,[],by rw[hag,hsz,srt_nil],rfl,by rw[srt_nil]; exact .nil⟩) .nil⟩
  ·have hmem:(⟨some b,a.map (AV.int .i64),ow⟩:BX)∈E++List.flatten [[⟨some b,a.map (AV.int .i64),ow⟩]]:=by simp
   obtain ⟨p1,p2⟩:=HS.lob hH0 hl hmem rfl
   obtain ⟨_,p3,p4,p5⟩:=hH0.bx _ hmem b rfl
   have ho:over (a.map (AV.int .i64)) 0 ((srt a).map (AV.int .i64))=(srt a).map (AV.int .i64):=by
    unfold over
    simp[srt_len]
   have hs:φSort [.ms false 1 b 0 a.length] s=some (.tup [],false,s.setBox b ((srt a).map (AV.int .i64)) (fun i=>if 0≤i∧i<0+a.length then false else s.ow b i)):=by
    unfold φSort
    simp only
    rw[if_pos hlim,if_neg h0]
    unfold sortB
    rw[if_pos ⟨p1,p3⟩,p4]
    simp only[List.length_map,Nat.zero_add,Nat.le_refl,if_true,List.drop_zero]
    rw[show (a.map (AV.int .i64)).take a.length=a.map (AV.int .i64) from List.take_of_length_le (by simp),ints_map]
    simp only[Option.map_some,ho]
   refine ACall.extS hx hs ⟨[[⟨some b,(srt a).map (AV.int .i64),(fun i=>if 0≤i∧i<0+a.length then false else s.ow b i)⟩]],rfl,?_,.cons (.inr ⟨b,_,_,[],by rw[hag,hsz,srt_len],rfl,OL.ofInts he _⟩) .nil⟩
   have:=HS.setMid (cs':=(srt a).map (AV.int .i64)) (ow':=fun i=>if 0≤i∧i<0+a.length then false else s.ow b i) (U:=E) (W:=[]) (by simpa using hH0)
   simpa using this
end Ae
namespace Ae
open Go Go.RowKit Go.Sort

def growN (l:List Int) (n:Int):Option (List Int):=if l=[]∧0≤n∧n≤17592186044416 then some [] else none
def φGrow:List AV→Option (AV × Bool)
 | [.sl _ true [],.int .i64 n]=>(growN [] n).map fun _=>(.sl 1 false [],true)
 | _=>none

theorem φGrow_run {l:List Int} {z:Nat} {e:List AV} (h:LR (rI .i64) 1 l z e) {n:Int} {r:List Int} (hr:growN l n=some r):φGrow [.sl z true e,.int .i64 n]=some (.sl 1 false [],true)∧r=[]:=by
 unfold growN at hr
 split at hr
 case isFalse=>cases hr
 rename_i hc
 cases hr
 obtain ⟨rfl,h1,h2⟩:=hc
 have:e=[]:=by have:=h.el; cases this; rfl
 subst this
 refine ⟨?_,rfl⟩
 unfold φGrow growN
 simp only
 rw[if_pos ⟨trivial,h1,h2⟩]
 rfl

theorem φGrow_ok {P : Program} {g : Nat} {fn : Func} {te : TypeId} (hf : P.funcs[g]? = some fn) (hname : (fn.name == "runtime.NumGoroutine") = false) (hb : fn.body.isSome = true)
  (hZ:∀ (base:Option Addr) (w:World),Calls P g #[.slice base 0 0,.int .i64 (0:Nat)] w fun e w'=>e=.returned (.slice base 0 0)∧w'=w)
  (hG:∀ (base:Option Addr) (n:Nat) (w:World),0<n→n≤17592186044416→Calls P g #[.slice base 0 0,.int .i64 n] w fun e w'=>∃ cp cur,e=.returned (.slice (some ⟨w.heap.size,0,none⟩) 0 cp)∧cur.size=cp∧w'=w.drew.alloc (.cells cur te)) :
  ∀ args v ow,φGrow args=some (v,ow)→∀ (E:Env) (s:St) (vs:Array Value),Core E s→s.lo≤s.n→VA E args vs→Reach P g vs E.w (Ret E s v ow s):=by
 have hent:∀ vs w,(callFunc g vs).run P w=.ok (.enter g vs) w:=by
  intro vs w
  have h1 : fn.name ≠ "runtime.NumGoroutine" := by simpa using hname
  obtain ⟨bd,hbd⟩:=Option.isSome_iff_exists.1 hb
  simp[callFunc,hf,h1,hbd]
 intro args v ow h E s vs hc hlo ⟨hl,hva⟩
 unfold φGrow at h
 split at h
 case h_2=>cases h
 rename_i z n
 rw[Option.map_eq_some_iff] at h
 obtain ⟨r,hr,h⟩:=h
 cases h
 unfold growN at hr
 split at hr
 case isFalse=>cases hr
 rename_i hcn
 obtain ⟨_,h1,h2⟩:=hcn
 obtain ⟨x,y,rfl⟩:∃ x y,vs=#[x,y]:=by
  have:vs.size=2:=by rw[← hl]; rfl
  exact ⟨vs[0],vs[1],by
   apply Array.ext; simpa using this
   intro i h1 h2
   have:i=0∨i=1:=by simp at h2; omega
   rcases this with rfl | rfl<;>rfl⟩
 have hx:V E (.sl z true []) x:=hva 0 _ _ rfl rfl
 have hy:V E (.int .i64 n) y:=hva 1 _ _ rfl rfl
 have ey:y=.int .i64 n:=by cases hy; rfl
 subst ey
 obtain ⟨base,rfl⟩:∃ base,x=.slice base 0 0:=by
  cases hx with
  | slNil _ _ A=>exact ⟨_,rfl⟩
  | sl _ _ _ g o cap vals hc' hf'=>have:=hf' rfl; simp at this; subst this; exact ⟨_,rfl⟩
 obtain ⟨m,rfl⟩:∃ m:Nat,n=m:=⟨n.toNat,by omega⟩
 refine .inl ⟨hent _ _,?_⟩
 by_cases h0:m=0
 ·subst h0
  refine Calls.mono (hZ base E.w) ?_
  rintro e w' ⟨rfl,rfl⟩
  exact ⟨_,rfl,Ret.noroom hc hlo (.slNil 1 false base) (by cases base<;>simp[spare])⟩
 ·refine Calls.mono (hG base m E.w (by omega) (by omega)) ?_
  rintro e w' ⟨cp,cur,rfl,hsz,rfl⟩
  refine ⟨_,rfl,?_⟩
  have hnew:(E.w.drew.alloc (.cells cur te)).heap[E.w.heap.size]?=some (.cells cur te (0,0)):=heap_alloc_new E.w.drew (.cells cur te)
  exact Ret.owned (els:=[]) (vals:=fun _=>Go.undef) (te:=te) (g:=E.w.heap.size) (cap:=cp) (cur:=cur) hc hlo
   ⟨rfl,rfl,rfl,Nat.le_of_lt (Array.getElem?_eq_some_iff.1 hnew).1,fun k hk=>heap_alloc_old E.w.drew _ hk⟩ (Nat.le_refl _) hnew (Nat.zero_le _) hsz (by simp) (by simp)

theorem cut_slT {α:Type} {r:α→AV→Prop} {sz z:Nat} {l m:List α} {e:List AV} {k:IntKind} {lo:Int} (f:Bool) (hL:LR r sz l z e) (h:cut l lo l.length=some m):∃ e',LR r sz m z e'∧(if z=sz∨e.isEmpty=true then sliceA z f e (some (.int k lo)) none none else none)=some (.sl z f e'):=by
 obtain ⟨h1,h2,h3,rfl⟩:=cut_some h
 refine ⟨_,hL.cut lo.toNat (l.length - lo.toNat),?_⟩
 rw[if_pos (cut_cond hL)]
 unfold sliceA bndO
 simp only[Option.bind_some]
 rw[bnd_int h1 (by rw[hL.el.len]; omega),hL.el.len]
 simp
end Ae
namespace Ae
open Go

theorem OL.split {α:Type} {e:OT α} {k:KT}:∀ (A:List α) {B:List α} {i:Nat} {cs:List AV} {L:List BX},OL e k i (A++B) cs L→∃ c1 c2 L1 L2,cs=c1++c2∧L=L1++L2∧OL e k i A c1 L1∧OL e k (i+A.length) B c2 L2
 | [],B,i,cs,L,h=>⟨[],cs,[],L,rfl,rfl,.nil,by simpa using h⟩
 | x::A,B,i,_,_,.cons (c:=c) (cs:=cs) (B:=B0) (L:=L) h t=>by
  obtain ⟨c1,c2,L1,L2,rfl,rfl,h1,h2⟩:=OL.split A t
  exact ⟨c++c1,c2,B0++L1,L2,by simp,by simp,.cons h h1,by rw[show i+(x::A).length=i+1+A.length by simp; omega]; exact h2⟩

theorem OL.shift {α:Type} {e:OT α} {k:KT} {n:Nat}:∀ {xs:List α} {i:Nat} {cs:List AV} {L:List BX},OL e k (i+n) xs cs L→OL e (fun ρ=>match ρ with | []=>k [] | a::ρ=>k ((a+n)::ρ)) i xs cs L
 | [],_,_,_,.nil=>.nil
 | x::xs,i,_,_,.cons h t=>.cons h (OL.shift (by rw[show i+1+n=i+n+1 by omega]; exact t))

def BdL (tm:Nat→AV):Option Operand→Int→Prop
 | none,lo=>lo=0
 | some x,lo=>∃ kk,evalO tm x=.int kk lo
def BdH (tm:Nat→AV) (n:Nat):Option Operand→Int→Prop
 | none,hi=>hi=n
 | some x,hi=>∃ kk,evalO tm x=.int kk hi

theorem BdH.bnd {tm:Nat→AV} {n:Nat} {X:Option Operand} {hi:Int} (h:BdH tm n X hi) (h0:0≤hi) (h1:hi≤n):bndO (X.map (evalO tm)) n n=some hi.toNat:=by
 cases X with
 | none=>have h':hi=n:=h; subst h'; simp[bndO]
 | some x =>
  obtain ⟨kk,h⟩:=h
  simp only[Option.map_some,h,bndO,Ae.bnd]
  rw[if_pos ⟨h0,h1⟩]
theorem BdL.bnd {tm:Nat→AV} {n:Nat} {X:Option Operand} {lo:Int} (h:BdL tm X lo) (h0:0≤lo) (h1:lo≤n):bndO (X.map (evalO tm)) n 0=some lo.toNat:=by
 cases X with
 | none=>have h':lo=0:=h; subst h'; simp[bndO]
 | some x =>
  obtain ⟨kk,h⟩:=h
  simp only[Option.map_some,h,bndO,Ae.bnd]
  rw[if_pos ⟨h0,h1⟩]

section
variable {ex:List Nat} {kp:Bool} {s0 s:St} {E:List BX} {Ls:List (List BX)} {G:List (List BX→Prop)} {j:Nat}
variable {C:Cfg} {I:FI} {tm:Nat→AV} {os:Nat→Bool} {Q:Fr→Prop} {all:Array Oper} {l:List Oper} {o:Oper} {draw:Bool}

theorem AOps.cutO {α:Type} {e:OT α} {h:AV} {k:KT} {xs zs:List α} {d ty et:Nat} {X:Operand} {LO HI:Option Operand} {lo hi:Int} {T ei:TI} (hH:HS ex kp s0 s (E++Ls.flatten)) (hG:AllG G Ls) (hl:LoOK ex kp s0) (hj:G[j]?=some (OS e h k xs))
  (hw:wantedA o all tm=some true) (ho:o.op=.slice ty X LO HI none) (hT:C.ty ty=some T) (hTu:T.u=.slice et) (hE:C.ty et=some ei) (hX:evalO tm X=h) (hlo:BdL tm LO lo) (hhi:BdH tm xs.length HI hi) (hz:cut xs lo hi=some zs)
  (hsz:ei.size=e.sz) (hmv:I.mv.contains d=false) (hdy:I.dy.contains d=true) (hd:o.dst=some d)
  (kk:∀ h' k' Ls' s2,h'.one=true→AllG (G.set j (OS e h' k' zs)) Ls'→HS ex kp s0 s2 (E++Ls'.flatten)→AOps C I draw all l ⟨upd tm d h',upd os d false,s2⟩ Q):AOps C I draw all (o::l) ⟨tm,os,s⟩ Q:=by
 obtain ⟨c1,c2,c3,rfl⟩:=cut_some hz
 obtain ⟨L,hL,hP⟩:=hG.get hj
 obtain ⟨U,W,f1,f2⟩:=flat_mid hL
 obtain ⟨u,a1,b1,zz⟩:=T
 simp only at hTu
 subst hTu
 have hmv':d∉I.mv:=by simpa using hmv
 have hbh:=hhi.bnd (by omega) c3
 have hbl:=hlo.bnd (n:=hi.toNat) c1 (by omega)
 rcases hP with ⟨z,rfl,hz0,rfl,rfl⟩ | ⟨b,cs,ow,L0,rfl,rfl,hol⟩
 ·have h0:hi=0:=by simp at c3; omega
  have h1:lo=0:=by omega
  subst h0 h1
  refine .op hw (by unfold callee?; rw[ho]) (f':=⟨upd tm d (.sl z true []),upd os d false,s⟩) ?_ (kk _ k (Ls.set j []) s rfl (hG.set j (.inl ⟨_,rfl,hz0,by simp,rfl⟩)) (by rw[f2,← f1]; exact hH))
  have hp:pureOp C o tm=some (.sl z true []):=by
   unfold pureOp
   simp only[ho,hT,hE,hX,List.isEmpty_nil,or_true,if_true,Option.map_none]
   unfold sliceA
   simp only at hbh hbl ⊢
   simp only[List.length_nil] at hbh ⊢
   rw[hbh]
   simp only[Option.bind_some]
   have:=hbl
   rw[this]
   rfl
  have hm:moveOp C I o ⟨tm,os,s⟩=none:=by
   have hc:cutM C I o ⟨tm,os,s⟩=none:=by
    unfold cutM cutV
    simp only[ho,hd,Option.any_some,hdy,if_true,hX,Option.map_none]
   unfold moveOp
   split
   ·rw[if_neg (by rw[hd]; simpa using hmv')]; exact hc
   ·rename_i e; rw[ho] at e; cases e
   ·rename_i e; rw[ho] at e; cases e
   ·exact hc
  unfold opF
  rw[hm]
  simp only[hp,hd]
  rfl
 ·have hcl:=OL.len (i:=0) (cs:=cs) hol
  have hlen:(xs.take lo.toNat++((xs.drop lo.toNat).take (hi.toNat - lo.toNat)++(xs.drop lo.toNat).drop (hi.toNat - lo.toNat)))=xs:=by rw[List.take_append_drop,List.take_append_drop]
  rw[← hlen] at hol
  obtain ⟨d1,d2,L1,L2,rfl,rfl,o1,o2⟩:=OL.split _ hol
  obtain ⟨d3,d4,L3,L4,rfl,rfl,o3,o4⟩:=OL.split _ o2
  have e1:=OL.len (i:=0) (cs:=d1) o1
  have e3:=OL.len (i:=0) (cs:=d3) o3
  have hl1:(xs.take lo.toNat).length=lo.toNat:=by rw[List.length_take]; omega
  have hl3:((xs.drop lo.toNat).take (hi.toNat - lo.toNat)).length=hi.toNat - lo.toNat:=by rw[List.length_take,List.length_drop]; omega
  rw[hl1] at e1 o3
  rw[hl3] at e3
  have hcs:((d1++(d3++d4)).drop (lo.toNat*e.sz)).take ((hi.toNat - lo.toNat)*e.sz)=d3:=by
   rw[← e1,List.drop_left,← e3,List.take_left]
  have hH1:HS ex kp s0 s ((E++U)++⟨some b,d1++(d3++d4),ow⟩::(L1++(L3++L4)++W)):=by
   rw[f1] at hH
   simpa using hH
  have hbx:=hH1.bx ⟨some b,d1++(d3++d4),ow⟩ (by simp) b rfl
  have hro:s.ro≤b:=by
   rw[hH1.ro]
   rcases hbx.1 with h4 | h4
   ·exact Nat.le_trans hH1.wf h4
   ·exact (hH1.xl b h4).1
  have hx:((E++U)++⟨some b,d1++(d3++d4),ow⟩::(L1++(L3++L4)++W))[(E++U).length]?=some ⟨some b,d1++(d3++d4),ow⟩:=by simp
  have hp:=hH1.re (s1:=s.kill b) hx rfl rfl rfl rfl (fun c=>by
   by_cases hcb:c=b
   ·subst hcb; exact .inr rfl
   ·exact .inl (by simp[St.kill,upd,hcb])) d3
  have hp2:HS ex kp s0 ((s.kill b).push d3) (E++(Ls.set j (⟨some s.n,d3,fun _=>false⟩::L3)).flatten):=by
   rw[f2]
   simp only[List.set_append_right,Nat.le_refl,Nat.sub_self,List.set_cons_zero,List.append_assoc,List.cons_append] at hp ⊢
   have hq:HS ex kp s0 ((s.kill b).push d3) ((E++(U++[⟨some s.n,d3,fun _=>false⟩]))++L1++(L3++(L4++W))):=by simpa using hp
   have hr:=hq.less
   have hr2:HS ex kp s0 ((s.kill b).push d3) ((E++(U++(⟨some s.n,d3,fun _=>false⟩::L3)))++L4++W):=by simpa using hr
   simpa using hr2.less
  refine .op hw (by unfold callee?; rw[ho]) (f':=⟨upd tm d (.ms e.ag e.sz s.n 0 (hi.toNat - lo.toNat)),upd os d false,(s.kill b).push d3⟩) ?_
   (kk _ _ _ _ rfl (hG.set j (.inr ⟨s.n,d3,_,L3,by rw[hl3],rfl,OL.shift (n:=lo.toNat) (by simpa using o3)⟩)) hp2)
  have hv:cutV C I o tm s=some (b,e.ag,e.sz,hi.toNat - lo.toNat,d3):=by
   unfold cutV
   have hh:s.h b=some (d1++(d3++d4)):=hbx.2.2.1
   simp only[ho,hd,Option.any_some,hdy,if_true,hX,hT,hE,hh]
   rw[if_pos ⟨hsz.symm,trivial,by omega,hro⟩,hbh]
   simp only[Option.bind_some]
   rw[hbl]
   simp only[Option.map_some,hcs]
  have hm:moveOp C I o ⟨tm,os,s⟩=cutM C I o ⟨tm,os,s⟩:=by
   unfold moveOp
   split
   ·rw[if_neg (by rw[hd]; simpa using hmv')]
   ·rename_i e; rw[ho] at e; cases e
   ·rename_i e; rw[ho] at e; cases e
   ·rfl
  unfold opF
  rw[hm]
  unfold cutM
  simp only[hv,Option.map_some,hd]
  rfl

end
end Ae
namespace Ae
open Go
section
variable {ex:List Nat} {kp:Bool} {s0 s:St} {E:List BX} {Ls:List (List BX)}
theorem HS.joinK1 {s':St} {F':List BX} (h:HS ex kp s0 s ((E++Ls.flatten)++([]++([]:List (List BX)).flatten))) (k:HS [] true s s' F'):HS ex kp s0 s' ((E++Ls.flatten)++F'):=h.joinK (by simpa using k)
end
end Ae
namespace Ae
open Go

def φCloneX:List AV→St→Option (AV × Bool × St)
 | [.sl z _ els],s=>(ints els).bind fun l=>if z=1∨els=[] then (cloneI l).map fun _=>(if els.isEmpty then .sl 1 true [] else .sl 1 false els,true,s) else none
 | [.ms false sz b off len],s =>
  if sz=1∧b<s.n then
   match s.h b with
   | some cs=>if off+len≤cs.length then (ints ((cs.drop off).take len)).bind fun l=>(cloneI l).map fun _=>if len=0 then (.sl 1 true [],true,s) else (.ms false 1 s.n 0 len,true,s.push ((cs.drop off).take len)) else none
   | none=>none
  else none
 | _,_=>none

def delL {α:Type} (l:List α) (i j:Int):Option (List α):=if 0≤i∧i≤j∧j≤l.length∧l.length≤9223372036854775807 then some (l.take i.toNat++l.drop j.toNat) else none

def φDel:List AV→St→Option (AV × Bool × St)
 | [.sl z true [],.int .i64 i,.int .i64 j],s=>if i=0∧j=0 then some (.sl z true [],false,s) else none
 | [.ms ag sz b off len,.int .i64 i,.int .i64 j],s =>
  if sz=2∧off=0∧s.ro≤b∧b<s.n∧0≤i∧i≤j∧j≤len∧len≤9223372036854775807 then
   match s.h b with
   | some cs=>if cs.length=len*sz then some (.ms ag sz b 0 (i.toNat+(len - j.toNat)),false,s.setBox b (cs.take (i.toNat*sz)++cs.drop (j.toNat*sz)) (fun _=>false)) else none
   | none=>none
  else none
 | _,_=>none

section
variable {ex:List Nat} {kp:Bool} {s0 s:St} {E:List BX} {Ls:List (List BX)} {G:List (List BX→Prop)} {j:Nat} {P:List BX→Prop}
variable {C:Cfg} {I:FI} {tm:Nat→AV} {os:Nat→Bool} {Q:Fr→Prop} {all:Array Oper} {l:List Oper} {o:Oper}

theorem cloneX_run {e:OT Int} (he:∀ k x cs L,e.own k x cs L↔cs=[.int .i64 x]∧L=[]) (hag:e.ag=false) (hsz:e.sz=1) {h:AV} {k:KT} {ys zs:List Int} {P':List Int→List BX→Prop} (hH:HS ex kp s0 s (E++Ls.flatten)) (hG:AllG G Ls) (hj:G[j]?=some P) (hS:Sub P e h k ys P') (hm:cloneI ys=some zs) :
  ∃ h' k' Ls' s2,φCloneX [h] s=some (h',true,s2)∧h'.one=true∧AllG (OS e h' k' zs::G) Ls'∧HS ex kp s0 s2 (E++Ls'.flatten)∧s.n≤s2.n:=by
 have hzs:zs=ys:=by unfold cloneI at hm; split at hm<;>cases hm; rfl
 subst hzs
 obtain ⟨L,hL,hP⟩:=hG.get hj
 obtain ⟨A,B,D,h1,h2,h3⟩:=hS L hP
 rcases h2 with ⟨z,rfl,hz,hzs,rfl⟩ | ⟨b,cs,ow,L0,rfl,rfl,hol⟩
 ·subst hzs
  refine ⟨.sl 1 true [],k,[]::Ls,s,?_,rfl,.cons (.inl ⟨1,rfl,.inl hsz.symm,rfl,rfl⟩) hG,by simpa using hH,Nat.le_refl _⟩
  unfold φCloneX
  simp[ints,hm]
 ·obtain ⟨rfl,rfl⟩:=OL.ints he hol
  obtain ⟨U,W,f1,f2⟩:=flat_mid hL
  have hmem:(⟨some b,zs.map (AV.int .i64),ow⟩:BX)∈E++Ls.flatten:=by rw[f1,h1]; simp
  obtain ⟨_,p3,p4,p5⟩:=hH.bx _ hmem b rfl
  by_cases h0:zs.length=0
  ·have:zs=[]:=List.eq_nil_of_length_eq_zero h0
   subst this
   refine ⟨.sl 1 true [],k,[]::Ls,s,?_,rfl,.cons (.inl ⟨1,rfl,.inl hsz.symm,rfl,rfl⟩) hG,by simpa using hH,Nat.le_refl _⟩
   unfold φCloneX
   rw[hag,hsz]
   simp only
   rw[if_pos ⟨trivial,p3⟩,p4]
   simp[ints,hm]
  ·refine ⟨.ms false 1 s.n 0 zs.length,k,[⟨some s.n,zs.map (AV.int .i64),fun _=>false⟩]::Ls,s.push (zs.map (AV.int .i64)),?_,rfl,.cons (.inr ⟨s.n,_,_,[],by rw[hag,hsz],rfl,OL.ofInts he zs⟩) hG,HS.pushG hH _,Nat.le_succ _⟩
   unfold φCloneX
   rw[hag,hsz]
   simp only
   rw[if_pos ⟨trivial,p3⟩,p4]
   simp only[List.length_map,Nat.zero_add,Nat.le_refl,if_true,List.drop_zero]
   rw[show (zs.map (AV.int .i64)).take zs.length=zs.map (AV.int .i64) from List.take_of_length_le (by simp),ints_map]
   simp only[Option.bind_some,hm,Option.map_some,if_neg h0]

theorem AOps.cloneOE {e:OT Int} {d g:Nat} {h:AV} {k:KT} {ys zs:List Int} {P':List Int→List BX→Prop} (he:∀ k x cs L,e.own k x cs L↔cs=[.int .i64 x]∧L=[]) (hag:e.ag=false) (hsz:e.sz=1) (hx:C.ext g=some φCloneX) (hH:HS ex kp s0 s (E++Ls.flatten)) (hG:AllG G Ls) (hj:G[j]?=some P) (hS:Sub P e h k ys P')
  (hw:wantedA o all tm=some true) (hc:callee? o tm=some (g,[h])) (hd:o.dst=some d) (hm:cloneI ys=some zs)
  (kk:∀ h' k' Ls' s2,h'.one=true→AllG (OS e h' k' zs::G) Ls'→HS ex kp s0 s2 (E++Ls'.flatten)→AOps C I true all l ⟨upd tm d h',upd os d true,s2⟩ Q) (ha:alias I o=false:=by rfl) (hef:eff I o=true:=by rfl):AOps C I true all (o::l) ⟨tm,os,s⟩ Q:=by
 obtain ⟨h',k',Ls',s2,h1,h2,h3,h4,h5⟩:=cloneX_run he hag hsz hH hG hj hS hm
 refine .callE hw hc ha hef (ACall.extS hx h1 ⟨h5,?_⟩)
 rw[hd]
 exact kk h' k' Ls' s2 h2 h3 h4

theorem OL.leafApp {α:Type} {e:OT α} (he:∀ k k' x cs L,e.own k x cs L→e.own k' x cs L∧L=[]) {k k':KT}:∀ {i i':Nat} {xs:List α} {cs:List AV} {L:List BX},OL e k i xs cs L→OL e k' i' xs cs L∧L=[]
 | _,_,_,_,_,.nil=>⟨.nil,rfl⟩
 | _,_,_,_,_,.cons h t=>by
  obtain ⟨h1,rfl⟩:=he _ _ _ _ _ h
  obtain ⟨h2,rfl⟩:=OL.leafApp he t
  exact ⟨.cons h1 h2,rfl⟩

theorem del_run {α:Type} {e:OT α} (hsz2:e.sz=2) (he:∀ k k' x cs L,e.own k x cs L→e.own k' x cs L∧L=[]) {h:AV} {k:KT} {xs zs:List α} {i m:Int} (hH:HS ex kp s0 s (E++Ls.flatten)) (hG:AllG G Ls) (hl:LoOK ex kp s0) (hj:G[j]?=some (OS e h k xs)) (hm:delL xs i m=some zs) :
  ∃ h' k' Ls' s2,φDel [h,.int .i64 i,.int .i64 m] s=some (h',false,s2)∧h'.one=true∧AllG (G.set j (OS e h' k' zs)) Ls'∧HS ex kp s0 s2 (E++Ls'.flatten)∧s.n≤s2.n:=by
 unfold delL at hm
 split at hm
 case isFalse=>cases hm
 rename_i hb
 cases hm
 obtain ⟨b1,b2,b3,b4⟩:=hb
 obtain ⟨L,hL,hP⟩:=hG.get hj
 obtain ⟨U,W,f1,f2⟩:=flat_mid hL
 rcases hP with ⟨z,rfl,hz,rfl,rfl⟩ | ⟨b,cs,ow,L0,rfl,rfl,hol⟩
 ·simp at b3
  have e1:i=0:=by omega
  have e2:m=0:=by omega
  subst e1 e2
  exact ⟨_,k,Ls.set j [],s,rfl,rfl,hG.set j (.inl ⟨z,rfl,hz,by simp,rfl⟩),by rw[f2,← f1]; exact hH,Nat.le_refl _⟩
 ·obtain ⟨_,rfl⟩:=OL.leafApp he (k':=k) (i':=0) hol
  have hcl:=OL.len (i:=0) (cs:=cs) hol
  have hmem:(⟨some b,cs,ow⟩:BX)∈E++Ls.flatten:=by rw[f1]; simp
  obtain ⟨q1,q2⟩:=HS.lob hH hl hmem rfl
  obtain ⟨_,p3,p4,p5⟩:=hH.bx _ hmem b rfl
  have hA:xs=xs.take i.toNat++xs.drop i.toNat:=(List.take_append_drop _ _).symm
  have hB:xs=xs.take m.toNat++xs.drop m.toNat:=(List.take_append_drop _ _).symm
  have o1:=hol
  rw[hA] at o1
  obtain ⟨c1,c2,M1,M2,r1,r2,o1,_⟩:=OL.split _ o1
  have o2:=hol
  rw[hB] at o2
  obtain ⟨c3,c4,M3,M4,r3,r4,_,o2⟩:=OL.split _ o2
  obtain ⟨u1,rfl⟩:=OL.leafApp he (k':=k) (i':=0) o1
  obtain ⟨u2,rfl⟩:=OL.leafApp he (k':=k) (i':=0+(xs.take i.toNat).length) o2
  have l1:=OL.len (i:=0) (cs:=c1) o1
  have l4:=OL.len (i:=0) (cs:=c4) o2
  have e1:cs.take (i.toNat*e.sz)=c1:=by
   rw[r1,← show c1.length=i.toNat*e.sz by rw[l1,List.length_take,Nat.min_eq_left (by omega)],List.take_left]
  have e2:cs.drop (m.toNat*e.sz)=c4:=by
   have:c3.length=m.toNat*e.sz:=by
    have h1:(c3++c4).length=xs.length*e.sz:=by rw[← r3]; exact hcl
    rw[List.length_append,l4,List.length_drop,Nat.sub_mul] at h1
    have:m.toNat*e.sz≤xs.length*e.sz:=Nat.mul_le_mul_right _ (by omega)
    omega
   rw[r3,← this,List.drop_left]
  have hlen:(xs.take i.toNat++xs.drop m.toNat).length=i.toNat+(xs.length - m.toNat):=by rw[List.length_append,List.length_take,List.length_drop,Nat.min_eq_left (by omega)]
  refine ⟨.ms e.ag e.sz b 0 (i.toNat+(xs.length - m.toNat)),k,Ls.set j [⟨some b,c1++c4,fun _=>false⟩],s.setBox b (c1++c4) (fun _=>false),?_,rfl,hG.set j (.inr ⟨b,_,_,[],by rw[hlen],rfl,u1.app u2⟩),?_,Nat.le_refl _⟩
  ·unfold φDel
   simp only
   rw[if_pos ⟨hsz2,trivial,q1,p3,b1,b2,b3,b4⟩,p4]
   simp only
   rw[if_pos hcl,e1,e2]
  ·rw[f2]
   rw[f1] at hH
   have h5:=HS.setMid (cs':=c1++c4) (ow':=fun _=>false) (U:=E++U) (W:=W) (by simpa using hH)
   simpa using h5

theorem AOps.delOE {α:Type} {e:OT α} {d g:Nat} {h:AV} {k:KT} {xs zs:List α} {i m:Int} (he:∀ k k' x cs L,e.own k x cs L→e.own k' x cs L∧L=[]) (hsz2:e.sz=2) (hx:C.ext g=some φDel) (hH:HS ex kp s0 s (E++Ls.flatten)) (hG:AllG G Ls) (hl:LoOK ex kp s0) (hj:G[j]?=some (OS e h k xs)) (hm:delL xs i m=some zs)
  (hw:wantedA o all tm=some true) (hc:callee? o tm=some (g,[h,.int .i64 i,.int .i64 m])) (hd:o.dst=some d)
  (kk:∀ h' k' Ls' s2,h'.one=true→AllG (G.set j (OS e h' k' zs)) Ls'→HS ex kp s0 s2 (E++Ls'.flatten)→AOps C I true all l ⟨upd tm d h',upd os d false,s2⟩ Q) (ha:alias I o=false:=by rfl) (hef:eff I o=true:=by rfl):AOps C I true all (o::l) ⟨tm,os,s⟩ Q:=by
 obtain ⟨h',k',Ls',s2,h1,h2,h3,h4,h5⟩:=del_run hsz2 he hH hG hl hj hm
 refine .callE hw hc ha hef (ACall.extS hx h1 ⟨h5,?_⟩)
 rw[hd]
 exact kk h' k' Ls' s2 h2 h3 h4
end
end Ae
namespace Ae
open Go
theorem φCloneX_run {l:List Int} {z:Nat} {f:Bool} {e:List AV} (h:LR (rI .i64) 1 l z e) {r:List Int} (hr:cloneI l=some r) (s:St):φCloneX [.sl z f e] s=some (if e.isEmpty then .sl 1 true [] else .sl 1 false e,true,s)∧r=l:=by
 have h1:=ints_rL h.el
 have h2:z=1∨e=[]:=h.z.imp id fun h=>h.2
 refine ⟨?_,?_⟩
 ·unfold φCloneX
  simp only[h1,Option.bind_some,if_pos h2,hr,Option.map_some]
 ·unfold cloneI at hr
  split at hr<;>cases hr
  rfl
theorem φCloneX_rel {l:List Int} {z:Nat} {e:List AV} (h:LR (rI .i64) 1 l z e):rL (rI .i64) 1 l (if e.isEmpty then .sl 1 true [] else .sl 1 false e):=by
 cases he:e with
 | nil =>
  have h1:=h.el
  rw[he] at h1
  cases h1
  exact ⟨1,true,[],rfl,.inl rfl,.nil⟩
 | cons a t=>rw[← he]; exact ⟨1,false,e,by simp[he],.inl rfl,h.el⟩
end Ae
namespace Ae
open Go
theorem fillA_step {place:Nat→Option (Nat × Nat)} {cs c:List AV} {i off size:Nat} {v:AV} {rest:List (Nat × AV)} {r:List AV} (hp:place i=some (off,size)) (hl:layable v=true) (hc:v.cells=c) (hn:c.length=size) (ho:off+size≤cs.length) (hr:fillA place (over cs off c) rest=some r):fillA place cs ((i,v)::rest)=some r:=by
 subst hc
 unfold fillA
 simp only[hp,hl,hn,ho,decide_true,Bool.and_self,if_true,hr]
theorem build_of {C:Cfg} {o:Oper} {tm:Nat→AV} {t a b:Nat} {parts:Array (Nat × Operand)} {fs:List (Nat × Nat)} {z:AV} {L:List (Nat × AV)} {R:List AV} (ho:o.op=.build t parts) (hT:C.ty t=some ⟨.struct fs,a,b,z⟩) (hz:(layable z&&fs.all fun p=>(C.ty p.2).isSome)=true) (hp:(parts.toList.map fun p=>(p.1,evalO tm p.2))=L)
  (hf:fillA (fun i=>(fs[i]?).bind fun p=>(C.ty p.2).map fun ti=>(p.1,ti.size)) z.cells L=some R):pureOp C o tm=some (.agg R):=by
 unfold pureOp
 simp only[ho]
 unfold buildA
 simp only[hT,hp]
 rw[if_pos hz,hf]
 rfl
end Ae
namespace Ae
open Go Go.RowKit

section
variable {E0 E:Env} {s0:St} {nt:Nat} {f:Fr} {a:Act}

theorem Inv.adopt (h:Inv E0 s0 nt E f a) {g:Nat} {cs:List AV} {cur:Array Value} {T:TypeId} (hg:E.w.heap[g]?=some (.cells cur T (0,0))) (hpr:E.pr g=0) (hb:∀ b,b<E.n→E.μ b≠g) (hsp:∀ b i,¬ CellSp E f.s b i g) (ht:∀ t,¬ TmpSp f a t g)
  (hnew:E0.w.heap.size≤g) (hr:RowP E cs cur):Inv E0 s0 nt { E with μ:=upd E.μ E.n g,n:=E.n+1,cp:=upd E.cp E.n (cur.size,0) } { f with s:=f.s.push cs } a:=by
 have hn:=h.core.n
 generalize hE':({ E with μ:=upd E.μ E.n g,n:=E.n+1,cp:=upd E.cp E.n (cur.size,0) }:Env)=E'
 have ew:E'.w=E.w:=by rw[← hE']
 have ep:E'.pr=E.pr:=by rw[← hE']
 have en:E'.n=E.n+1:=by rw[← hE']
 have eμ:E'.μ=upd E.μ E.n g:=by rw[← hE']
 have ec:E'.cp=upd E.cp E.n (cur.size,0):=by rw[← hE']
 have hle:E.le E':=⟨by rw[en]; exact Nat.le_succ _,fun b hb=>by rw[eμ]; simp only[upd]; rw[if_neg (by omega)],fun k=>by rw[ep]; exact Nat.le_refl _,fun k o _=>by rw[ew],fun b hb=>by rw[ec]; simp only[upd]; rw[if_neg (by omega)]⟩
 have hμ:∀ b,b<f.s.n→E'.μ b=E.μ b:=fun b hb=>hle.μ b (hn▸hb)
 have hμn:E'.μ f.s.n=g:=by rw[eμ,← hn]; simp[upd]
 have hone:∀ b,b<f.s.n→E.μ b≠g:=fun b hb'=>hb b (hn▸hb')
 have hcell:∀ b' i c v,CellAt E' (f.s.push cs) b' i c v→CellAt E f.s b' i c v:=by
  intro b' i c v
  unfold CellAt
  simp only[St.push,upd]
  rintro ⟨h1,h2,⟨cs1,h3,h5⟩,h4⟩
  by_cases e:b'=f.s.n
  ·rw[if_pos e] at h2; cases h2
  ·have hb':b'<f.s.n:=by omega
   rw[if_neg e] at h2
   simp only[if_neg e] at h3
   refine ⟨hb',h2,⟨cs1,h3,h5⟩,?_⟩
   rw[hμ b' hb',hle.off (hn▸hb'),ew] at h4
   exact h4
 have hcs:∀ b' i k,CellSp E' (f.s.push cs) b' i k→CellSp E f.s b' i k:=fun b i k ⟨c,v,h1,h2⟩=>⟨c,v,hcell _ _ _ _ h1,h2⟩
 have hkeep:∀ {x y k},k≠g→Spr E x y k→Spr E' x y k:=by
  intro x y k hne hs
  refine hs.keep (by rw[ew]) (by rw[ep]) (fun b' hb'=>?_)
  rw[en] at hb'
  by_cases e:b'=E.n
  ·rw[e,hn,hμn]; exact fun e'=>hne e'.symm
  ·rw[hμ b' (by omega)]; exact hs.box b' (by omega)
 exact
  { core :=
      { n:=by rw[en,hn]; rfl
        new:=fun k hk=>by rw[ep]; exact h.core.new k (by rw[ew] at hk; exact hk)
        box:=fun b' cs1 hb' hcs1=>by
          have hb2:b'<f.s.n+1:=hb'
          have hcs2:(if b'=f.s.n then some cs else f.s.h b')=some cs1:=hcs1
          by_cases e:b'=f.s.n
          · subst e
            rw[if_pos rfl] at hcs2
            cases hcs2
            refine ⟨cur,T,by rw[ew,hμn]; exact hg,?_,?_,by rw[ep,hμn]; exact hpr⟩
            · unfold Env.sz; rw[ec,← hn]; simp[upd]
            · rw[show E'.off f.s.n=0 by unfold Env.off; rw[ec,← hn]; simp[upd]]; exact (hr.le hle).toO
          · rw[if_neg e] at hcs2
            obtain ⟨cur',e',h2,h5,h3,h4⟩:=h.core.box b' cs1 (by omega) hcs2
            refine ⟨cur',e',?_,?_,?_,?_⟩
            · rw[hμ b' (by omega),ew]; exact h2
            · rw[hle.sz (by rw[hn]; omega)]; exact h5
            · rw[hle.off (by rw[hn]; omega)]; exact h3.le hle
            · rw[hμ b' (by omega),ep]; exact h4
        blt:=fun b' hb'=>by
          have hb2:b'<f.s.n+1:=hb'
          rw[ew]
          by_cases e:b'=f.s.n
          · rw[e,hμn]; exact (Array.getElem?_eq_some_iff.1 hg).1
          · rw[hμ b' (by omega)]; exact h.core.blt b' (by omega)
        inj:=fun b1 b2 h1 h2 e=>by
          have hb2:b2<f.s.n+1:=h2
          show (if b1=f.s.n then some cs else f.s.h b1)=none
          rw[if_neg (by omega)]
          by_cases e2:b2=f.s.n
          · rw[e2,hμn,hμ b1 (by omega)] at e
            exact absurd e (hone b1 (by omega))
          · rw[hμ b1 (by omega),hμ b2 (by omega)] at e
            exact h.core.inj b1 b2 h1 (by omega) e
        held:=fun b' i c v hc k hk=>by
          have hc':=hcell b' i c v hc
          exact hkeep (fun e=>hsp b' i (e▸⟨c,v,hc',hk⟩)) (h.core.held b' i c v hc' k hk)
        dj:=fun b i b' i' k h1 h2=>h.core.dj b i b' i' k (hcs b i k h1) (hcs b' i' k h2) }
    le:=h.le.trans hle
    os:=by rw[ew]; exact h.os
    tape:=by rw[ew]; exact h.tape
    out:=by rw[ew]; exact h.out
    size:=by rw[ew]; exact h.size
    fr:=fun k hk hw=>by rw[ew,ep]; exact h.fr k hk hw
    bx:=fun b' hb1 hb2=>by
      have hb3:b'<f.s.n+1:=hb2
      by_cases e1:b'=f.s.n
      · rw[e1,hμn]; exact .inl hnew
      · rw[hμ b' (by omega)]; exact h.bx b' hb1 (by omega)
    v:=fun t=>(h.v t).le hle
    held:=fun t ht' k hk=>hkeep (fun e=>ht t (e▸⟨ht',hk⟩)) (h.held t ht' k hk)
    dt:=h.dt
    dc:=fun t b i k h1 h2=>h.dc t b i k h1 (hcs b i k h2)
    oT:=h.oT
    oC:=fun b i k h1=>h.oC b i k (hcs b i k h1)
    ro:=h.ro
    lo:=h.lo
    n:=Nat.le_succ_of_le h.n
    n0:=h.n0
    lon:=h.lon
    pb:=fun k hk hp b' cs' hb hcs'=>by
      have hne:b'≠f.s.n:=by have:=h.n; have:=h.lon; omega
      refine h.pb k hk hp b' cs' hb ?_
      simpa[St.push,upd,hne] using hcs'
    nt:=h.nt }

theorem Inv.grow (h:Inv E0 s0 nt E f a) {w':World} (hb:Below E.w.heap.size E.w w'):Inv E0 s0 nt { E with w:=w' } f a :=
 h.step (E':={ E with w:=w' }) ⟨Nat.le_refl _,fun _ _=>rfl,fun _=>Nat.le_refl _,fun k o ho=>by
   have hk:k<E.w.heap.size:=by
    rcases Nat.lt_or_ge k E.w.heap.size with h1 | h1
    ·exact h1
    ·rw[h.core.new k h1] at ho; cases ho
   exact cell_heap (hb.block k hk),fun _ _=>rfl⟩ rfl (fun _ _=>rfl) hb.size (fun g hg=>h.core.new g (Nat.le_trans hb.size hg)) hb.os hb.tape hb.output
  (fun b hb'=>⟨hb.block _ (h.core.blt b hb'),rfl⟩) (fun b i g hs=>⟨hb.block _ (h.core.lt hs),rfl⟩) (fun t g hs=>⟨hb.block _ (h.tlt hs),rfl⟩) (fun g hg _=>⟨hb.block _ (Nat.lt_of_lt_of_le hg h.size),rfl⟩)

theorem Inv.reret {s:St} {v v0:AV} {y y0:Value} (h:Inv E0 s0 1 E (retFr v0 false s) ⟨#[y0],[]⟩) (hv:V E v y) (hs:spare v y=none) (ow:Bool):Inv E0 s0 1 E (retFr v ow s) ⟨#[y],[]⟩:=by
 have nosp:∀ t g,¬ TmpSp (retFr v ow s) ⟨#[y],[]⟩ t g:=by
  intro t g hh
  obtain ⟨_,_,h3⟩:=ret_inv hh
  rw[hs] at h3; cases h3
 exact { core := h.core, le := h.le, os := h.os, tape := h.tape, out := h.out, size := h.size, fr := h.fr, bx := h.bx
         v:=fun t=>by
           cases t with
           | zero=>exact hv
           | succ t=>exact .undef _
         held:=fun t ht g hg=>absurd ⟨ht,hg⟩ (nosp t g)
         dt:=fun t t' g h1 _=>absurd h1 (nosp t g)
         dc:=fun t b i g h1 _=>absurd h1 (nosp t g)
         oT:=fun t g h1=>absurd h1 (nosp t g)
         oC:=h.oC,ro:=h.ro,lo:=h.lo,n:=h.n,n0:=h.n0,lon:=h.lon,pb:=h.pb,nt:=by simp }
end

theorem φCloneX_ok {P : Program} {g : Nat} {fn : Func} {te : TypeId} (hf : P.funcs[g]? = some fn) (hname : (fn.name == "runtime.NumGoroutine") = false) (hb : fn.body.isSome = true)
  (hN:∀ (n c:Nat) (w:World),Calls P g #[.slice none n c] w fun e w'=>e=.returned (.slice none 0 0)∧w'=w)
  (hZ:∀ (a:Addr) (c:Nat) (w:World),Calls P g #[.slice (some a) 0 c] w fun e w'=>∃ A,e=.returned (.slice (some A) 0 0)∧Below w.heap.size w w')
  (hI:∀ (b off n c:Nat) (zs:List Int) (w:World),n≤zs.length→n*8≤140737488355328→(∀ j,j<zs.length→w.cell? ⟨b,off+j,none⟩=some (.int .i64 (zs.getD j 0))) →
   Calls P g #[.slice (some ⟨b,off,none⟩) n c] w fun e w'=>∃ v',e=.returned v'∧w'.ownsRow w.heap.size te 1 v' n ((zs.take n).map (Value.int .i64))∧v'≠.slice none 0 0∧Below w.heap.size w w') :
  ∀ args s v ow s1,φCloneX args s=some (v,ow,s1)→∀ (E:Env) (vs:Array Value),Core E s→s.lo≤s.n→VA E args vs→Reach P g vs E.w (Ret E s v ow s1):=by
 have hent:∀ vs w,(callFunc g vs).run P w=.ok (.enter g vs) w:=by
  intro vs w
  have h1 : fn.name ≠ "runtime.NumGoroutine" := by simpa using hname
  obtain ⟨bd,hbd⟩:=Option.isSome_iff_exists.1 hb
  simp[callFunc,hf,h1,hbd]
 intro args s v ow s1 h E vs hc hlo hva
 have I0:Inv E s 1 E (retFr (.tup []) false s) ⟨#[.tuple #[]],[]⟩:=Inv.here hc hlo (.tup [] #[] rfl (by simp))
 have nil:∀ (A:Option Addr) (c:Nat),Reach P g #[.slice A 0 c] E.w (Ret E s (.sl 1 true []) true s):=by
  intro A c
  cases A with
  | none =>
   refine .inl ⟨hent _ _,(hN 0 c E.w).mono fun e w' h=>?_⟩
   obtain ⟨rfl,rfl⟩:=h
   exact ⟨_,rfl,E,rfl,I0.reret (.slNil 1 true none) rfl true⟩
  | some A =>
   refine .inl ⟨hent _ _,(hZ A c E.w).mono fun e w' h=>?_⟩
   obtain ⟨A',rfl,hbl⟩:=h
   exact ⟨_,rfl,_,rfl,(I0.grow hbl).reret (.slNil 1 true (some A')) (by simp[spare]) true⟩
 have one:∀ {x:AV},args=[x]→∃ y,vs=#[y]∧V E x y:=by
  rintro x rfl
  obtain ⟨hl',hv⟩:=hva
  obtain ⟨vl⟩:=vs
  match vl,hl' with
  | [y],_=>exact ⟨y,rfl,hv 0 _ _ rfl rfl⟩
 unfold φCloneX at h
 split at h
 ·rename_i z f els
  simp only[Option.bind_eq_some_iff] at h
  obtain ⟨l,hl,h⟩:=h
  split at h
  case isFalse=>cases h
  rename_i hz
  simp only[Option.map_eq_some_iff] at h
  obtain ⟨r,hr,h⟩:=h
  cases h
  cases he:els with
  | nil =>
   subst he
   obtain ⟨y,rfl,hy⟩:=one rfl
   simp only[List.isEmpty_nil,if_true]
   obtain ⟨A,c,rfl⟩:∃ A c,y=.slice A 0 c:=by
    generalize hbb:(AV.sl z f [])=bb at hy
    cases hy<;>cases hbb
    ·exact ⟨_,_,rfl⟩
    ·exact ⟨_,_,rfl⟩
   exact nil A c
  | cons x t =>
   have h2:φClone [.sl z f els]=some (.sl 1 false els,true):=by
    unfold φClone
    simp only[hl,Option.bind_some,if_pos hz,hr,Option.map_some]
   rw[← he]
   have h3:(if els.isEmpty then AV.sl 1 true [] else AV.sl 1 false els)=AV.sl 1 false els:=by rw[he]; rfl
   rw[h3]
   have hne0:els≠[]:=by rw[he]; simp
   have hels:=ints_get hl
   have hlen:l.length≤17592186044416:=by
    unfold cloneI at hr
    split at hr
    ·assumption
    ·cases hr
   obtain ⟨x,rfl,hx⟩:=one rfl
   have hll:els.length=l.length:=by rw[hels,List.length_map]
   generalize hbb:(AV.sl z f els)=bb at hx
   cases hx<;>cases hbb
   ·exact absurd rfl hne0
   ·rename_i g' o cap vals hcap hzz k0 k1 k2 k3 hfull
    have hz1:z=1:=hz.resolve_right hne0
    have hcall:=hI g' o els.length cap l E.w (by omega) (by omega) (fun j hj=>by
     have he:els[j]?=some (.int .i64 l[j]):=by rw[hels,List.getElem?_map,List.getElem?_eq_getElem hj]; rfl
     have a1:=k3 j _ 0 _ he rfl
     have a2:=k0 j _ 0 _ he rfl
     rw[hz1] at a1
     have:vals j 0=.int .i64 l[j]:=by
      generalize hq:(AV.int .i64 l[j])=q at a2
      generalize vals j 0=y at a2
      cases a2<;>cases hq
      rfl
     rw[this] at a1
     simpa[List.getD_eq_getElem?_getD,hj] using a1)
    refine .inl ⟨hent _ _,hcall.mono fun e w' h=>?_⟩
    obtain ⟨v',rfl,hrow,hne,hbel⟩:=h
    refine ⟨_,rfl,?_⟩
    obtain ⟨hxl,hrow⟩:=hrow
    rcases hrow with ⟨rfl,_⟩ | ⟨g2,cap2,cur,rfl,h1,h2,h3,h4,h5,h6⟩
    ·exact absurd rfl hne
    ·refine Ret.owned hc hlo (vals:=fun i=>.int .i64 (l.getD i 0)) hbel h1 h2 h3 (by omega) (fun el he=>by
      rw[hels] at he; obtain ⟨n,_,rfl⟩:=List.mem_map.1 he; rfl) fun i el he=>?_
     rw[hels,List.getElem?_map,Option.map_eq_some_iff] at he
     obtain ⟨n,hn,rfl⟩:=he
     have hlt:=(List.getElem?_eq_some_iff.1 hn).1
     refine ⟨?_,by simp only[List.getD_eq_getElem?_getD,hn,Option.getD_some]; exact .int _ _⟩
     have h7:(cur.toList.take (els.length*1))[i]?=((l.take els.length).map (Value.int .i64))[i]?:=by rw[h6]
     rw[List.take_of_length_le (show l.length≤els.length by omega),List.getElem?_take,if_pos (by omega),List.getElem?_map,hn] at h7
     simp only[List.getD_eq_getElem?_getD,hn,Option.getD_some]
     simpa using h7
 ·rename_i sz b off len
  split at h
  case isFalse=>cases h
  rename_i hbn
  obtain ⟨rfl,hbn⟩:=hbn
  split at h
  case h_2=>cases h
  rename_i cs hcs
  split at h
  case isFalse=>cases h
  rename_i hoff
  simp only[Option.bind_eq_some_iff,Option.map_eq_some_iff] at h
  obtain ⟨l,hl1,r,hr,h⟩:=h
  obtain ⟨y,rfl,hV⟩:=one rfl
  have hels:=ints_get hl1
  have hll:l.length=len:=by
   have:=congrArg List.length hels
   simp at this
   omega
  split at h
  ·rename_i h0
   cases h
   subst h0
   obtain ⟨p,cap,rfl⟩:∃ p cap,y=.slice p 0 cap:=by cases hV<;>exact ⟨_,_,rfl⟩
   exact nil p cap
  ·rename_i h0
   cases h
   have hlim:l.length≤17592186044416:=by
    unfold cloneI at hr
    split at hr
    ·assumption
    ·cases hr
   obtain ⟨cap,rfl⟩:∃ cap,y=.slice (some ⟨E.μ b,E.off b+off,none⟩) len cap:=by
    cases hV with
    | ms _ _ _ _ _ cap=>exact ⟨cap,rfl⟩
    | msE=>exact absurd rfl h0
   obtain ⟨cur,T,hcur,hcp,hR,hpr⟩:=hc.box b cs hbn hcs
   have hRl:=hR.len
   have hcell:∀ j,j<l.length→E.w.cell? ⟨E.μ b,E.off b+off+j,none⟩=some (.int .i64 (l.getD j 0)):=by
    intro j hj
    have h1:((cs.drop off).take len)[j]?=cs[off+j]?:=by rw[List.getElem?_take,if_pos (by omega),List.getElem?_drop]
    have h2:cs[off+j]?=some (.int .i64 (l.getD j 0)):=by
     rw[← h1,hels,List.getElem?_map,List.getElem?_eq_getElem hj]
     simp[List.getD,List.getElem?_eq_getElem hj]
    have hlt:E.off b+off+j<cur.size:=by
     have:=(List.getElem?_eq_some_iff.1 h2).1; omega
    have h3:=hR.v (off+j) _ cur[E.off b+off+j] h2 (by rw[← Nat.add_assoc]; exact Array.getElem?_eq_getElem hlt)
    have h4:cur[E.off b+off+j]=.int .i64 (l.getD j 0):=by
     generalize cur[E.off b+off+j]=z at h3
     cases h3; rfl
    simp[World.cell?,hcur,Array.getElem?_eq_getElem hlt,h4]
   refine .inl ⟨hent _ _,(hI (E.μ b) (E.off b+off) len cap l E.w (by omega) (by omega) hcell).mono fun e w' h=>?_⟩
   obtain ⟨v',rfl,hrow,hne,hbel⟩:=h
   obtain ⟨hxl,hrow⟩:=hrow
   rcases hrow with ⟨rfl,_⟩ | ⟨g',cap',cur',rfl,h1,h2,h3,h4,h5,h6⟩
   ·exact absurd rfl hne
   ·rw[hels]
    have hR':RowP ({ E with w:=w' }:Env) (l.map (AV.int .i64)) cur':=by
     have ht:(l.take len)=l:=List.take_of_length_le (by omega)
     rw[ht,Nat.mul_one] at h6
     have hsz:l.length≤cur'.size:=by rw[h5]; omega
     refine ⟨by simpa using hsz,fun i c hc'=>?_,fun i c x hc' hx=>?_⟩
     ·rw[List.getElem?_map,Option.map_eq_some_iff] at hc'
      obtain ⟨n,_,rfl⟩:=hc'; rfl
     ·rw[List.getElem?_map,Option.map_eq_some_iff] at hc'
      obtain ⟨n,hn,rfl⟩:=hc'
      have hi:=(List.getElem?_eq_some_iff.1 hn).1
      have h7:(cur'.toList.take len)[i]?=(l.map (Value.int .i64))[i]?:=by rw[h6]
      rw[List.getElem?_take,if_pos (by omega),List.getElem?_map,hn] at h7
      have h8:cur'[i]?=some (.int .i64 n):=by simpa using h7
      rw[h8] at hx; cases hx
      exact .int _ _
    have hg0:E.pr g'=0:=hc.new g' h1
    have I1:=I0.grow hbel
    have I2:=I1.adopt (g:=g') (cs:=l.map (AV.int .i64)) (cur:=cur') (T:=te) h2 hg0 (fun b' hb'=>by have:=hc.blt b' (hc.n▸hb'); show E.μ b'≠g'; omega)
     (fun b' i hs=>by
      have:=I0.core.lt (cellSp_congr (E:=E) (E':={ E with w:=w' }) (fun b hb=>⟨rfl,hbel.block _ (hc.blt b hb)⟩) hs)
      omega)
     (fun t ht=>by have:=ht.1; simp[retFr] at this) h1 hR'
    refine ⟨_,rfl,_,rfl,(I2:Inv E s 1 _ (retFr (.tup []) false (s.push (l.map (AV.int .i64)))) _).reret ?_ rfl true⟩
    refine .msN (by show s.n<E.n+1; rw[hc.n]; omega) (by show upd E.μ E.n g' s.n=g'; rw[hc.n]; simp[upd]) (by show (upd E.cp E.n (cur'.size,0) s.n).2=0; rw[hc.n]; simp[upd]) h3 ?_
    show 0+cap'*1≤(upd E.cp E.n (cur'.size,0) s.n).1
    rw[hc.n]; simp[upd,h5]
 ·cases h

theorem setCells_row {b:Nat} {T:TypeId} {fr:Nat × Nat}:∀ (vs:List Value) (o:Nat) (w:World) (cur:Array Value),w.heap[b]?=some (.cells cur T fr)→∃ cur',(w.setCells b o vs).heap[b]?=some (.cells cur' T fr)∧cur'.size=cur.size ∧
  (∀ k,k<cur.size→cur'[k]?=if o≤k∧k<o+vs.length then vs[k - o]? else cur[k]?)∧(∀ k,k≠b→(w.setCells b o vs).heap[k]?=w.heap[k]?)∧(w.setCells b o vs).heap.size=w.heap.size∧(w.setCells b o vs).os=w.os∧(w.setCells b o vs).tape=w.tape∧(w.setCells b o vs).output=w.output
 | [],o,w,cur,h=>⟨cur,h,rfl,fun k hk=>by rw[if_neg (by simp only[List.length_nil]; omega)],fun _ _=>rfl,rfl,rfl,rfl,rfl⟩
 | v::vs,o,w,cur,h=>by
  have h1:(w.setCell ⟨b,o,none⟩ v).heap[b]?=some (.cells (cur.setIfInBounds o v) T fr):=by
   simp[World.setCell,Array.getElem?_modify,h]
  obtain ⟨cur',k1,k2,k3,k4,k5,k6,k7,k8⟩:=setCells_row vs (o+1) (w.setCell ⟨b,o,none⟩ v) _ h1
  refine ⟨cur',k1,by rw[k2]; simp,fun k hk=>?_,fun k hk=>?_,?_,k6,k7,k8⟩
  ·rw[k3 k (by simpa using hk)]
   by_cases e:k=o
   ·subst e
    rw[if_neg (by omega),if_pos (by simp)]
    simp[Array.getElem?_setIfInBounds,hk]
   ·by_cases e2:o+1≤k∧k<o+1+vs.length
    ·rw[if_pos e2,if_pos (by simp; omega)]
     obtain ⟨m,rfl⟩:∃ m,k=o+1+m:=⟨k - (o+1),by omega⟩
     rw[show o+1+m - (o+1)=m by omega,show o+1+m - o=m+1 by omega,List.getElem?_cons_succ]
    ·rw[if_neg e2,if_neg (by simp; omega)]
     simp[Array.getElem?_setIfInBounds,Ne.symm e]
  ·refine (k4 k hk).trans ?_
   simp[World.setCell,Array.getElem?_modify,Ne.symm hk]
  ·refine k5.trans ?_
   simp[World.setCell]

def DelPost (blk off cap n i j:Nat) (cur:Array Value) (w:World) (e:Ending) (w':World):Prop :=
 e=.returned (.slice (some ⟨blk,off,none⟩) (n - (j - i)) cap) ∧
   ((i=j∧w'=w)∨(i<j∧∃ (q:Nat) (Z:List Value),Z.length=(j - i)*2∧w'=((Go.Sort.ahead w q).setCells blk (off+i*2) ((cur.toList.drop (off+j*2)).take ((n - j)*2))).setCells blk (off+(i+(n - j))*2) Z))

theorem φDel_ok {P : Program} {g : Nat} {fn : Func} (hf : P.funcs[g]? = some fn) (hname : (fn.name == "runtime.NumGoroutine") = false) (hb : fn.body.isSome = true)
  (hN:∀ (p:Option Addr) (cap:Nat) (w:World),Calls P g #[.slice p 0 cap,.int .i64 0,.int .i64 0] w fun e w'=>e=.returned (.slice p 0 cap)∧w'=w)
  (hD:∀ (blk off cap n i j:Nat) (cur:Array Value) (T:TypeId) (w:World),w.heap[blk]?=some (.cells cur T (0,0))→n≤cap→n≤9223372036854775807→off+n*2≤cur.size→(∀ k u,cur[k]?=some u→off≤k→k<off+n*2→u.oneCell'=true)→i≤j→j≤n →
   Calls P g #[.slice (some ⟨blk,off,none⟩) n cap,.int .i64 i,.int .i64 j] w (DelPost blk off cap n i j cur w)) :
  ∀ args s v ow s1,φDel args s=some (v,ow,s1)→∀ (E:Env) (vs:Array Value),Core E s→s.lo≤s.n→VA E args vs→Reach P g vs E.w (Ret E s v ow s1):=by
 have hent:∀ vs w,(callFunc g vs).run P w=.ok (.enter g vs) w:=by
  intro vs w
  have h1 : fn.name ≠ "runtime.NumGoroutine" := by simpa using hname
  obtain ⟨bd,hbd⟩:=Option.isSome_iff_exists.1 hb
  simp[callFunc,hf,h1,hbd]
 intro args s v ow s1 h E vs hc hlo hva
 have three:∀ {x:AV} {k1 k2:IntKind} {i j:Int},args=[x,.int k1 i,.int k2 j]→∃ y,vs=#[y,.int k1 i,.int k2 j]∧V E x y:=by
  rintro x k1 k2 i j rfl
  obtain ⟨hl',hv⟩:=hva
  obtain ⟨vl⟩:=vs
  match vl,hl' with
  | [y,y1,y2],_ =>
   have h1:=hv 1 _ y1 rfl rfl
   have h2:=hv 2 _ y2 rfl rfl
   cases h1; cases h2
   exact ⟨y,rfl,hv 0 _ _ rfl rfl⟩
 have hlen0:∀ {x:AV} {y:Value},V E x y→(∀ {z},x=.sl z true []→∃ A,y=.slice A 0 0):=by
  rintro x y hV z rfl
  generalize hbb:(AV.sl z true [])=bb at hV
  cases hV<;>cases hbb
  ·exact ⟨_,rfl⟩
  ·rename_i g' o cap vals k1 k2 k3 k4 k5 k6 k7
   have:cap=0:=k7 rfl
   exact ⟨_,by rw[this]; rfl⟩
 unfold φDel at h
 split at h
 ·rename_i z i j
  split at h
  case isFalse=>cases h
  rename_i hij
  obtain ⟨rfl,rfl⟩:=hij
  cases h
  obtain ⟨y,rfl,hy⟩:=three rfl
  obtain ⟨A,rfl⟩:=hlen0 hy rfl
  refine .inl ⟨hent _ _,(hN A 0 E.w).mono fun e w' h=>?_⟩
  obtain ⟨rfl,rfl⟩:=h
  exact ⟨_,rfl,E,rfl,Inv.here hc hlo hy⟩
 ·rename_i ag sz b off len i j
  split at h
  case isFalse=>cases h
  rename_i hcnd
  obtain ⟨rfl,rfl,hro,hbn,i0,hij,hjl,hl63⟩:=hcnd
  split at h
  case h_2=>cases h
  rename_i cs hcs
  split at h
  case isFalse=>cases h
  rename_i hcl
  cases h
  obtain ⟨y,rfl,hV⟩:=three rfl
  obtain ⟨i,rfl⟩:∃ k:Nat,i=k:=⟨i.toNat,by omega⟩
  obtain ⟨j,rfl⟩:∃ k:Nat,j=k:=⟨j.toNat,by omega⟩
  simp only[Int.toNat_natCast]
  have hij':i≤j:=by omega
  have hjl':j≤len:=by omega
  obtain ⟨cur,T,hcur,hcp,hR,hpr⟩:=hc.box b cs hbn hcs
  have hRl:=hR.len
  have I0:Inv E s 1 E (retFr (.tup []) false s) ⟨#[.tuple #[]],[]⟩:=Inv.here hc hlo (.tup [] #[] rfl (by simp))
  have hnl:(cs.take (i*2)++cs.drop (j*2)).length=(i+(len - j))*2:=by
   rw[List.length_append,List.length_take,List.length_drop]; omega
  have fin:∀ (vs2:Array Value) (w':World) (y2:Value),vs2.size=cur.size→RowO E (E.off b) (cs.take (i*2)++cs.drop (j*2)) vs2→w'.heap[E.μ b]?=some (.cells vs2 T (0,0))→(∀ k,k≠E.μ b→w'.heap[k]?=E.w.heap[k]?)→w'.heap.size=E.w.heap.size→w'.os=E.w.os→w'.tape=E.w.tape→w'.output=E.w.output →
    V E (.ms ag 2 b 0 (i+(len - j))) y2→Ret E s (.ms ag 2 b 0 (i+(len - j))) false (s.setBox b (cs.take (i*2)++cs.drop (j*2)) fun _=>false) y2 w':=by
   intro vs2 w' y2 hsz hr2 hh1 hh2 hh3 e1 e2 e3 hV2
   have I1:=I0.setBox (b:=b) (i0:=0) (cs:=cs) (cs':=cs.take (i*2)++cs.drop (j*2)) (cur:=cur) (vs:=vs2) (T:=T) (os':=(retFr (.tup []) false s).os) (fl:=fun _=>false) hbn hro hcs hcur hsz hr2 (fun t h=>h)
    (fun k hk _=>by cases hk) (fun hk=>by cases hk) (fun k hk1 hk2 hp=>by
     rw[pureL_iff] at hp ⊢
     intro c hc'
     rcases List.mem_append.1 hc' with hc' | hc'
     ·exact hp c (List.mem_of_mem_take hc')
     ·exact hp c (List.mem_of_mem_drop hc'))
   have hw:∀ k:Nat,w'.heap[k]?=(E.set (E.μ b) vs2 0).w.heap[k]?:=by
    intro k
    show _=(E.w.setRow (E.μ b) vs2).heap[k]?
    by_cases hk:k=E.μ b
    ·subst hk; rw[hh1,setRow_heap _ _ _ _ _ _ hcur]
    ·rw[hh2 k hk,setRow_other _ _ _ _ hk]
   have hszw:(E.set (E.μ b) vs2 0).w.heap.size≤w'.heap.size:=by rw[hh3]; exact Nat.le_of_eq (size_setRow _ _ _)
   have hbl:Below (E.set (E.μ b) vs2 0).w.heap.size (E.set (E.μ b) vs2 0).w w':=⟨e1,e2,e3,hszw,fun k _=>hw k⟩
   have I2:=Inv.grow I1 hbl
   refine ⟨_,rfl,Inv.reret (s:=s.setBox b (cs.take (i*2)++cs.drop (j*2)) fun _=>false) I2 ?_ rfl false⟩
   have hn2:({ (E.set (E.μ b) vs2 0) with w:=w' }:Env).n=E.n:=rfl
   generalize hm:i+(len - j)=m at hV2
   cases hV2 with
   | ms _ _ _ _ _ cap q1 q2 q3=>exact .ms ag 2 b 0 m cap q1 q2 q3
   | msE _ _ _ _ A q1 q2=>exact .msE ag 2 b 0 A q1 q2
  cases hV with
  | msE _ _ _ _ A q1 q2 =>
   obtain rfl:j=0:=by omega
   obtain rfl:i=0:=by omega
   refine .inl ⟨hent _ _,(hN A 0 E.w).mono fun e w' h=>?_⟩
   obtain ⟨rfl,rfl⟩:=h
   have hcs0:cs=[]:=List.eq_nil_of_length_eq_zero (by omega)
   refine ⟨_,rfl,fin cur _ _ rfl ?_ hcur (fun _ _=>rfl) rfl rfl rfl rfl (.msE ag 2 b 0 A q1 q2)⟩
   subst hcs0
   exact ⟨by simp; simp at hRl; omega,by simp,by simp⟩
  | ms _ _ _ _ _ cap q1 q2 q3 =>
   have hone:∀ k u,cur[k]?=some u→E.off b+0≤k→k<E.off b+0+len*2→u.oneCell'=true:=by
    intro k u hu h1 h2
    obtain ⟨m,rfl⟩:∃ m,k=E.off b+m:=⟨k - E.off b,by omega⟩
    have hm:m<cs.length:=by omega
    have h3:=hR.v m cs[m] u (List.getElem?_eq_getElem hm) hu
    have h4:=hR.one m cs[m] (List.getElem?_eq_getElem hm)
    exact oneCell_of (h3.one h4)
   refine .inl ⟨hent _ _,(hD (E.μ b) (E.off b+0) cap len i j cur T E.w hcur q2 (by omega) (by omega) hone hij' hjl').mono fun e w' h=>?_⟩
   obtain ⟨rfl,h⟩:=h
   refine ⟨_,rfl,?_⟩
   have hVn:V E (.ms ag 2 b 0 (i+(len - j))) (.slice (some ⟨E.μ b,E.off b+0,none⟩) (len - (j - i)) cap):=by
    rw[(fun (a b c:Nat) (h1:a≤b) (h2:b≤c)=>(by omega:c - (b - a)=a+(c - b))) i j len hij' hjl']
    exact .ms ag 2 b 0 _ cap q1 (by omega) q3
   rcases h with ⟨rfl,rfl⟩ | ⟨hlt,q,Z,hZ,rfl⟩
   ·refine fin cur _ _ rfl ?_ hcur (fun _ _=>rfl) rfl rfl rfl rfl hVn
    rw[List.take_append_drop]
    exact hR
   ·have hcur1:(Go.Sort.ahead E.w q).heap[E.μ b]?=some (.cells cur T (0,0)):=hcur
    obtain ⟨c1,a1,a2,a3,a4,a5,a6,a7,a8⟩:=setCells_row ((cur.toList.drop (E.off b+0+j*2)).take ((len - j)*2)) (E.off b+0+i*2) (Go.Sort.ahead E.w q) cur hcur1
    obtain ⟨c2,b1,b2,b3,b4,b5,b6,b7,b8⟩:=setCells_row Z (E.off b+0+(i+(len - j))*2) _ c1 a1
    have hnews:((cur.toList.drop (E.off b+0+j*2)).take ((len - j)*2)).length=(len - j)*2:=by
     rw[List.length_take,List.length_drop,Array.length_toList]; omega
    refine fin c2 _ _ (b2.trans a2) ⟨by rw[hnl,b2,a2]; omega,?_,?_⟩ b1 (fun k hk=>(b4 k hk).trans (a4 k hk)) (b5.trans a5) (b6.trans a6) (b7.trans a7) (b8.trans a8) hVn
    ·intro k c hk
     rw[List.getElem?_append] at hk
     split at hk
     ·rw[List.getElem?_take] at hk
      split at hk
      ·exact hR.one k c hk
      ·cases hk
     ·rw[List.getElem?_drop] at hk
      exact hR.one _ c hk
    ·intro k c x hk hx
     have hklt:=(List.getElem?_eq_some_iff.1 hk).1
     rw[hnl] at hklt
     rw[b3 (E.off b+k) (by rw[a2]; omega),if_neg (by omega),a3 (E.off b+k) (by omega)] at hx
     rw[List.getElem?_append,List.length_take] at hk
     split at hk
     ·rename_i hki
      rw[if_neg (by omega)] at hx
      rw[List.getElem?_take,if_pos (by omega)] at hk
      exact hR.v k c x hk hx
     ·rename_i hki
      rw[hnews,if_pos (by omega),List.getElem?_take,if_pos (by omega),List.getElem?_drop,Array.getElem?_toList] at hx
      rw[List.getElem?_drop] at hk
      refine hR.v _ c x hk ?_
      rw[← hx]
      congr 1
      omega
 ·cases h
end Ae
namespace Ae
open Go
end Ae
namespace Ae
open Go
variable {C:Cfg} {I:FI} {t:List Item} {tm:Nat→AV} {os:Nat→Bool} {s:St} {Q:Fr→Prop} {all:Array Oper} {l:List Oper} {o:Oper} {draw:Bool}
theorem q {d:Nat} {v:AV} (X:AV) (k:AOps C I draw all l ⟨upd tm d X,upd os d false,s⟩ Q) (h:(wantedA o all tm,callee? o tm,moveOp C I o ⟨tm,os,s⟩,pureOp C o tm,o.dst)=(some true,none,none,some v,some d):=by rfl) (hv:v=X:=by rfl):AOps C I draw all (o::l) ⟨tm,os,s⟩ Q:=.p h hv k
theorem sk {d:Nat} (k:AOps C I draw all l ⟨upd tm d (.tup []),upd os d false,s⟩ Q) (hw:wantedA o all tm=some false:=by rfl) (hd:o.dst=some d:=by rfl):AOps C I draw all (o::l) ⟨tm,os,s⟩ Q:=.skipR hw hd k
theorem nl (k:Q ⟨tm,os,s⟩):AOps C I draw all [] ⟨tm,os,s⟩ Q:=.nil k
theorem sr {f:Fr} {id:Nat} {b:Code} (k:AOps C I draw all all.toList f fun f'=>AW C I (.code b::t) f' Q):AW C I (.code (.seq (.region id all draw) b)::t) f Q:=AW.sr k
theorem ns {id:Nat} {b:Code} {all2:Array Oper} {draw2:Bool} (k:AOps C I draw2 all2 all2.toList ⟨tm,os,s⟩ fun f'=>AW C I (.code b::t) f' Q):AOps C I draw all [] ⟨tm,os,s⟩ fun f'=>AW C I (.code (.seq (.region id all2 draw2) b)::t) f' Q:=.nil (AW.sr k)
theorem lE {d:Nat} {ty:Nat} {X:Operand} {ti:TI} {cs:List AV} {off:Nat} (v:AV) (k:AOps C I draw all l ⟨upd tm d v,upd os d false,s⟩ Q) (hw:wantedA o all tm=some true:=by rfl) (ho:o.op=.load ty X:=by rfl) (hT:C.ty ty=some ti:=by rfl) (hX:evalO tm X=.eptr cs off:=by rfl) (hp:part ti cs off=some v:=by rfl) (hd:o.dst=some d:=by rfl):AOps C I draw all (o::l) ⟨tm,os,s⟩ Q:=.ldE hw ho hT hX hp hd k
theorem aq {d x:Nat} {b:Bool} (v':AV) (k:AOps C I draw all l ⟨upd tm d v',upd (upd os x false) d b,s⟩ Q) (hw:wantedA o all tm=some true:=by rfl) (hx:o.op=.assign (.tmp x):=by rfl) (hd:o.dst=some d:=by rfl) (hv:tm x=v':=by rfl) (hb:os x=b:=by rfl):AOps C I draw all (o::l) ⟨tm,os,s⟩ Q:=.assignR hw hx hd hv hb k
theorem cT {f:Fr} {x:Operand} {a b:Code} {c:Bool} (hc:c=true) (k:AW C I (.code a::t) f Q) (h:evalO f.tm x=.bool c:=by rfl):AW C I (.code (.cond x a b)::t) f Q:=.condT (h.trans (congrArg AV.bool hc)) k
theorem cF {f:Fr} {x:Operand} {a b:Code} {c:Bool} (hc:c=false) (k:AW C I (.code b::t) f Q) (h:evalO f.tm x=.bool c:=by rfl):AW C I (.code (.cond x a b)::t) f Q:=.condF (h.trans (congrArg AV.bool hc)) k
theorem kn (d:Nat) {b c:Bool} (hc:b=c) (k:AOps C I draw all l ⟨upd tm d (.bool c),os,s⟩ Q) (hb:tm d=.bool b:=by rfl):AOps C I draw all l ⟨tm,os,s⟩ Q:=.know hb hc k
theorem rR {L:List (Nat × AV)} (hL:agree tm L):AOps C I draw all [] ⟨tm,os,s⟩ (fun f'=>∃ tm' os',f'=(⟨updL tm' L,updL os' [],s⟩:Fr)):=.resR L [] hL trivial _ ⟨_,_,rfl⟩
theorem rt {L:List (Nat × AV)} (hL:agree tm L) (k:AW C I t ⟨updL tm L,updL os [],s⟩ Q):AW C I t ⟨tm,os,s⟩ Q:=.res L [] hL trivial k
theorem cP {d g:Nat} {args:List AV} {p:AV→Prop} (h:ACall C g args s fun v _ s'=>p v∧s'=s) (k:∀ v ow,p v→AOps C I false all l ⟨upd tm d v,upd os d ow,s⟩ Q) (hw:wantedA o all tm=some true:=by rfl) (hc:callee? o tm=some (g,args):=by rfl) (hd:o.dst=some d:=by rfl) (ha:alias I o=false:=by rfl):AOps C I false all (o::l) ⟨tm,os,s⟩ Q:=.callP hw hc hd h k ha
@[reducible] def J (x:Int):AV:=.int .i64 x
@[reducible] def rJ:Int→AV→Prop:=rI .i64
end Ae
namespace Ae
open Go

def VL (E:Env) (as:List AV) (cs:List Value):Prop:=as.length=cs.length∧∀ (i:Nat) a c,as[i]?=some a→cs[i]?=some c→V E a c∧a.one=true

theorem VL.one {E:Env} {a:AV} {c:Value} (h:V E a c) (ha:a.one=true):VL E [a] [c]:=⟨rfl,fun i a' c' h1 h2=>by
 cases i with
 | zero=>simp at h1 h2; subst h1 h2; exact ⟨h,ha⟩
 | succ i=>simp at h1⟩
theorem VL.cat {E:Env} {as bs:List AV} {cs:List Value} {o n m:Nat} (h:VL E as ((cs.drop o).take n)) (k:VL E bs ((cs.drop (o+n)).take m)) (hn:as.length=n):VL E (as++bs) ((cs.drop o).take (n+m)):=by
 have e:(cs.drop o).take (n+m)=(cs.drop o).take n++(cs.drop (o+n)).take m:=by
  rw[List.take_add,List.drop_drop]
 rw[e]
 refine ⟨by rw[List.length_append,List.length_append,h.1,k.1],fun i a c h1 h2=>?_⟩
 by_cases hi:i<as.length
 ·rw[List.getElem?_append_left hi] at h1
  rw[List.getElem?_append_left (by rw[← h.1]; exact hi)] at h2
  exact h.2 i a c h1 h2
 ·rw[List.getElem?_append_right (by omega)] at h1
  rw[List.getElem?_append_right (by rw[← h.1]; omega),← h.1] at h2
  exact k.2 _ a c h1 h2

section
variable {H:Type} {enc:TypeId × Value→H} {P:Program} {W:World}

def Rd (enc:TypeId × Value→H) (P:Program) (W:World) (t:TypeId) {α:Type} (f:α→List (AV→Prop)) (B:α→Prop):Prop :=
 ∀ fuel cs d p,DataW.trod enc P W 0 (fun _=>true) true fuel t cs=some (d,p)→∃ (x:α) (as:List AV),Cs (f x) as∧VL (Env.of W) as cs∧B x

def bI (k:IntKind) (n:Int):Prop:=(Lit.int k n).wf=true
def bB (_:Bool):Prop:=True
def bS (s:List UInt8):Prop:=s.length≤maxLen
def bL {α:Type} (B:α→Prop) (l:List α):Prop:=l.length≤maxLen∧∀ x∈l,B x

theorem Rd.int {t:TypeId} {k:IntKind} (ht:P.underlying t=some (.int k)):Rd enc P W t (fun x=>[rI k x]) (bI k):=by
 intro fuel cs d p h
 obtain ⟨n,rfl,_,hw⟩:=DataW.trod_int ht h
 exact ⟨n,[_],.cons rfl .nil,.one (.int _ _) rfl,hw⟩
theorem Rd.bool {t:TypeId} (ht:P.underlying t=some .bool):Rd enc P W t (fun x=>[rB x]) bB:=by
 intro fuel cs d p h
 obtain ⟨b,rfl,_⟩:=DataW.trod_bool ht h
 exact ⟨b,[_],.cons rfl .nil,.one (.bool _) rfl,trivial⟩
theorem Rd.str {t:TypeId} (ht:P.underlying t=some .string):Rd enc P W t (fun x=>[rS x]) bS:=by
 intro fuel cs d p h
 obtain ⟨s,rfl,_,hs⟩:=DataW.trod_string ht h
 exact ⟨_,[_],.cons rfl .nil,.one (.str s) rfl,by unfold bS; simpa using hs⟩

def elemOf (ag:Bool) (as:List AV):AV:=if ag then .agg as else as.headD .undef

theorem elem_cells {E:Env} {ag:Bool} {sz:Nat} {as:List AV} {cs:List Value} (h:VL E as cs) (hl:as.length=sz) (h0:ag=false→sz=1):(elemOf ag as).cells=as:=by
 cases ag with
 | true=>rfl
 | false =>
  have h1:=h0 rfl
  match as,hl with
  | [a],_ =>
   have hlen:=h.1
   match cs,hlen with
   | [c],_=>exact AV.cells_one (h.2 0 a c rfl rfl).2
  | [],hl=>simp at hl; omega
  | _::_::_,hl=>simp at hl; omega

theorem cell_pr {W:World} {g o:Nat} {v:Value} (h:W.cell? ⟨g,o,none⟩=some v):o<(Env.of W).pr g:=by
 unfold World.cell? at h
 simp only[Env.of]
 split at h
 ·rename_i c t fr hg
  simp only[Option.isSome_none,Bool.false_eq_true,if_false] at h
  simp only[hg]
  exact (Array.getElem?_eq_some_iff.1 h).1
 ·cases h

theorem Rd.slice {t e:TypeId} {α:Type} {f:α→List (AV→Prop)} {B:α→Prop} {r:α→AV→Prop} {ag:Bool} {sz:Nat} (ht:P.underlying t=some (.slice e)) (hsz:P.cellsOf e=sz) (hpos:0<sz) (h0:ag=false→sz=1) (hr:Rd enc P W e f B) (hrf:∀ x as,Cs (f x) as→as.length=sz→r x (elemOf ag as)) :
  Rd enc P W t (fun l=>[rL r sz l]) (bL B):=by
 intro fuel cs d p h
 rcases Deep.open_slice ht h with ⟨rfl,_⟩ | ⟨a,len,cap,m,n,D,Pl,rfl,_,hlc,hmax,hm,_,hx⟩
 ·exact ⟨[],[.sl 0 false []],.cons ⟨0,false,[],rfl,.inr ⟨rfl,rfl⟩,.nil⟩ .nil,.one (.slNil 0 false none) rfl,by simp[bL]⟩
 ·have hm':m=cap:=by simpa using hm
  subst hm'
  by_cases hc0:m=0
  ·subst hc0
   have hl0:len=0:=by omega
   subst hl0
   exact ⟨[],[.sl 0 false []],.cons ⟨0,false,[],rfl,.inr ⟨rfl,rfl⟩,.nil⟩ .nil,.one (.slNil 0 false (some a)) rfl,by simp[bL]⟩
  ·have hsp:a.spot=none:=by
    obtain ⟨cs',h1,_⟩:=hx 0 (by omega)
    rw[hsz] at h1
    obtain ⟨_,h2,h3⟩:=World.cells?_some h1
    have h4:=h3 0 hpos
    rw[List.getElem?_eq_getElem (by omega)] at h4
    have e:(a.add (0*sz)).add 0=a:=by simp[Addr.add]
    rw[e] at h4
    unfold World.cell? at h4
    split at h4
    ·cases hs:a.spot with
     | none=>rfl
     | some sp=>rw[hs] at h4; simp at h4
    ·cases h4
   obtain ⟨g,o,sp⟩:=a
   simp only at hsp
   subst hsp
   have hel:∀ i,i<len→∃ (x:α) (as:List AV) (cs':List Value),Cs (f x) as∧VL (Env.of W) as cs'∧B x∧as.length=sz∧∀ j,j<sz→W.cell? ⟨g,o+i*sz+j,none⟩=cs'[j]?:=by
    intro i hi
    obtain ⟨cs',h1,h2⟩:=hx i (by omega)
    rw[hsz] at h1
    obtain ⟨x,as,h3,h4,hb⟩:=hr n cs' _ _ h2
    obtain ⟨_,h5,h6⟩:=World.cells?_some h1
    refine ⟨x,as,cs',h3,h4,hb,by rw[h4.1]; exact h5,fun j hj=>?_⟩
    have:=h6 j hj
    rwa [addr_add,addr_add] at this
   have key:∀ k,k≤len→∃ (l:List α) (els:List AV),els.length=k∧L2 r l els∧(∀ x∈l,B x)∧∀ i el,els[i]?=some el→∃ as cs',el=elemOf ag as∧VL (Env.of W) as cs'∧as.length=sz∧∀ j,j<sz→W.cell? ⟨g,o+i*sz+j,none⟩=cs'[j]?:=by
    intro k
    induction k with
    | zero=>intro _; exact ⟨[],[],rfl,.nil,by simp,fun i el h=>by simp at h⟩
    | succ k ih =>
     intro hk
     obtain ⟨l,els,h1,h2,hB,h3⟩:=ih (by omega)
     obtain ⟨x,as,cs',h4,h5,hb,h6,h7⟩:=hel k (by omega)
     refine ⟨l++[x],els++[elemOf ag as],by simp[h1],h2.app (.cons (hrf x as h4 h6) .nil),(by intro y hy; rcases List.mem_append.1 hy with hy | hy; exact hB y hy; rw[List.mem_singleton.1 hy]; exact hb),fun i el hi=>?_⟩
     by_cases hik:i<k
     ·rw[List.getElem?_append_left (by omega)] at hi
      exact h3 i el hi
     ·rw[List.getElem?_append_right (by omega)] at hi
      have:i=k:=by
       have:=(List.getElem?_eq_some_iff.1 hi).1
       simp at this
       omega
      subst this
      rw[h1,Nat.sub_self] at hi
      simp at hi
      exact ⟨as,cs',hi.symm,h5,h6,h7⟩
   obtain ⟨l,els,h1,h2,hB,h3⟩:=key len (Nat.le_refl _)
   refine ⟨l,[.sl sz false els],.cons ⟨sz,false,els,rfl,.inl rfl,h2⟩ .nil,.one ?_ rfl,by rw[← h2.len]; omega,hB⟩
   have cell:∀ (i:Nat) el (j:Nat) c,els[i]?=some el→el.cells[j]?=some c→∃ u,W.cell? ⟨g,o+i*sz+j,none⟩=some u∧V (Env.of W) c u∧c.one=true:=by
    intro i el j c hi hj
    obtain ⟨as,cs',rfl,h4,h5,h6⟩:=h3 i el hi
    rw[elem_cells h4 h5 h0] at hj
    have hlt:=(List.getElem?_eq_some_iff.1 hj).1
    have hc:cs'[j]?=some (cs'[j]'(by rw[← h4.1]; exact hlt)):=List.getElem?_eq_getElem _
    exact ⟨_,by rw[h6 j (by omega),hc],h4.2 j c _ hj hc⟩
   have:=V.sl (E:=Env.of W) sz false els g o m (fun i j=>(W.cell? ⟨g,o+i*sz+j,none⟩).getD Go.undef) (by omega) (by simp) (fun i el hi=>?_) (fun i el j c hi hj=>?_) (fun i el j c hi hj=>?_) (fun i el j c hi hj=>?_) (fun i el j c hi hj=>?_)
   ·rw[h1] at this; exact this
   ·obtain ⟨as,cs',rfl,h4,h5,h6⟩:=h3 i el hi
    rw[elem_cells h4 h5 h0]; exact h5
   ·obtain ⟨u,k1,k2,k3⟩:=cell i el j c hi hj
    exact k3
   ·obtain ⟨u,k1,k2,k3⟩:=cell i el j c hi hj
    exact cell_pr k1
   ·obtain ⟨u,k1,k2,k3⟩:=cell i el j c hi hj
    show W.cell? _=_
    rw[k1]; rfl
   ·obtain ⟨u,k1,k2,k3⟩:=cell i el j c hi hj
    rw[k1]; exact k2

theorem trod_fields {t:TypeId} {F:Array Field} (ht:P.underlying t=some (.struct F)) {fuel:Nat} {cs:List Value} {x:DataW H × List MemPlace} (h:DataW.trod enc P W 0 (fun _=>true) true fuel t cs=some x) :
  cs.length=P.cellsOf t∧∃ n,∀ (i:Nat) f,F[i]?=some f→∃ d p,DataW.trod enc P W 0 (fun _=>true) true n f.type ((cs.drop f.offset).take (P.cellsOf f.type))=some (d,p):=by
 obtain ⟨xs,n,_,_,hl,hsz,hget⟩:=DataW.trod_struct ht h
 refine ⟨hl,n,fun i f hi=>?_⟩
 have h1:=hget i f hi
 have hlt:i<xs.length:=by rw[hsz]; exact (Array.getElem?_eq_some_iff.1 hi).1
 rw[List.getElem?_eq_getElem hlt] at h1
 exact ⟨_,_,h1⟩

theorem VL.whole {E:Env} {as:List AV} {cs:List Value} {n:Nat} (h:VL E as ((cs.drop 0).take n)) (hl:cs.length=n):VL E as cs:=by
 rw[List.drop_zero,List.take_of_length_le (by omega)] at h; exact h
theorem VL.len {E:Env} {as:List AV} {cs:List Value} {o n N:Nat} (h:VL E as ((cs.drop o).take n)) (hl:cs.length=N) (hn:o+n≤N):as.length=n:=by
 rw[h.1,List.length_take,List.length_drop]; omega

theorem VL.agg {E:Env} {as:List AV} {vs:Array Value} (h:VL E as vs.toList):V E (.agg as) (.agg vs) :=
 .agg as vs (by rw[h.1]; simp) (fun i c hc=>by
  have hlt:=(List.getElem?_eq_some_iff.1 hc).1
  exact (h.2 i c _ hc (List.getElem?_eq_getElem (by rw[← h.1]; exact hlt))).2) (fun i c v hc hv=>(h.2 i c v hc (by simpa using hv)).1)
end
end Ae
namespace Ae
open Go

theorem w64 {n:Int} (h:-9223372036854775808≤n) (k:n≤9223372036854775807):IntKind.wrap .i64 n=n:=IntWalk.i64_in n ⟨h,k⟩
theorem w1 {i:Nat} {n:Nat} (h:i<n) (k:n≤9223372036854775807):IntKind.wrap .i64 ((i:Int)+1)=((i+1:Nat):Int):=by rw[w64 (by omega) (by omega)]; rfl
theorem ix_nat {α:Type} (l:List α) (i:Nat):ix l (i:Int)=l[i]?:=by unfold ix; rw[if_pos (Int.natCast_nonneg i)]; rfl
theorem ix_some {α:Type} {l:List α} {i:Nat} (h:i<l.length):ix l (i:Int)=some l[i]:=by rw[ix_nat,List.getElem?_eq_getElem h]
theorem ix_lit {α:Type} {l:List α} {i:Nat} {x:α} (h:l[i]?=some x):ix l (i:Int)=some x:=by rw[ix_nat,h]
theorem ltT {i n:Nat} (h:i<n):decide ((i:Int)<(n:Int))=true:=by simpa using h
theorem ltF (n:Nat):decide ((n:Int)<(n:Int))=false:=by simp

theorem bL.len {α:Type} {B:α→Prop} {l:List α} (h:bL B l):l.length≤9223372036854775807:=by have:=h.1; unfold maxLen at this; omega
theorem bS.len {l:List UInt8} (h:bS l):l.length≤9223372036854775807:=by unfold bS maxLen at h; omega

theorem loop_allL {α ρ:Type} {l:List α} {step:Int→Option (Int ⊕ ρ)} {p:α→Bool} {rt:Option ρ} {rf:ρ} (hend:loop step (l.length:Int)=rt) (hst:∀ (i:Nat) x,l[i]?=some x→step (i:Int)=if p x then some (.inl ((i+1:Nat):Int)) else some (.inr rf)) :
  loop step 0=if l.all p then rt else some rf:=by
 have key:∀ (m:List α) i,l=l.take i++m→i+m.length=l.length→loop step (i:Int)=if m.all p then rt else some rf:=by
  intro m
  induction m with
  | nil => intro i _ hi; obtain rfl : i = l.length := by simpa using hi
           simpa using hend
  | cons x m ih =>
   intro i hm hi
   have hx:l[i]?=some x:=by
    have hlt:i<l.length:=by simp at hi; omega
    rw[hm,List.getElem?_append_right (by rw[List.length_take]; omega),List.length_take,Nat.min_eq_left (Nat.le_of_lt hlt),Nat.sub_self]
    rfl
   have h1:=hst i x hx
   have hm':l=l.take (i+1)++m:=by
    rw[List.take_add_one,hx]
    conv=>lhs; rw[hm]
    simp
   rw[List.all_cons]
   cases hp:p x with
   | true =>
    rw[hp,if_pos rfl] at h1
    rw[loop_L h1,ih (i+1) hm' (by simp at hi; omega),Bool.true_and]
   | false =>
    rw[hp,if_neg (by simp)] at h1
    rw[loop_R h1,Bool.false_and,if_neg (by simp)]
 have:=key l 0 (by simp) (by simp)
 exact this


def smT {α:Type} (_:α):Prop:=True
def smS (s:List UInt8):Prop:=s.length≤1048576
def smL {α:Type} (p:α→Prop) (l:List α):Prop:=l.length≤1048576∧∀ x∈l,p x

def SzOk {α:Type} (p:α→Prop) (f:α→Int→Option Int) (x:α):Prop:=∀ left,0≤left→left≤1048576→∃ r,f x left=some r∧r≤left∧(r<0∨0≤r∧p x)

theorem sz_flat {α:Type} {f:List α→Int→Option Int} {a:List α} (hf:∀ left,f a left=if decide (IntKind.wrap .i64 (left - (a.length:Int))<0)=true then some (-1) else some (IntKind.wrap .i64 (left - (a.length:Int)))) (ha:a.length≤9223372036854775807):SzOk (smL smT) f a:=by
 intro left h0 h1
 rw[hf,w64 (by omega) (by omega)]
 by_cases h:left - (a.length:Int)<0
 ·exact ⟨-1,by rw[if_pos (by simpa using h)],by omega,.inl (by omega)⟩
 ·exact ⟨_,by rw[if_neg (by simpa using h)],by omega,.inr ⟨by omega,by omega,fun _ _=>trivial⟩⟩

theorem sz_loop {α:Type} {p:α→Prop} {f:List α→Int→Option Int} {sub:α→Int→Option Int} {S:Int × Int→Option ((Int × Int) ⊕ Int)} {a:List α}
  (hS:∀ left i,S (left,i)=if decide (i<(a.length:Int))=true then (ix a i).bind fun x=>(sub x left).bind fun y=>if decide (y<0)=true then some (.inr (-1)) else some (.inl (y,IntKind.wrap .i64 (i+1))) else some (.inr left))
  (hf:∀ left,f a left=if decide (IntKind.wrap .i64 (left - (a.length:Int))<0)=true then some (-1) else loop S (IntKind.wrap .i64 (left - (a.length:Int)),0))
  (ha:a.length≤9223372036854775807) (hsub:∀ x∈a,SzOk p sub x):SzOk (smL p) f a:=by
 have key:∀ k (i:Nat) left,i+k=a.length→0≤left→left≤1048576→∃ r,loop S (left,(i:Int))=some r∧r≤left∧(r<0∨0≤r∧∀ x∈a.drop i,p x):=by
  intro k
  induction k with
  | zero =>
   intro i left hi h0 h1
   have hi':i=a.length:=by omega
   refine ⟨left,loop_R (by rw[hS,hi',ltF]; rfl),Int.le_refl _,.inr ⟨h0,by rw[hi',List.drop_length]; simp⟩⟩
  | succ k ih =>
   intro i left hi h0 h1
   have hlt:i<a.length:=by omega
   obtain ⟨y,h2,h3,h4⟩:=hsub a[i] (List.getElem_mem hlt) left h0 h1
   have hst:S (left,(i:Int))=if decide (y<0)=true then some (.inr (-1)) else some (.inl (y,((i+1:Nat):Int))):=by
    rw[hS,ltT hlt,if_pos rfl,ix_some hlt,Option.bind_some,h2,Option.bind_some,w1 hlt ha]
   rcases h4 with h4 | ⟨h4,h5⟩
   ·rw[if_pos (by simpa using h4)] at hst
    exact ⟨-1,loop_R hst,by omega,.inl (by omega)⟩
   ·rw[if_neg (by simp; omega)] at hst
    obtain ⟨r,h6,h7,h8⟩:=ih (i+1) y (by omega) h4 (by omega)
    refine ⟨r,(loop_L hst).trans h6,by omega,h8.imp id fun ⟨h9,h10⟩=>⟨h9,fun x hx=>?_⟩⟩
    rw[List.drop_eq_getElem_cons hlt] at hx
    rcases List.mem_cons.1 hx with rfl | hx
    ·exact h5
    ·exact h10 x hx
 intro left h0 h1
 rw[hf,w64 (by omega) (by omega)]
 by_cases h:left - (a.length:Int)<0
 ·exact ⟨-1,by rw[if_pos (by simpa using h)],by omega,.inl (by omega)⟩
 ·rw[if_neg (by simpa using h)]
  obtain ⟨r,h2,h3,h4⟩:=key a.length 0 (left - (a.length:Int)) (by omega) (by omega) (by omega)
  exact ⟨r,h2,by omega,h4.imp id fun ⟨h5,h6⟩=>⟨h5,by omega,by simpa using h6⟩⟩

theorem to_loop {α:Type} {f:List α→Option (List α)} {sub:α→Option α} {S:List α × Int→Option ((List α × Int) ⊕ List α)} {a:List α} {z:α}
  (hS:∀ out i,S (out,i)=if decide (i<(a.length:Int))=true then (ix a i).bind fun x=>(sub x).bind fun y=>(ix out i).bind fun _=>some (.inl (out.set (Int.toNat i) y,IntKind.wrap .i64 (i+1))) else some (.inr out))
  (hf:f a=(mk z (a.length:Int)).bind fun l=>loop S (l,0)) (ha:a.length≤1048576) (hsub:∀ x∈a,sub x=some x):f a=some a:=by
 have key:∀ k (i:Nat) (out:List α),i+k=a.length→out.length=a.length→out.take i=a.take i→loop S (out,(i:Int))=some a:=by
  intro k
  induction k with
  | zero =>
   intro i out hi ho ht
   have hi':i=a.length:=by omega
   have:out=a:=by
    rw[hi',List.take_length,← ho,List.take_length] at ht; exact ht
   rw[this]
   exact loop_R (by rw[hS,hi',ltF]; rfl)
  | succ k ih =>
   intro i out hi ho ht
   have hlt:i<a.length:=by omega
   have hst:S (out,(i:Int))=some (.inl (out.set i a[i],((i+1:Nat):Int))):=by
    rw[hS,ltT hlt,if_pos rfl,ix_some hlt,Option.bind_some,hsub _ (List.getElem_mem hlt),Option.bind_some,ix_some (by omega),Option.bind_some,w1 hlt (by omega)]
    rfl
   rw[loop_L hst]
   refine ih (i+1) _ (by omega) (by simp[ho]) ?_
   rw[List.take_add_one,List.take_add_one,List.take_set_of_le (Nat.le_refl i),ht]
   congr 1
   rw[List.getElem?_set,if_pos rfl,if_pos (by omega),List.getElem?_eq_getElem hlt]
 rw[hf]
 unfold mk
 rw[if_pos ⟨by omega,by unfold LIM; omega⟩]
 exact key a.length 0 _ (by omega) (by simp) (by simp)

theorem eq_loop {α:Type} {f:List α→List α→Option Bool} {sub:α→α→Option Bool} {S:Int→Option (Int ⊕ Bool)} {a:List α}
  (hS:∀ i,S i=if decide (i<(a.length:Int))=true then (ix a i).bind fun x=>(ix a i).bind fun y=>(sub x y).bind fun e=>if (!e)=true then some (.inr false) else some (.inl (IntKind.wrap .i64 (i+1))) else some (.inr true))
  (hf:f a a=if ((a.length:Int) != (a.length:Int))=true then some false else loop S 0) (ha:a.length≤1048576) (hsub:∀ x∈a,sub x x=some true):f a a=some true:=by
 rw[hf,if_neg (by simp)]
 have:=loop_allL (l:=a) (step:=S) (p:=fun _=>true) (rt:=some true) (rf:=false) (loop_R (by rw[hS,ltF]; rfl)) (fun i x hx=>by
  have hlt:=(List.getElem?_eq_some_iff.1 hx).1
  have hm:x∈a:=List.mem_of_getElem? hx
  rw[hS,ltT hlt,if_pos rfl,ix_lit hx,Option.bind_some,Option.bind_some,hsub x hm,Option.bind_some,if_neg (by simp),if_pos rfl,w1 hlt (by omega)])
 rw[this]
 simp
end Ae
namespace Ae
open Go

theorem bindC {α β:Type} {o:Option α} {f g:α→Option β} (h:∀ a,o=some a→f a=g a):o.bind f=o.bind g:=by
 cases o with
 | none=>rfl
 | some a=>exact h a rfl
theorem ix_mem {α:Type} {l:List α} {i:Int} {x:α} (h:ix l i=some x):x∈l:=by
 unfold ix at h
 split at h
 ·exact List.mem_of_getElem? h
 ·cases h

theorem loop_tot {ρ:Type} {step:Int→Option (Int ⊕ ρ)} {n:Nat} (Q:ρ→Prop) (hend:∃ r,loop step (n:Int)=some r∧Q r) (hst:∀ i:Nat,i<n→step (i:Int)=some (.inl ((i+1:Nat):Int))∨∃ r,step (i:Int)=some (.inr r)∧Q r) :
  ∃ r,loop step 0=some r∧Q r:=by
 have key:∀ k i,i+k=n→∃ r,loop step (i:Int)=some r∧Q r:=by
  intro k
  induction k with
  | zero => intro i hi; obtain rfl : i = n := by omega
            exact hend
  | succ k ih =>
   intro i hi
   rcases hst i (by omega) with h | ⟨r,h,hq⟩
   ·rw[loop_L h]; exact ih (i+1) (by omega)
   ·exact ⟨r,loop_R h,hq⟩
 exact key n 0 (by omega)

def fst? {α:Type} (p:α→Bool):List α→Int
 | []=>-1
 | x::l=>if p x then 0 else if fst? p l == -1 then -1 else fst? p l+1
theorem fst?_ge {α:Type} (p:α→Bool):∀ l,-1≤fst? p l
 | []=>Int.le_refl _
 | x::l=>by
  have:=fst?_ge p l
  unfold fst?
  split
  ·decide
  ·split<;>omega
theorem fst?_any {α:Type} (p:α→Bool):∀ l,decide ((fst? p l:Int)≥0)=l.any p
 | []=>rfl
 | x::l=>by
  have h:=fst?_ge p l
  have ih:=fst?_any p l
  rw[List.any_cons,← ih,show fst? p (x::l)=if p x then 0 else if fst? p l == -1 then -1 else fst? p l+1 from rfl]
  cases hp:p x with
  | true=>simp
  | false =>
   simp only[Bool.false_eq_true,if_false,Bool.false_or,decide_eq_decide,beq_iff_eq]
   split<;>omega
theorem loop_find {α:Type} {l:List α} {step:Int→Option (Int ⊕ Int)} (p:α→Bool) (hend:loop step (l.length:Int)=some (-1)) (hst:∀ (i:Nat) x,l[i]?=some x→step (i:Int)=if p x then some (.inr (i:Int)) else some (.inl ((i+1:Nat):Int))) :
  loop step 0=some (fst? p l):=by
 have key:∀ (m:List α) i,l=l.take i++m→i+m.length=l.length→loop step (i:Int)=some (if fst? p m == -1 then -1 else fst? p m+i):=by
  intro m
  induction m with
  | nil => intro i _ hi; obtain rfl : i = l.length := by simpa using hi
           simpa[fst?] using hend
  | cons x m ih =>
   intro i hm hi
   have hx:l[i]?=some x:=by
    have hlt:i<l.length:=by simp at hi; omega
    rw[hm,List.getElem?_append_right (by rw[List.length_take]; omega),List.length_take,Nat.min_eq_left (Nat.le_of_lt hlt),Nat.sub_self]
    rfl
   have h1:=hst i x hx
   have hm':l=l.take (i+1)++m:=by
    rw[List.take_add_one,hx]
    conv=>lhs; rw[hm]
    simp
   have hge:=fst?_ge p m
   unfold fst?
   cases hp:p x with
   | true =>
    rw[hp,if_pos rfl] at h1
    rw[loop_R h1]; simp
   | false =>
    rw[hp,if_neg (by simp)] at h1
    rw[loop_L h1,ih (i+1) hm' (by simp at hi; omega)]
    by_cases h2:fst? p m=-1
    ·simp[h2]
    ·have h3:fst? p m+1≠-1:=by omega
     simp only[beq_iff_eq,h2,h3,if_false,Bool.false_eq_true]
     congr 1; omega
 have:=key l 0 (by simp) (by simp)
 have hge:=fst?_ge p l
 rw[show ((0:Nat):Int)=0 from rfl] at this
 rw[this]
 split
 ·rename_i h; rw[beq_iff_eq] at h; rw[h]
 ·rw[Int.add_zero]
theorem indexByte_fst (l:List UInt8) (c:UInt8):Lib.indexByte l c=fst? (· == c) l:=by
 induction l with
 | nil=>rfl
 | cons b l ih=>unfold Lib.indexByte fst?; rw[ih]
theorem chr_some {s:List UInt8} {i c:Int} (h:chr s i=some c):∃ x:UInt8,c=(x.toNat:Int):=by
 unfold chr at h
 split at h
 ·cases h; exact ⟨_,rfl⟩
 ·cases h
theorem u8_eq (a b:UInt8):((a.toNat:Int) == (b.toNat:Int))=(a == b):=by
 rw[Bool.eq_iff_iff,beq_iff_eq,beq_iff_eq]
 constructor
 ·intro h; exact UInt8.toNat_inj.1 (by omega)
 ·rintro rfl; rfl
theorem chr_nat {s:List UInt8} {i:Nat} {x:UInt8} (h:s[i]?=some x):chr s (i:Int)=some (x.toNat:Int):=by
 have hlt:=(List.getElem?_eq_some_iff.1 h).1
 unfold chr
 rw[if_pos ⟨by omega,by omega⟩]
 simp[h]
theorem chr_nat' {s:List UInt8} {i:Nat} (h:i<s.length):chr s (i:Int)=some (s[i].toNat:Int):=chr_nat (List.getElem?_eq_getElem h)

theorem ite_some {α:Type} {c:Bool} {a b:α}:(if c=true then some a else some b)=some (if c=true then a else b):=by cases c<;>rfl
theorem ite_or {a b:Bool}:(if a=true then true else b)=(a||b):=by cases a<;>rfl
theorem ite_and {a b:Bool}:(if a=true then b else false)=(a&&b):=by cases a<;>rfl
theorem flatS_len {l:List (List UInt8)} {m:Nat} (h:∀ x∈l,x.length≤m):l.flatten.length≤l.length*m:=by
 induction l with
 | nil=>simp
 | cons x l ih =>
  rw[List.flatten_cons,List.length_append,List.length_cons,Nat.succ_mul]
  have h1:=h x (List.mem_cons_self ..)
  have h2:=ih fun y hy=>h y (List.mem_cons_of_mem _ hy)
  omega
theorem join_flat (l:List (List UInt8)):Lib.join l []=l.flatten:=by
 cases l with
 | nil=>rfl
 | cons x l=>rw[Lib.join_cons,Lib.joinTail]; simp
end Ae
namespace Ae
open Go

theorem hrf1 {α:Type} {r:α→AV→Prop} (x:α) (as:List AV) (h:Cs [r x] as) (_:as.length=1):r x (elemOf false as):=by
 cases h with
 | cons h k=>exact h
theorem hrfA {α:Type} {f:α→List (AV→Prop)} {sz:Nat} (x:α) (as:List AV) (h:Cs (f x) as) (_:as.length=sz):rA (f x) (elemOf true as):=⟨as,rfl,h⟩
theorem VA_2 {E:Env} {a b:AV} {v w:Value} (h:V E a v) (k:V E b w):VA E [a,b] #[v,w]:=⟨rfl,fun i x y hx hy=>by
 match i with
 | 0=>simp at hx hy; subst hx hy; exact h
 | 1=>simp at hx hy; subst hx hy; exact k
 | i+2=>simp at hx⟩
theorem WF0:WF St.zero:=⟨Nat.le_refl _,Nat.le_refl _⟩
end Ae
namespace Ae
open Go

end Ae
namespace Ae
open Go
end Ae
