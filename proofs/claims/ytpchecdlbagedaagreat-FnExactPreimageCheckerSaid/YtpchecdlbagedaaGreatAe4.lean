import Derived.Test.YtpchecdlbagedaaGreatAe3
import Derived.Sort.Grow
import Derived.Sort.Row
import Derived.Deep.Slices
import Derived.IntWalk
import Derived.Carry
set_option linter.unusedVariables false
set_option linter.unusedSimpArgs false
namespace Ae
open Go

abbrev KT:=List Nat→AV
def KT.at (k:KT) (i:Nat):KT:=fun ρ=>k (i::ρ)

def Has (s:St) (n:Nat) (L:List BX):Prop:=∀ x∈L,∀ b,x.b=some b→n≤b∧s.h b=some x.cs
theorem Has.app {s:St} {n:Nat} {A B:List BX} (h:Has s n (A++B)):Has s n A∧Has s n B :=
 ⟨fun x hx=>h x (List.mem_append_left _ hx),fun x hx=>h x (List.mem_append_right _ hx)⟩

def mkv (ag:Bool) (cs:List AV):AV:=if ag then .agg cs else cs.headD .undef

structure OT (α:Type) where
 sz:Nat
 ag:Bool
 dep:Nat
 rel:α→AV→Prop
 own:KT→α→List AV→List BX→Prop
 len:∀ {k x cs L},own k x cs L→cs.length=sz
 one:∀ {k x cs L},own k x cs L→∀ c∈cs,c.one=true
 sz1:ag=false→sz=1
 fin:∀ {s n k x cs L},own k x cs L→Has s n L→Fin s n dep (rel x) (mkv ag cs)

def oLeaf {α:Type} (r:α→AV→Prop) (ag:Bool) (sz dep:Nat) (hs:Sh ag sz r) (h1:ag=false→sz=1) (hn:∀ x,Nice dep (r x)):OT α where
 sz:=sz
 ag:=ag
 dep:=dep
 rel:=r
 own:=fun _ x cs L=>(∃ v,r x v∧v.cells=cs)∧L=[]
 len:=by
  rintro k x cs L ⟨⟨v,hr,rfl⟩,_⟩
  exact (hs x v hr).1
 one:=by
  rintro k x cs L ⟨⟨v,hr,rfl⟩,_⟩ c hc
  obtain ⟨h2,h3⟩:=hs x v hr
  cases ag with
  | true =>
   rw[if_pos rfl] at h3
   obtain ⟨cs,rfl,h4⟩:=h3
   exact h4 c hc
  | false =>
   have h3:v.one=true:=by simpa using h3
   rw[AV.cells_one h3] at hc
   rw[List.mem_singleton.1 hc]; exact h3
 sz1:=h1
 fin:=by
  rintro s n k x cs L ⟨⟨v,hr,rfl⟩,_⟩ _
  have:mkv ag v.cells=v:=by
   obtain ⟨h2,h3⟩:=hs x v hr
   unfold mkv
   cases ag with
   | true =>
    rw[if_pos rfl] at h3
    obtain ⟨cs,rfl,h4⟩:=h3
    rfl
   | false =>
    have h3:v.one=true:=by simpa using h3
    rw[AV.cells_one h3]; rfl
  rw[this]
  exact .of (hn x) hr

inductive OL {α:Type} (e:OT α) (k:KT):Nat→List α→List AV→List BX→Prop
 | nil {i}:OL e k i [] [] []
 | cons {i x xs c cs B L} (h:e.own (k.at i) x c B) (t:OL e k (i+1) xs cs L):OL e k i (x::xs) (c++cs) (B++L)

def OS {α:Type} (e:OT α) (h:AV) (k:KT) (xs:List α) (L:List BX):Prop :=
 (∃ z,h=.sl z true []∧(z=e.sz∨z=0)∧xs=[]∧L=[]) ∨
 ∃ b cs ow L0,h=.ms e.ag e.sz b 0 xs.length∧L=⟨some b,cs,ow⟩::L0∧OL e k 0 xs cs L0

section
variable {α:Type} {e:OT α} {h:AV} {k:KT} {xs:List α} {L:List BX}

theorem OS.one (hO:OS e h k xs L):h.one=true:=by
 rcases hO with ⟨z,rfl,_⟩ | ⟨b,cs,ow,L0,rfl,_⟩<;>rfl
theorem OS.lay (hO:OS e h k xs L):layable h=true:=by
 rcases hO with ⟨z,rfl,_⟩ | ⟨b,cs,ow,L0,rfl,_⟩<;>rfl
theorem OS.nil {z:Nat} (hz:z=e.sz∨z=0):OS e (.sl z true []) k [] []:=.inl ⟨z,rfl,hz,rfl,rfl⟩

theorem OL.len {i:Nat} {cs:List AV}:∀ {i:Nat} {xs:List α} {cs:List AV} {L:List BX},OL e k i xs cs L→cs.length=xs.length*e.sz
 | _,_,_,_,.nil=>by simp
 | _,_,_,_,.cons h t=>by
  have:=OL.len (i:=i) (cs:=cs) t
  rw[List.length_append,e.len h,this,List.length_cons,Nat.succ_mul]; omega

theorem OL.get:∀ {i:Nat} {xs:List α} {cs:List AV} {L:List BX},OL e k i xs cs L→∀ {j:Nat} {x:α},xs[j]?=some x →
  ∃ c B C1 C2 A D,e.own (k.at (i+j)) x c B∧cs=C1++c++C2∧C1.length=j*e.sz∧L=A++B++D ∧
   ∀ y c' B',e.own (k.at (i+j)) y c' B'→OL e k i (xs.set j y) (C1++c'++C2) (A++B'++D)
 | _,_,_,_,.nil,j,x,hj=>by simp at hj
 | i,x0::xs,_,_,.cons (c:=c0) (cs:=cs) (B:=B0) (L:=L0) h t,j,x,hj=>by
  cases j with
  | zero =>
   simp at hj
   subst hj
   exact ⟨c0,B0,[],cs,[],L0,h,rfl,by simp,rfl,fun y c' B' hy=>.cons hy t⟩
  | succ j =>
   simp at hj
   obtain ⟨c,B,C1,C2,A,D,h1,h2,h3,h4,h5⟩:=OL.get t hj
   have e1:i+1+j=i+(j+1):=by omega
   rw[e1] at h1 h5
   refine ⟨c,B,c0++C1,C2,B0++A,D,h1,by rw[h2]; simp,by rw[List.length_append,e.len h,h3,Nat.succ_mul]; omega,by rw[h4]; simp,?_⟩
   intro y c' B' hy
   have:=OL.cons h (h5 y c' B' hy)
   simpa using this

theorem OL.congr {k':KT}:∀ {i:Nat} {xs:List α} {cs:List AV} {L:List BX},OL e k i xs cs L→(∀ j,i≤j→j<i+xs.length→k'.at j=k.at j)→OL e k' i xs cs L
 | _,_,_,_,.nil,_=>.nil
 | i,x::xs,_,_,.cons h t,hk=>by
  refine .cons ?_ (OL.congr t (fun j h1 h2=>hk j (by omega) (by simp only[List.length_cons]; omega)))
  rw[hk i (Nat.le_refl _) (by simp only[List.length_cons]; omega)]; exact h

theorem OL.get':∀ {i:Nat} {xs:List α} {cs:List AV} {L:List BX},OL e k i xs cs L→∀ {j:Nat} {x:α},xs[j]?=some x→∀ (k2:KT),
  ∃ c B C1 C2 A D,e.own (k.at (i+j)) x c B∧cs=C1++c++C2∧C1.length=j*e.sz∧L=A++B++D ∧
   ∀ y c' B',e.own k2 y c' B'→OL e (fun ρ=>match ρ with | []=>k [] | a::ρ=>if a=i+j then k2 ρ else k (a::ρ)) i (xs.set j y) (C1++c'++C2) (A++B'++D)
 | _,_,_,_,.nil,j,x,hj,_=>by simp at hj
 | i,x0::xs,_,_,.cons (c:=c0) (cs:=cs) (B:=B0) (L:=L0) h t,j,x,hj,k2=>by
  cases j with
  | zero =>
   simp at hj
   subst hj
   refine ⟨c0,B0,[],cs,[],L0,h,rfl,by simp,rfl,fun y c' B' hy=>.cons ?_ (t.congr fun a h1 _=>?_)⟩
   ·have:KT.at (fun ρ=>match ρ with | []=>k [] | a::ρ=>if a=i+0 then k2 ρ else k (a::ρ)) i=k2:=by funext ρ; simp[KT.at]
    rw[this]; exact hy
   ·funext ρ; simp[KT.at,show ¬ a=i by omega]
  | succ j =>
   simp at hj
   obtain ⟨c,B,C1,C2,A,D,h1,h2,h3,h4,h5⟩:=OL.get' t hj k2
   have e1:i+1+j=i+(j+1):=by omega
   rw[e1] at h1
   refine ⟨c,B,c0++C1,C2,B0++A,D,h1,by rw[h2]; simp,by rw[List.length_append,e.len h,h3,Nat.succ_mul]; omega,by rw[h4]; simp,?_⟩
   intro y c' B' hy
   have h6:=h5 y c' B' hy
   simp only[e1] at h6
   have h7:e.own (KT.at (fun ρ=>match ρ with | []=>k [] | a::ρ=>if a=i+(j+1) then k2 ρ else k (a::ρ)) i) x0 c0 B0:=by
    have:KT.at (fun ρ=>match ρ with | []=>k [] | a::ρ=>if a=i+(j+1) then k2 ρ else k (a::ρ)) i=k.at i:=by funext ρ; simp[KT.at,show ¬ i=i+(j+1) by omega]
    rw[this]; exact h
   have:=OL.cons h7 h6
   simpa using this

theorem OL.app:∀ {i:Nat} {xs:List α} {cs:List AV} {L:List BX},OL e k i xs cs L→∀ {ys:List α} {ds:List AV} {M:List BX},OL e k (i+xs.length) ys ds M→OL e k i (xs++ys) (cs++ds) (L++M)
 | _,_,_,_,.nil,ys,ds,M,h=>by simpa using h
 | i,x::xs,_,_,.cons h t,ys,ds,M,h2=>by
  have:=OL.cons h (OL.app t (by rw[show i+1+xs.length=i+(xs.length+1) by omega]; exact h2))
  simpa using this

theorem fin_rows {s:St} {n:Nat}:∀ {i:Nat} {xs:List α} {cs:List AV} {L:List BX},OL e k i xs cs L→Has s n L→∃ e',(chunk e.sz e.ag cs xs.length).mapM (Ae.fin s n e.dep)=some e'∧L2 e.rel xs e'
 | _,_,_,_,.nil,_=>⟨[],rfl,.nil⟩
 | i,x::xs,_,_,.cons (c:=c) (cs:=cs) (B:=B) (L:=L) h t,hL=>by
  obtain ⟨h1,h2⟩:=hL.app
  obtain ⟨e',h3,h4⟩:=fin_rows t h2
  obtain ⟨_,v',h5,h6⟩:=e.fin h h1
  have hl:=e.len h
  refine ⟨v'::e',?_,.cons h6 h4⟩
  have hv:(if e.ag then AV.agg ((c++cs).take e.sz) else (c++cs).headD .undef)=mkv e.ag c:=by
   unfold mkv
   cases ha:e.ag with
   | true=>simp[← hl]
   | false =>
    have:=e.sz1 ha
    match c,(hl.trans this) with
    | [c0],_=>rfl
  rw[List.length_cons,chunk,hv,List.mapM_cons,h5]
  have:(c++cs).drop e.sz=cs:=by rw[← hl]; simp
  rw[this,h3]
  rfl

theorem OS.fin {s:St} {n:Nat} (hO:OS e h k xs L) (hL:Has s n L):Fin s n (e.dep+1) (rL e.rel e.sz xs) h:=by
 rcases hO with ⟨z,rfl,hz,rfl,_⟩ | ⟨b,cs,ow,L0,rfl,rfl,hl⟩
 ·refine ⟨fun hc=>by simp[AV.canonB] at hc,.sl z false [],by simp[Ae.fin,AV.canonB],z,false,[],rfl,?_,.nil⟩
  rcases hz with hz | hz
  ·exact .inl hz
  ·exact .inr ⟨hz,rfl⟩
 ·obtain ⟨hb,hh⟩:=hL _ (List.mem_cons_self ..) b rfl
  have hc:(AV.ms e.ag e.sz b 0 xs.length).canonB n=false:=by simp[AV.canonB]; omega
  refine ⟨fun h=>(by rw[hc] at h; cases h),?_⟩
  obtain ⟨e',h5,h6⟩:=fin_rows hl (fun x hx=>hL x (List.mem_cons_of_mem _ hx))
  refine ⟨.sl e.sz false e',?_,e.sz,false,e',rfl,.inl rfl,h6⟩
  unfold Ae.fin
  rw[hc]
  simp only[hh]
  have hlen:=hl.len (i:=0) (cs:=cs)
  rw[if_neg (by simp),if_pos ⟨by rw[hlen]; omega,by cases ha:e.ag; exact .inr (e.sz1 ha); exact .inl rfl⟩,List.drop_zero,h5]
  rfl
end

def oSl {α:Type} (e:OT α):OT (List α) where
 sz:=1
 ag:=false
 dep:=e.dep+1
 rel:=rL e.rel e.sz
 own:=fun k xs cs L=>cs=[k []]∧OS e (k []) k xs L
 len:=by rintro k x cs L ⟨rfl,_⟩; rfl
 one:=by rintro k x cs L ⟨rfl,h⟩ c hc; rw[List.mem_singleton.1 hc]; exact h.one
 sz1:=fun _=>rfl
 fin:=by
  rintro s n k x cs L ⟨rfl,h⟩ hL
  exact h.fin hL

def Flt {α:Type} (e:OT α):Prop:=∀ (n:Nat) k x cs L,e.own k x cs L→(∀ y∈L,∀ b,y.b=some b→n≤b)→AV.flatL n cs=true∧∀ y∈L,AV.flatL n y.cs=true

theorem flatL_app {n:Nat}:∀ {a b:List AV},AV.flatL n a=true→AV.flatL n b=true→AV.flatL n (a++b)=true
 | [],_,_,h=>h
 | c::a,b,h,h2=>by
  simp only[List.cons_append,AV.flatL,Bool.and_eq_true] at h⊢
  exact ⟨h.1,flatL_app h.2 h2⟩

theorem OL.flat {α:Type} {e:OT α} (hf:Flt e) {n:Nat} {k:KT}:∀ {i:Nat} {xs:List α} {cs:List AV} {L:List BX},OL e k i xs cs L→(∀ y∈L,∀ b,y.b=some b→n≤b)→AV.flatL n cs=true∧∀ y∈L,AV.flatL n y.cs=true
 | _,_,_,_,.nil,_=>⟨rfl,by simp⟩
 | i,x::xs,_,_,.cons h t,hL=>by
  obtain ⟨h1,h2⟩:=hf n _ _ _ _ h (fun y hy=>hL y (List.mem_append_left _ hy))
  obtain ⟨h3,h4⟩:=OL.flat hf t (fun y hy=>hL y (List.mem_append_right _ hy))
  refine ⟨flatL_app h1 h3,fun y hy=>?_⟩
  rcases List.mem_append.1 hy with hy | hy
  ·exact h2 y hy
  ·exact h4 y hy

theorem OS.flat {α:Type} {e:OT α} (hf:Flt e) {n:Nat} {h:AV} {k:KT} {xs:List α} {L:List BX} (hO:OS e h k xs L) (hL:∀ y∈L,∀ b,y.b=some b→n≤b):h.flatB n=true∧∀ y∈L,AV.flatL n y.cs=true:=by
 rcases hO with ⟨z,rfl,hz,rfl,rfl⟩ | ⟨b,cs,ow,L0,rfl,rfl,hl⟩
 ·exact ⟨rfl,by simp⟩
 ·have:=hL _ (List.mem_cons_self ..) b rfl
  obtain ⟨h1,h2⟩:=OL.flat hf hl (fun y hy=>hL y (List.mem_cons_of_mem _ hy))
  refine ⟨by simpa[AV.flatB] using this,fun y hy=>?_⟩
  rcases List.mem_cons.1 hy with rfl | hy
  ·exact h1
  ·exact h2 y hy

theorem Flt.sl {α:Type} {e:OT α} (hf:Flt e):Flt (oSl e):=by
 rintro n k x cs L ⟨rfl,h⟩ hL
 obtain ⟨h1,h2⟩:=h.flat hf hL
 exact ⟨by simp[AV.flatL,h1],h2⟩
theorem Flt.leaf {α:Type} {r:α→AV→Prop} {ag:Bool} {sz dep:Nat} {hs:Sh ag sz r} {h1:ag=false→sz=1} {hn:∀ x,Nice dep (r x)} (hf:∀ x v n,r x v→AV.flatL n v.cells=true):Flt (oLeaf r ag sz dep hs h1 hn):=by
 rintro n k x cs L ⟨⟨v,hr,rfl⟩,rfl⟩ _
 exact ⟨hf x v n hr,by simp⟩


inductive AllG:List (List BX→Prop)→List (List BX)→Prop
 | nil:AllG [] []
 | cons {P L Ps Ls} (h:P L) (t:AllG Ps Ls):AllG (P::Ps) (L::Ls)

theorem AllG.get:∀ {G:List (List BX→Prop)} {Ls:List (List BX)},AllG G Ls→∀ {j:Nat} {P:List BX→Prop},G[j]?=some P→∃ L,Ls[j]?=some L∧P L
 | _,_,.nil,j,P,h=>by simp at h
 | _,_,.cons (L:=L) h t,j,P,hj=>by
  cases j with
  | zero=>simp at hj; subst hj; exact ⟨L,rfl,h⟩
  | succ j=>simp at hj; obtain ⟨L',h1,h2⟩:=t.get hj; exact ⟨L',by simpa using h1,h2⟩
theorem AllG.set:∀ {G:List (List BX→Prop)} {Ls:List (List BX)},AllG G Ls→∀ (j:Nat) {P:List BX→Prop} {L:List BX},P L→AllG (G.set j P) (Ls.set j L)
 | _,_,.nil,j,P,L,h=>.nil
 | _,_,.cons h t,0,P,L,hp=>.cons hp t
 | _,_,.cons h t,j+1,P,L,hp=>.cons h (t.set j hp)
theorem AllG.app:∀ {G:List (List BX→Prop)} {Ls:List (List BX)},AllG G Ls→∀ {G' Ls'},AllG G' Ls'→AllG (G++G') (Ls++Ls')
 | _,_,.nil,_,_,h=>h
 | _,_,.cons h t,_,_,h2=>.cons h (t.app h2)

theorem flat_mid:∀ {Ls:List (List BX)} {j:Nat} {L:List BX},Ls[j]?=some L→∃ U W,Ls.flatten=U++L++W∧∀ L',(Ls.set j L').flatten=U++L'++W
 | [],j,L,h=>by simp at h
 | M::Ls,0,L,h=>by
  simp at h
  subst h
  exact ⟨[],Ls.flatten,by simp,fun L'=>by simp⟩
 | M::Ls,j+1,L,h=>by
  simp at h
  obtain ⟨U,W,h1,h2⟩:=flat_mid h
  exact ⟨M++U,W,by simp[h1],fun L'=>by simp[h2]⟩

theorem HS.perm {ex:List Nat} {kp:Bool} {s0 s:St} {L L':List BX} (h:HS ex kp s0 s L) (hp:L.Perm L'):HS ex kp s0 s L' :=
 { n:=h.n,ro:=h.ro,lo:=h.lo,lol:=h.lol,wf:=h.wf,xl:=h.xl,old:=h.old
   bx:=fun x hx=>h.bx x (hp.mem_iff.2 hx)
   nd:=(hp.filterMap _).nodup_iff.1 h.nd }

theorem HS.less {ex:List Nat} {kp:Bool} {s0 s:St} {A B C:List BX} (h:HS ex kp s0 s (A++B++C)):HS ex kp s0 s (A++C) :=
 { n:=h.n,ro:=h.ro,lo:=h.lo,lol:=h.lol,wf:=h.wf,xl:=h.xl,old:=h.old
   bx:=fun x hx=>h.bx x (by
     rcases List.mem_append.1 hx with h1 | h1
     · exact List.mem_append_left _ (List.mem_append_left _ h1)
     · exact List.mem_append_right _ h1)
   nd:=by
     have:=h.nd
     simp only[List.filterMap_append] at this ⊢
     rw[List.append_assoc] at this
     exact List.Nodup.sublist (List.Sublist.append (List.Sublist.refl _) (List.sublist_append_right _ _)) this }

def Sub {β:Type} (P:List BX→Prop) (e:OT β) (h:AV) (k:KT) (ys:List β) (P':List β→List BX→Prop):Prop :=
 ∀ L,P L→∃ A B C,L=A++B++C∧OS e h k ys B∧∀ ys' B',OS e h k ys' B'→P' ys' (A++B'++C)

theorem Sub.here {α:Type} {e:OT α} {h:AV} {k:KT} {xs:List α}:Sub (OS e h k xs) e h k xs (fun ys=>OS e h k ys) :=
 fun L hL=>⟨[],L,[],by simp,hL,fun ys' B' h'=>by simpa using h'⟩

theorem OS.get {α:Type} {e:OT α} {h:AV} {k:KT} {xs:List α} {L:List BX} (hO:OS e h k xs L) {i:Int} {x:α} (hx:ix xs i=some x) :
  ∃ b cs ow L0 c B C1 C2 A D,h=.ms e.ag e.sz b 0 xs.length∧L=⟨some b,cs,ow⟩::L0∧e.own (k.at i.toNat) x c B∧cs=C1++c++C2∧C1.length=i.toNat*e.sz∧L0=A++B++D∧0≤i∧i<xs.length ∧
   ∀ y c' B' ow',e.own (k.at i.toNat) y c' B'→OS e h k (xs.set i.toNat y) (⟨some b,C1++c'++C2,ow'⟩::(A++B'++D)):=by
 have h0:0≤i∧xs[i.toNat]?=some x:=by
  unfold ix at hx
  split at hx
  ·rename_i h0; exact ⟨h0,hx⟩
  ·cases hx
 rcases hO with ⟨z,rfl,hz,rfl,rfl⟩ | ⟨b,cs,ow,L0,rfl,rfl,hl⟩
 ·simp[ix] at hx
 ·obtain ⟨c,B,C1,C2,A,D,h1,h2,h3,h4,h5⟩:=hl.get h0.2
  rw[Nat.zero_add] at h1 h5
  have hlt:=(List.getElem?_eq_some_iff.1 h0.2).1
  refine ⟨b,cs,ow,L0,c,B,C1,C2,A,D,rfl,rfl,h1,h2,h3,h4,h0.1,by omega,fun y c' B' ow' hy=>?_⟩
  exact .inr ⟨b,_,ow',_,by rw[List.length_set],rfl,h5 y c' B' hy⟩

theorem Sub.down {β:Type} {P:List BX→Prop} {e:OT β} {h:AV} {k:KT} {ys:List (List β)} {P':List (List β)→List BX→Prop} (hS:Sub P (oSl e) h k ys P') {i:Int} {x:List β} (hx:ix ys i=some x) :
  Sub P e (k.at i.toNat []) (k.at i.toNat) x (fun zs=>P' (ys.set i.toNat zs)):=by
 intro L hL
 obtain ⟨A,B,C,h1,h2,h3⟩:=hS L hL
 obtain ⟨b,cs,ow,L0,c,B0,C1,C2,A0,D0,k1,k2,k3,k4,k5,k6,_,_,k7⟩:=h2.get hx
 obtain ⟨k8,k9⟩:=k3
 refine ⟨A++⟨some b,cs,ow⟩::A0,B0,D0++C,by rw[h1,k2,k6]; simp,k9,fun zs B' hz=>?_⟩
 have:=h3 _ _ (k7 zs c B' ow ⟨k8,hz⟩)
 rw[← k4] at this
 simpa using this

end Ae
namespace Ae
open Go

def LoOK (ex:List Nat) (kp:Bool) (s0:St):Prop:=∀ b∈ex,(if kp then s0.lo else s0.n)≤b
theorem LoOK.nil {kp:Bool} {s0:St}:LoOK [] kp s0:=fun _ h=>by cases h

section
variable {ex:List Nat} {kp:Bool} {s0 s:St} {E:List BX} {Ls:List (List BX)} {G:List (List BX→Prop)} {j:Nat} {P:List BX→Prop}

theorem own_at {α:Type} {e:OT α} {h:AV} {k:KT} {ys:List α} {P':List α→List BX→Prop} {i:Int} {y:α} (hG:AllG G Ls) (hj:G[j]?=some P) (hS:Sub P e h k ys P') (hx:ix ys i=some y) :
  ∃ U W b cs ow c B,E++Ls.flatten=U++⟨some b,cs,ow⟩::W∧h=.ms e.ag e.sz b 0 ys.length∧e.own (k.at i.toNat) y c B∧i.toNat*e.sz+e.sz≤cs.length∧(cs.drop (i.toNat*e.sz)).take e.sz=c∧0≤i∧i<ys.length ∧
   ∀ y' c' ow',e.own (k.at i.toNat) y' c' B→∃ Ls',AllG (G.set j (P' (ys.set i.toNat y'))) Ls'∧U++⟨some b,over cs (i.toNat*e.sz) c',ow'⟩::W=E++Ls'.flatten:=by
 obtain ⟨L,hL,hP⟩:=hG.get hj
 obtain ⟨A,B,C,h1,h2,h3⟩:=hS L hP
 obtain ⟨b,cs,ow,L0,c,B0,C1,C2,A0,D0,k1,k2,k3,k4,k5,k6,k7,k8,k9⟩:=h2.get hx
 obtain ⟨U,W,f1,f2⟩:=flat_mid hL
 have hc:=e.len k3
 refine ⟨E++U++A,L0++C++W,b,cs,ow,c,B0,?_,k1,k3,?_,?_,k7,k8,?_⟩
 ·rw[f1,h1,k2]; simp
 ·rw[k4,List.length_append,List.length_append]; omega
 ·rw[k4,List.append_assoc,← k5,List.drop_append,List.drop_length,Nat.sub_self,List.drop_zero,List.nil_append,← hc]; simp
 ·intro y' c' ow' hy
  have hc':=e.len hy
  refine ⟨Ls.set j (A++(⟨some b,C1++c'++C2,ow'⟩::(A0++B0++D0))++C),hG.set j (h3 _ _ (k9 y' c' B0 ow' hy)),?_⟩
  rw[f2]
  have ho:over cs (i.toNat*e.sz) c'=C1++c'++C2:=by
   unfold over
   rw[k4,← k5,List.append_assoc C1 c C2]
   have t1:(C1++(c++C2)).take C1.length=C1:=by simp
   have t2:(C1++(c++C2)).drop (C1.length+c'.length)=C2:=by
    rw[List.drop_append,List.drop_eq_nil_of_le (by omega)]
    simp[show C1.length+c'.length - C1.length=c.length by omega]
   rw[t1,t2]
  rw[ho,k6]
  simp

theorem part_in {ti:TI} {cs c:List AV} {off sz q:Nat} (h:(cs.drop off).take sz=c) (hl:off+sz≤cs.length) (h0:0<ti.size) (hq:q+ti.size≤sz):part ti cs (off+q)=part ti c q:=by
 subst h
 have e:∀ j,j<sz→((cs.drop off).take sz)[j]?=cs[off+j]?:=by
  intro j hj
  rw[List.getElem?_take,if_pos hj,List.getElem?_drop]
 unfold part
 by_cases ha:ti.isAgg=true
 ·rw[if_pos ha,if_pos ha,if_pos (by omega),if_pos (by rw[List.length_take,List.length_drop]; omega)]
  congr 2
  apply List.ext_getElem?
  intro j
  rw[List.getElem?_take,List.getElem?_take]
  split
  ·rw[List.getElem?_drop,List.getElem?_drop,e _ (by omega),Nat.add_assoc]
  ·rfl
 ·rw[if_neg ha,if_neg ha,e q (by omega)]

theorem over_in {cs c new:List AV} {off sz q:Nat} (h:(cs.drop off).take sz=c) (hl:off+sz≤cs.length) (hq:q+new.length≤sz):over cs (off+q) new=over cs off (over c q new):=by
 subst h
 have hlen:(over ((cs.drop off).take sz) q new).length=sz:=by
  unfold over; simp; omega
 have e0:over cs off (over ((cs.drop off).take sz) q new)=cs.take off++over ((cs.drop off).take sz) q new++cs.drop (off+sz):=by
  show cs.take off++over ((cs.drop off).take sz) q new++cs.drop (off+(over ((cs.drop off).take sz) q new).length)=_
  rw[hlen]
 rw[e0]
 unfold over
 have e1:cs.take (off+q)=cs.take off++(cs.drop off).take q:=List.take_add
 have e2:((cs.drop off).take sz).take q=(cs.drop off).take q:=by rw[List.take_take,Nat.min_eq_left (by omega)]
 have e3:((cs.drop off).take sz).drop (q+new.length)++cs.drop (off+sz)=cs.drop (off+q+new.length):=by
  rw[List.drop_take,List.drop_drop,← Nat.add_assoc]
  have e4:cs.drop (off+sz)=(cs.drop (off+q+new.length)).drop (sz - (q+new.length)):=by rw[List.drop_drop]; congr 1; omega
  rw[e4,List.take_append_drop]
 rw[e1,e2,← e3]
 simp

variable {C:Cfg} {I:FI} {t:List Item} {tm:Nat→AV} {os:Nat→Bool} {Q:Fr→Prop} {all:Array Oper} {l:List Oper} {o:Oper} {draw:Bool}

theorem AOps.idxO {α:Type} {e:OT α} {h:AV} {k:KT} {ys:List α} {P':List α→List BX→Prop} {i:Int} {y:α} {d ty et:Nat} {X Y:Operand} {T ei:TI} {kk:IntKind} (hG:AllG G Ls) (hj:G[j]?=some P) (hS:Sub P e h k ys P') (hx:ix ys i=some y)
  (hw:wantedA o all tm=some true) (ho:o.op=.indexAddr ty X Y) (hT:C.ty ty=some T) (hTu:T.u=.slice et) (hE:C.ty et=some ei) (hX:evalO tm X=h) (hY:evalO tm Y=.int kk i) (hsz:e.sz=ei.size) (hd:o.dst=some d)
  (k:∀ b,h=.ms e.ag e.sz b 0 ys.length→AOps C I draw all l ⟨upd tm d (.ptr b (0+i.toNat*e.sz)),upd os d false,s⟩ Q):AOps C I draw all (o::l) ⟨tm,os,s⟩ Q:=by
 obtain ⟨U,W,b,cs,ow,c,B,_,h1,_,_,_,h2,h3,_⟩:=own_at (E:=[]) hG hj hS hx
 refine .op hw (by unfold callee?; rw[ho]) (f':=⟨upd tm d (.ptr b (0+i.toNat*e.sz)),upd os d false,s⟩) ?_ (k b h1)
 obtain ⟨u,a1,a2,zz⟩:=T
 simp only at hTu
 subst hTu
 have hi:idx i ys.length=some i.toNat:=by unfold idx; rw[if_pos ⟨h2,h3⟩]
 simp[opF,moveOp,cutM,cutV,Option.map_none,pureOp,ho,hT,hE,hX,hY,h1,hsz,hi,Fr.put,hd]

theorem AOps.lenO {α:Type} {e:OT α} {h:AV} {k:KT} {ys:List α} {P':List α→List BX→Prop} {d ty et a1 a2:Nat} {zz:AV} {X:Operand} (hG:AllG G Ls) (hj:G[j]?=some P) (hS:Sub P e h k ys P')
  (hw:wantedA o all tm=some true) (ho:o.op=.call { callee:=.builtin .len,args:=#[X],argTypes:=#[ty] }) (hT:C.ty ty=some ⟨.slice et,a1,a2,zz⟩) (hX:evalO tm X=h) (hd:o.dst=some d)
  (k:AOps C I draw all l ⟨upd tm d (.int .i64 (ys.length:Nat)),upd os d false,s⟩ Q):AOps C I draw all (o::l) ⟨tm,os,s⟩ Q:=by
 obtain ⟨L,hL,hP⟩:=hG.get hj
 obtain ⟨A,B,D,_,h2,_⟩:=hS L hP
 refine .op hw (by unfold callee?; rw[ho]) (f':=⟨upd tm d (.int .i64 (ys.length:Nat)),upd os d false,s⟩) ?_ k
 rcases h2 with ⟨z,rfl,_,rfl,_⟩ | ⟨b,cs,ow,L0,rfl,_⟩
 ·simp[opF,moveOp,cutM,cutV,Option.map_none,pureOp,ho,hT,hX,Fr.put,hd]
 ·simp[opF,moveOp,cutM,cutV,Option.map_none,pureOp,ho,hT,hX,Fr.put,hd]

theorem AOps.ldO {α:Type} {e:OT α} {h:AV} {k:KT} {ys:List α} {P':List α→List BX→Prop} {i:Int} {y:α} {d ty b a q n:Nat} {X:Operand} {ti:TI} (hH:HS ex kp s0 s (E++Ls.flatten)) (hG:AllG G Ls) (hj:G[j]?=some P) (hS:Sub P e h k ys P') (hx:ix ys i=some y) (hb:h=.ms e.ag e.sz b 0 n)
  (hw:wantedA o all tm=some true) (ho:o.op=.load ty X) (hT:C.ty ty=some ti) (hX:evalO tm X=.ptr b a) (ha:a=0+i.toNat*e.sz+q) (h0:0<ti.size) (hq:q+ti.size≤e.sz) (hm:I.mv.contains d=false) (hd:o.dst=some d)
  (kk:∀ c B v,e.own (k.at i.toNat) y c B→part ti c q=some v→AOps C I draw all l ⟨upd tm d v,upd os d false,s⟩ Q) (hv:∀ c B,e.own (k.at i.toNat) y c B→∃ v,part ti c q=some v) (him:I.im.contains d=false:=by rfl):AOps C I draw all (o::l) ⟨tm,os,s⟩ Q:=by
 obtain ⟨U,W,b',cs,ow,c,B,h1,h2,h3,h4,h5,_⟩:=own_at (E:=E) hG hj hS hx
 rw[hb] at h2
 simp only[AV.ms.injEq,true_and] at h2
 obtain ⟨rfl,_⟩:=h2
 obtain ⟨v,hpv⟩:=hv c B h3
 rw[h1] at hH
 have hbx:=(hH.bx ⟨some b,cs,ow⟩ (by simp) b rfl).2.2.1
 refine .op hw (by unfold callee?; rw[ho]) (f':=⟨upd tm d v,upd os d false,s⟩) ?_ (kk c B v h3 hpv)
 have hp:part ti cs a=some v:=by
  rw[ha,Nat.zero_add,part_in h5 h4 h0 hq]; exact hpv
 have hmv:d∉I.mv:=by simpa using hm
 simp[opF,moveOp,cutM,cutV,Option.map_none,pureOp,makeOp,memOp,ho,hT,hX,imH_of (o:=o) (by rw[hd]; exact him) hbx,hp,hmv,Fr.put,hd]

theorem HS.setMid {U W:List BX} {b:Nat} {cs cs':List AV} {ow ow':Nat→Bool} (h:HS ex kp s0 s (U++⟨some b,cs,ow⟩::W)):HS ex kp s0 (s.setBox b cs' ow') (U++⟨some b,cs',ow'⟩::W):=by
 have:=h.set (i:=U.length) (x:=⟨some b,cs,ow⟩) (by simp) rfl cs' ow'
 simpa using this

theorem HS.lob (h:HS ex kp s0 s (E++Ls.flatten)) (hl:LoOK ex kp s0) {x:BX} (hx:x∈E++Ls.flatten) {b:Nat} (hb:x.b=some b):s.ro≤b∧s.lo≤b:=by
 have h1:=h.bx x hx b hb
 have h2:=h.lol
 have h3:=h.wf
 rw[h.ro,h.lo]
 rcases h1.1 with h4 | h4
 ·exact ⟨Nat.le_trans h3 h4,by split<;>omega⟩
 ·exact ⟨(h.xl b h4).1,hl b h4⟩

theorem AOps.stO {α:Type} {e:OT α} {h:AV} {k:KT} {ys:List α} {P':List α→List BX→Prop} {i:Int} {y y':α} {ty b a q n:Nat} {p X:Operand} {ti:TI} {v:AV} (hH:HS ex kp s0 s (E++Ls.flatten)) (hG:AllG G Ls) (hl:LoOK ex kp s0) (hj:G[j]?=some P) (hS:Sub P e h k ys P') (hx:ix ys i=some y) (hb:h=.ms e.ag e.sz b 0 n)
  (hw:wantedA o all tm=some true) (ho:o.op=.store ty p X) (hT:C.ty ty=some ti) (hX:evalO tm p=.ptr b a) (ha:a=0+i.toNat*e.sz+q) (hv:evalO tm X=v) (hlay:layable v=true) (hn:v.cells.length=ti.size) (h0:0<ti.size) (hq:q+ti.size≤e.sz) (hd:o.dst=none)
  (hown:∀ c B,e.own (k.at i.toNat) y c B→e.own (k.at i.toNat) y' (over c q v.cells) B)
  (kk:∀ Ls' s2,AllG (G.set j (P' (ys.set i.toNat y'))) Ls'→HS ex kp s0 s2 (E++Ls'.flatten)→AOps C I draw all l ⟨tm,clearO os X,s2⟩ Q) (him:stPd I p=false:=by rfl):AOps C I draw all (o::l) ⟨tm,os,s⟩ Q:=by
 obtain ⟨U,W,b',cs,ow,c,B,h1,h2,h3,h4,h5,_,_,h6⟩:=own_at (E:=E) hG hj hS hx
 rw[hb] at h2
 simp only[AV.ms.injEq,true_and] at h2
 obtain ⟨rfl,_⟩:=h2
 have hlo:=hH.lob hl (x:=⟨some b,cs,ow⟩) (by rw[h1]; simp) rfl
 rw[h1] at hH
 have hbx:=(hH.bx ⟨some b,cs,ow⟩ (by simp) b rfl).2.2
 obtain ⟨Ls',hG',he⟩:=h6 y' _ (stOw os X v a ti.size (s.ow b)) (hown c B h3)
 have hH':=hH.setMid (cs':=over cs a v.cells) (ow':=stOw os X v a ti.size (s.ow b))
 have hov:over cs a v.cells=over cs (i.toNat*e.sz) (over c q v.cells):=by
  rw[ha,Nat.zero_add]; exact over_in h5 h4 (by omega)
 rw[hov,he] at hH'
 refine .op hw (by unfold callee?; rw[ho]) (f':=⟨tm,clearO os X,s.setBox b (over cs a v.cells) (stOw os X v a ti.size (s.ow b))⟩) ?_ (by rw[hov]; exact kk _ _ hG' hH')
 have hle:a+ti.size≤cs.length:=by omega
 unfold opF
 simp[moveOp,cutM,cutV,Option.map_none,pureOp,makeOp,memOp,ho,hT,hX,hv,hlay,hn,h0,hd,imS_of him hbx.1,hlo.1,hlo.2,hle,stOw]
 cases X<;>rfl

theorem OS.get2 {α:Type} {e:OT α} {h:AV} {k:KT} {xs:List α} {L:List BX} (hO:OS e h k xs L) {i:Int} {x:α} (hx:ix xs i=some x) (k2:KT) :
  ∃ b cs ow c B C1 C2 A D,h=.ms e.ag e.sz b 0 xs.length∧L=⟨some b,cs,ow⟩::(A++B++D)∧e.own (k.at i.toNat) x c B∧cs=C1++c++C2∧C1.length=i.toNat*e.sz ∧
   ∀ y c' B' ow',e.own k2 y c' B'→∃ k',OS e h k' (xs.set i.toNat y) (⟨some b,C1++c'++C2,ow'⟩::(A++B'++D)):=by
 have h0:0≤i∧xs[i.toNat]?=some x:=by
  unfold ix at hx
  split at hx
  ·rename_i h0; exact ⟨h0,hx⟩
  ·cases hx
 rcases hO with ⟨z,rfl,hz,rfl,rfl⟩ | ⟨b,cs,ow,L0,rfl,rfl,hl⟩
 ·simp[ix] at hx
 ·obtain ⟨c,B,C1,C2,A,D,h1,h2,h3,h4,h5⟩:=hl.get' h0.2 k2
  rw[Nat.zero_add] at h1
  exact ⟨b,cs,ow,c,B,C1,C2,A,D,rfl,by rw[h4],h1,h2,h3,fun y c' B' ow' hy=>⟨_,.inr ⟨b,_,ow',_,by rw[List.length_set],rfl,h5 y c' B' hy⟩⟩⟩

theorem AllG.pop (hG:AllG G Ls) {j2:Nat} {P2:List BX→Prop} (hj:G[j2]?=some P2):∃ L2 Ls1,P2 L2∧AllG (G.set j2 (fun L=>L=[])) Ls1∧∀ E:List BX,(E++Ls.flatten).Perm ((E++Ls1.flatten)++L2):=by
 obtain ⟨L2,hL,hP⟩:=hG.get hj
 obtain ⟨U,W,f1,f2⟩:=flat_mid hL
 refine ⟨L2,Ls.set j2 [],hP,hG.set j2 rfl,fun E=>?_⟩
 rw[f1,f2]
 simp only[List.append_assoc,List.append_nil,List.nil_append]
 exact List.Perm.append_left _ (List.Perm.append_left _ List.perm_append_comm)

theorem OS.own {α:Type} {e:OT α} {h:AV} {k:KT} {xs:List α} {L:List BX} (hO:OS e h k xs L):(oSl e).own (fun ρ=>match ρ with | []=>h | a::ρ=>k (a::ρ)) xs [h] L:=by
 refine ⟨rfl,?_⟩
 rcases hO with h | ⟨b,cs,ow,L0,rfl,rfl,hl⟩
 ·exact .inl h
 ·exact .inr ⟨b,cs,ow,L0,rfl,rfl,hl.congr (fun j _ _=>rfl)⟩

theorem AOps.stH {α β:Type} {e:OT α} {e2:OT β} {h h2:AV} {k k2:KT} {ys:List α} {zs:List β} {y y':α} {i:Int} {j2 ty b a q n:Nat} {p X:Operand} {ti:TI} (hH:HS ex kp s0 s (E++Ls.flatten)) (hG:AllG G Ls) (hl:LoOK ex kp s0) (hj:G[j]?=some (OS e h k ys)) (hj2:G[j2]?=some (OS e2 h2 k2 zs)) (hne:j2≠j) (hx:ix ys i=some y) (hb:h=.ms e.ag e.sz b 0 n)
  (hw:wantedA o all tm=some true) (ho:o.op=.store ty p X) (hT:C.ty ty=some ti) (hX:evalO tm p=.ptr b a) (ha:a=0+i.toNat*e.sz+q) (hv:evalO tm X=h2) (hn:ti.size=1) (hq:q+1≤e.sz) (hd:o.dst=none)
  (k3:KT) (hown:∀ c B L2,e.own (k.at i.toNat) y c B→OS e2 h2 k2 zs L2→e.own k3 y' (over c q [h2]) L2)
  (kk:∀ k' Ls' s2,AllG ((G.set j2 (fun L=>L=[])).set j (OS e h k' (ys.set i.toNat y'))) Ls'→HS ex kp s0 s2 (E++Ls'.flatten)→AOps C I draw all l ⟨tm,clearO os X,s2⟩ Q) (him:stPd I p=false:=by rfl):AOps C I draw all (o::l) ⟨tm,os,s⟩ Q:=by
 obtain ⟨L2,Ls1,hP2,hG1,hper⟩:=hG.pop hj2
 have hj1:(G.set j2 (fun L=>L=[]))[j]?=some (OS e h k ys):=by rw[List.getElem?_set_ne hne]; exact hj
 obtain ⟨L,hL,hP⟩:=hG1.get hj1
 have hH1:=hH.perm (hper E)
 obtain ⟨U,W,f1,f2⟩:=flat_mid hL
 obtain ⟨b',cs,ow,c,B,C1,C2,A,D,r1,r2,r3,r4,r5,r6⟩:=hP.get2 hx k3
 have hone2:=hP2.one
 rw[hb] at r1
 simp only[AV.ms.injEq,true_and] at r1
 obtain ⟨rfl,_⟩:=r1
 have h3:=hown c B L2 r3 hP2
 have hcl:=e.len r3
 have hper2:((E++Ls1.flatten)++L2).Perm ((E++U)++⟨some b,cs,ow⟩::((A++(L2++(D++W)))++B)):=by
  rw[f1,r2]
  simp only[List.append_assoc,List.cons_append]
  refine List.Perm.append_left _ (List.Perm.append_left _ (List.Perm.cons _ (List.Perm.append_left _ ?_)))
  have p1:(B++(D++(W++L2))).Perm ((D++(W++L2))++B):=List.perm_append_comm
  refine p1.trans ?_
  have p2:((D++(W++L2))++B).Perm ((L2++(D++W))++B):=List.Perm.append_right _ (by rw[← List.append_assoc]; exact List.perm_append_comm)
  refine p2.trans ?_
  simp
 have hH2:=hH1.perm hper2
 have hlo:s.ro≤b∧s.lo≤b:=by
  exact HS.lob (Ls:=[]) (E:=(E++U)++⟨some b,cs,ow⟩::((A++(L2++(D++W)))++B)) (by simpa using hH2) hl (x:=⟨some b,cs,ow⟩) (by simp) rfl
 have hbx:=(hH2.bx ⟨some b,cs,ow⟩ (by simp) b rfl).2.2
 have hH3:=hH2.setMid (cs':=over cs a h2.cells) (ow':=stOw os X h2 a ti.size (s.ow b))
 have hlen:cs.length=C1.length+c.length+C2.length:=by rw[r4]; simp; omega
 have hbnd:i.toNat*e.sz+e.sz≤cs.length:=by omega
 have hcc:(cs.drop (i.toNat*e.sz)).take e.sz=c:=by
  rw[r4,← r5,List.append_assoc,List.drop_append,List.drop_length,Nat.sub_self,List.drop_zero,List.nil_append,← hcl]; simp
 have hov:over cs a h2.cells=C1++over c q [h2]++C2:=by
  rw[ha,Nat.zero_add,AV.cells_one hone2,over_in hcc hbnd (by simpa using hq)]
  have hl2:=e.len h3
  unfold over at hl2 ⊢
  rw[hl2,← r5,r4]
  have t1:(C1++c++C2).take C1.length=C1:=by simp
  have t2:(C1++c++C2).drop (C1.length+e.sz)=C2:=by rw[← hcl,← List.length_append]; simp
  rw[t1,t2]
 obtain ⟨k',hk'⟩:=r6 y' _ L2 (stOw os X h2 a ti.size (s.ow b)) h3
 refine .op hw (by unfold callee?; rw[ho]) (f':=⟨tm,clearO os X,s.setBox b (over cs a h2.cells) (stOw os X h2 a ti.size (s.ow b))⟩) ?_
  (kk k' (Ls1.set j (⟨some b,C1++over c q [h2]++C2,stOw os X h2 a ti.size (s.ow b)⟩::(A++L2++D))) _ (hG1.set j hk') ?_)
 ·have hle:a+ti.size≤cs.length:=by omega
  have hcn:h2.cells.length=ti.size:=by rw[AV.cells_one hone2,hn]; rfl
  have hlay:=hP2.lay
  unfold opF
  simp[moveOp,cutM,cutV,Option.map_none,pureOp,makeOp,memOp,ho,hT,hX,hv,hlay,hcn,hd,imS_of him hbx.1,hlo.1,hlo.2,hle,stOw,show 0<ti.size by omega]
  cases X<;>rfl
 ·rw[f2]
  have:=hH3
  rw[hov] at this ⊢
  rw[show (E++U)++⟨some b,C1++over c q [h2]++C2,stOw os X h2 a ti.size (s.ow b)⟩::((A++(L2++(D++W)))++B)=((E++U)++⟨some b,C1++over c q [h2]++C2,stOw os X h2 a ti.size (s.ow b)⟩::(A++(L2++(D++W))))++B++[] by simp] at this
  have h4:=this.less
  simpa using h4


theorem HS.pushG (hH:HS ex kp s0 s (E++Ls.flatten)) (cs:List AV):HS ex kp s0 (s.push cs) (E++([⟨some s.n,cs,fun _=>false⟩]::Ls).flatten):=by
 refine (hH.push cs).perm ?_
 simp only[List.flatten_cons,List.singleton_append]
 exact (List.perm_middle).symm

theorem flatten_rep {cs:List AV}:∀ n,(List.replicate (n+1) cs).flatten=cs++(List.replicate n cs).flatten:=fun n=>by rw[List.replicate_succ,List.flatten_cons]

theorem OL.rep {α:Type} {e:OT α} {k:KT} {x0:α} {cs:List AV} (h:∀ i,e.own (k.at i) x0 cs []):∀ (n i:Nat),OL e k i (List.replicate n x0) (List.replicate n cs).flatten []
 | 0,i=>.nil
 | n+1,i=>by
  rw[List.replicate_succ,flatten_rep]
  exact .cons (B:=[]) (L:=[]) (h i) (OL.rep h n (i+1))

theorem AOps.mkO {α:Type} {e:OT α} {x0:α} {xs:List α} {d ty et:Nat} {ln cp:Operand} {T ei:TI} {n:Int} (k0:KT) (hH:HS ex kp s0 s (E++Ls.flatten)) (hG:AllG G Ls) (hw:wantedA o all tm=some true) (ho:o.op=.makeSlice ty ln cp) (hT:C.ty ty=some T) (hTu:T.u=.slice et) (hE:C.ty et=some ei) (hl:evalO tm ln=.int .i64 n) (hc:evalO tm cp=.int .i64 n)
  (hz:layable ei.zero=true∧ei.zero.cells.length=ei.size∧ei.bytes≤256) (hm:mk x0 n=some xs) (hsz:ei.isAgg=e.ag∧ei.size=e.sz) (hown:∀ i,e.own (k0.at i) x0 ei.zero.cells []) (hd:o.dst=some d)
  (kk:∀ h k Ls' s2,h.one=true→AllG (OS e h k xs::G) Ls'→HS ex kp s0 s2 (E++Ls'.flatten)→AOps C I draw all l ⟨upd tm d h,upd os d false,s2⟩ Q):AOps C I draw all (o::l) ⟨tm,os,s⟩ Q:=by
 obtain ⟨u,a,b,zz⟩:=T
 simp only at hTu
 subst hTu
 obtain ⟨h0,h1⟩:(0≤n∧n≤LIM)∧xs=List.replicate n.toNat x0:=by
  unfold mk at hm
  split at hm
  ·rename_i h; exact ⟨h,by cases hm; rfl⟩
  ·cases hm
 have hs:=hH.pushG ((List.replicate n.toNat ei.zero.cells).flatten)
 refine .op hw (by unfold callee?; rw[ho]) (f':=⟨upd tm d (.ms ei.isAgg ei.size s.n 0 n.toNat),upd os d false,s.push (List.replicate n.toNat ei.zero.cells).flatten⟩) ?_ (kk _ k0 _ _ rfl (.cons ?_ hG) hs)
 ·simp[opF,moveOp,cutM,cutV,Option.map_none,pureOp,makeOp,memOp,ho,hT,hE,hl,hc,hz.1,hz.2.1,hz.2.2,h0.1,h0.2,Fr.put,hd]
 ·refine .inr ⟨s.n,_,_,[],?_,rfl,?_⟩
  ·rw[hsz.1,hsz.2,h1,List.length_replicate]
  ·rw[h1]; exact OL.rep hown _ 0

theorem AOps.appG {α:Type} {e:OT α} {h:AV} {k:KT} {xs ys zs:List α} {d:Nat} {x y:Operand} {st yt et:Nat} {T ei:TI} {z':Nat} {f':Bool} {e' ds:List AV} {M:List BX} {G1:List (List BX→Prop)} {Ls1:List (List BX)} (hH:HS ex kp s0 s ((E++Ls1.flatten)++M)) (hG:AllG G1 Ls1) (hj:G1[j]?=some (OS e h k xs))
  (hw:wantedA o all tm=some true) (ho:o.op=.call { callee:=.builtin .append,args:=#[x,y],argTypes:=#[st,yt] }) (hT:C.ty st=some T) (hTu:T.u=.slice et) (hE:C.ty et=some ei) (hX:evalO tm x=h) (hY:evalO tm y=.sl z' f' e') (hs:appSrc C ei yt (.sl z' f' e')=some e')
  (hei:0<ei.size∧ei.bytes≤256∧layable ei.zero=true∧ei.zero.cells.length=ei.size) (hsz:ei.isAgg=e.ag∧ei.size=e.sz) (hdy:I.dy.contains d=true) (hd:o.dst=some d) (hz:app xs ys=some zs) (hfl:flatA e'=ds) (hln:e'.length=ys.length)
  (k2:Nat→KT) (hown:∀ i,OL e (k2 i) i ys ds M)
  (kk:∀ h' k' Ls' s2,h'.one=true→AllG (G1.set j (OS e h' k' zs)) Ls'→HS ex kp s0 s2 (E++Ls'.flatten)→AOps C I draw all l ⟨upd tm d h',upd os d false,s2⟩ Q):AOps C I draw all (o::l) ⟨tm,os,s⟩ Q:=by
 obtain ⟨rfl,hlen⟩:=app_some hz
 obtain ⟨L,hL,hP⟩:=hG.get hj
 obtain ⟨U,W,f1,f2⟩:=flat_mid hL
 obtain ⟨u,a1,b1,zz⟩:=T
 simp only at hTu
 subst hTu
 have hdm:d∈I.dy:=by simpa using hdy
 rcases hP with ⟨z,rfl,hz0,rfl,rfl⟩ | ⟨b,cs,ow,L0,rfl,rfl,hol⟩
 ·-- the first elements
  by_cases hne':e'=[]
  ·subst hne'
   have hy0:ys=[]:=List.eq_nil_of_length_eq_zero (by rw[← hln]; rfl)
   subst hy0
   have hM:M=[]:=by
    have:=hown 0
    cases this; rfl
   subst hM
   rw[List.append_nil] at hH
   have hcond:(z=ei.size∨z=0∧([]:List AV)=[]):=by
    rcases hz0 with h | h
    ·exact .inl (by rw[hsz.2]; exact h)
    ·exact .inr ⟨h,rfl⟩
   refine .op hw (by unfold callee?; rw[ho]) (f':=⟨upd tm d (.sl ei.size true []),upd os d false,s⟩) ?_ (kk _ k (Ls1.set j []) s rfl (hG.set j (.inl ⟨_,rfl,.inl hsz.2,rfl,rfl⟩)) (by rw[f2,← f1]; exact hH))
   unfold opF
   simp[moveOp,cutM,cutV,Option.map_none,pureOp,makeOp,memOp,ho,hT,hE,hX,hY,hs,mayApp,hei.1,hei.2.1,hei.2.2.1,hei.2.2.2,hd,hdm,isFull,Fr.put]
   rcases hcond with h | h
   ·exact fun hn=>absurd h hn
   ·exact fun _=>h.1
  have hp:=(hH.push ds).perm (L':=(E++(U++(⟨some s.n,ds,fun _=>false⟩::M)++W))) (by
   rw[f1]
   simp only[List.append_nil,List.append_assoc,List.cons_append]
   have e1:(E++(U++(⟨some s.n,ds,fun _=>false⟩::(M++W))))=(E++U)++(⟨some s.n,ds,fun _=>false⟩::(M++W)):=by simp
   have e2:(⟨some s.n,ds,fun _=>false⟩::(E++(U++(W++M))):List BX)=⟨some s.n,ds,fun _=>false⟩::((E++U)++(W++M)):=by simp
   rw[e1,e2]
   refine List.Perm.trans ?_ List.perm_middle.symm
   exact List.Perm.cons _ (List.Perm.append_left _ List.perm_append_comm))
  rw[← f2] at hp
  refine .op hw (by unfold callee?; rw[ho]) (f':=⟨upd tm d (.ms ei.isAgg ei.size s.n 0 (0+e'.length)),upd os d false,s.push ds⟩) ?_ (kk _ (k2 0) _ _ rfl (hG.set j (.inr ⟨s.n,ds,_,M,?_,rfl,hown 0⟩)) hp)
  ·have hcond:(z=ei.size∨z=0∧([]:List AV)=[]):=by
    rcases hz0 with h | h
    ·exact .inl (by rw[hsz.2]; exact h)
    ·exact .inr ⟨h,rfl⟩
   have h5:e'.length≤LIM:=by rw[hln]; simpa using hlen
   have hfl0:flatA ([]++e')=ds:=by simpa using hfl
   unfold opF
   simp[moveOp,cutM,cutV,Option.map_none,pureOp,makeOp,memOp,ho,hT,hE,hX,hY,hs,mayApp,hei.1,hei.2.1,hei.2.2.1,hei.2.2.2,hd,hdm,isFull,hne',Fr.put]
   exact ⟨by simpa using hcond,h5,by rw[hfl]⟩
  ·rw[hsz.1,hsz.2]; simp[hln]
 ·-- more of them
  have hcsl:=hol.len (i:=0) (cs:=cs)
  have hap:OL e (fun ρ=>match ρ with | []=>.undef | a::ρ=>if a<xs.length then k (a::ρ) else k2 xs.length (a::ρ)) 0 (xs++ys) (cs++ds) (L0++M):=by
   refine OL.app (hol.congr (fun a _ h2=>?_)) ?_
   ·funext ρ; simp[KT.at,show a<xs.length by omega]
   ·rw[Nat.zero_add]
    refine (hown xs.length).congr (fun a h1 _=>?_)
    funext ρ; simp[KT.at,show ¬ a<xs.length by omega]
  have hH1:HS ex kp s0 s ((E++U)++⟨some b,cs,ow⟩::(L0++W++M)):=by
   rw[f1] at hH
   simpa using hH
  have hx:((E++U)++⟨some b,cs,ow⟩::(L0++W++M))[(E++U).length]?=some ⟨some b,cs,ow⟩:=by simp
  have hbx:=(hH1.bx ⟨some b,cs,ow⟩ (by simp) b rfl)
  have hro:s.ro≤b:=by
   rw[hH1.ro]
   rcases hbx.1 with h4 | h4
   ·exact Nat.le_trans hH1.wf h4
   ·exact (hH1.xl b h4).1
  have hp:=(hH1.re (s1:=s.kill b) hx rfl rfl rfl rfl (fun c=>by
   by_cases hcb:c=b
   ·subst hcb; exact .inr rfl
   ·exact .inl (by simp[St.kill,upd,hcb])) (cs.take (xs.length*e.sz)++ds)).perm (L':=(E++(U++(⟨some s.n,cs++ds,fun _=>false⟩::(L0++M))++W))) (by
    rw[List.take_of_length_le (by omega)]
    simp only[List.length_append,List.append_assoc,List.cons_append]
    rw[show (E++(U++⟨some b,cs,ow⟩::(L0++(W++M))))=(E++U)++⟨some b,cs,ow⟩::(L0++(W++M)) by simp]
    rw[show E.length+U.length=(E++U).length by simp]
    simp only[List.set_append_right,Nat.le_refl,Nat.sub_self,List.set_cons_zero]
    rw[show (E++(U++⟨some s.n,cs++ds,fun _=>false⟩::(L0++(M++W))))=(E++U)++⟨some s.n,cs++ds,fun _=>false⟩::(L0++(M++W)) by simp]
    exact List.Perm.append_left _ (List.Perm.cons _ (List.Perm.append_left _ List.perm_append_comm)))
  rw[← f2] at hp
  refine .op hw (by unfold callee?; rw[ho]) (f':=⟨upd tm d (.ms ei.isAgg ei.size s.n 0 (xs.length+e'.length)),upd os d false,(s.kill b).push (cs.take (xs.length*e.sz)++ds)⟩) ?_ (kk _ _ _ _ rfl (hG.set j (.inr ⟨s.n,cs++ds,_,L0++M,?_,rfl,hap⟩)) hp)
  ·have hrun:=appM_run (C:=C) (f:=⟨tm,os,s⟩) (o:=o) (ei:=ei) (yt:=yt) (ag:=e.ag) (sz:=e.sz) (b:=b) (n:=xs.length) (ys:=e') (cs:=cs) (y:=.sl z' f' e') hs hbx.2.2.1 hsz.2.symm hsz.1.symm (by omega) hro hei (by have h6:=hlen; rw[hln]; omega)
   have hX':evalO tm x=.ms e.ag e.sz b 0 xs.length:=hX
   have hmay:mayApp ⟨tm,os,s⟩ x (.ms e.ag e.sz b 0 xs.length)=none:=by cases x<;>rfl
   unfold opF
   simp only[moveOp,cutM,cutV,Option.map_none,pureOp,makeOp,memOp,ho,hT,hE]
   simp only[hX',hmay,hY,hd,Option.any_some,hdy,if_true]
   rw[hrun,hfl,hd]
   simp[Fr.put,hsz.1,hsz.2]
  ·rw[hsz.1,hsz.2]; simp[hln]
end
end Ae
namespace Ae
open Go

section
variable {ex ex0:List Nat} {kp kp0:Bool} {s0 s s':St} {E Ef:List BX} {Ls Lf:List (List BX)} {G Gf:List (List BX→Prop)}

theorem HS.enterK {A F:List BX} (h:HS ex0 kp0 s0 s (A++F)):HS (F.filterMap BX.b) true s s F where
 n:=Nat.le_refl _
 ro:=rfl
 lo:=rfl
 lol:=h.wf'.lo
 wf:=h.wf'.ro
 xl:=fun b hb=>by
  obtain ⟨x,hx,hxb⟩:=List.mem_filterMap.1 hb
  have h1:=h.bx x (List.mem_append_right _ hx) b hxb
  refine ⟨?_,h1.2.1⟩
  rw[h.ro]
  rcases h1.1 with h2 | h2
  ·exact Nat.le_trans h.wf h2
  ·exact (h.xl b h2).1
 old:=fun _ _ _=>⟨rfl,rfl⟩
 bx:=fun x hx b hb=>by
  have h1:=h.bx x (List.mem_append_right _ hx) b hb
  exact ⟨.inr (List.mem_filterMap.2 ⟨x,hx,hb⟩),h1.2.1,h1.2.2.1,h1.2.2.2⟩
 nd:=by
  have:=h.nd
  rw[List.filterMap_append,List.nodup_append] at this
  exact this.2.1

theorem HS.enterLo {A F:List BX} (h:HS ex0 kp0 s0 s (A++F)) (hl:LoOK ex0 kp0 s0):LoOK (F.filterMap BX.b) true s:=by
 intro b hb
 obtain ⟨x,hx,hxb⟩:=List.mem_filterMap.1 hb
 have:=HS.lob (Ls:=[F]) (E:=A) (by simpa using h) hl (x:=x) (by simp[hx]) hxb
 simpa using this.2

theorem HS.joinK {A F F':List BX} (h:HS ex0 kp0 s0 s (A++F)) (k:HS (F.filterMap BX.b) true s s' F'):HS ex0 kp0 s0 s' (A++F') where
 n:=Nat.le_trans h.n k.n
 ro:=k.ro.trans h.ro
 lo:=by
  have:=k.lo
  simp only[if_true] at this
  rw[this]; exact h.lo
 lol:=h.lol
 wf:=h.wf
 xl:=h.xl
 old:=fun b hb hx=>by
  have h2:=h.old b hb hx
  have h1:=k.old b (Nat.lt_of_lt_of_le hb h.n) (fun hm=>by
   obtain ⟨x,hx1,hxb⟩:=List.mem_filterMap.1 hm
   rcases (h.bx x (List.mem_append_right _ hx1) b hxb).1 with h3 | h3
   ·omega
   ·exact hx h3)
  exact ⟨h1.1.trans h2.1,h1.2.trans h2.2⟩
 bx:=fun x hx b hb=>by
  rcases List.mem_append.1 hx with hx | hx
  ·have h1:=h.bx x (List.mem_append_left _ hx) b hb
   have h2:=k.old b h1.2.1 (fun hm=>by
    have:=h.nd
    rw[List.filterMap_append,List.nodup_append] at this
    exact this.2.2 b (List.mem_filterMap.2 ⟨x,hx,hb⟩) b hm rfl)
   exact ⟨h1.1,Nat.lt_of_lt_of_le h1.2.1 k.n,h2.1.trans h1.2.2.1,h2.2.trans h1.2.2.2⟩
  ·have h1:=k.bx x hx b hb
   refine ⟨?_,h1.2⟩
   rcases h1.1 with h2 | h2
   ·exact .inl (Nat.le_trans h.n h2)
   ·obtain ⟨y,hy,hyb⟩:=List.mem_filterMap.1 h2
    exact (h.bx y (List.mem_append_right _ hy) b hyb).1
 nd:=by
  have hn:=h.nd
  rw[List.filterMap_append,List.nodup_append] at hn ⊢
  refine ⟨hn.1,k.nd,fun b hb c hc e=>?_⟩
  subst e
  obtain ⟨x,hx,hxb⟩:=List.mem_filterMap.1 hb
  obtain ⟨y,hy,hyb⟩:=List.mem_filterMap.1 hc
  have h1:=(h.bx x (List.mem_append_left _ hx) b hxb).2.1
  rcases (k.bx y hy b hyb).1 with h2 | h2
  ·omega
  ·exact hn.2.2 b hb b h2 rfl


open Classical in
noncomputable def ctB (a:BX) (l:List BX):Nat:=l.count a
open Classical in
noncomputable def oneBX (a x:BX):Nat:=if x=a then 1 else 0
open Classical in
theorem ctB_nil (a:BX):ctB a []=0:=rfl
open Classical in
theorem ctB_cons (a x:BX) (l:List BX):ctB a (x::l)=oneBX a x+ctB a l:=by
 classical
 unfold ctB oneBX
 rw[List.count_cons]
 by_cases h:x=a<;>simp[h]<;>omega
open Classical in
theorem ctB_app (a:BX) (l m:List BX):ctB a (l++m)=ctB a l+ctB a m:=by unfold ctB; rw[List.count_append]
open Classical in
theorem perm_ct {l m:List BX} (h:∀ a,ctB a l=ctB a m):l.Perm m:=List.perm_iff_count.2 h
open Classical in
theorem ctB_set {l:List BX} {i:Nat} {x y:BX} (hx:l[i]?=some x) (a:BX):oneBX a y+ctB a l=oneBX a x+ctB a (l.set i y):=by
 induction l generalizing i with
 | nil=>simp at hx
 | cons b l ih =>
  cases i with
  | zero =>
   simp at hx
   subst hx
   simp only[List.set_cons_zero,ctB_cons]; omega
  | succ i =>
   simp at hx
   have:=ih hx
   simp only[List.set_cons_succ,ctB_cons]; omega

theorem HS.pop0 (hH:HS ex kp s0 s (E++Ls.flatten)):HS ex kp s0 s ((E++Ls.flatten)++([]++([]:List (List BX)).flatten)):=by simpa using hH
theorem HS.push0 (hH:HS ex kp s0 s ((E++Ls.flatten)++([]++([]:List (List BX)).flatten))):HS ex kp s0 s (E++Ls.flatten):=by simpa using hH

theorem HS.popE (hH:HS ex kp s0 s ((E++Ls.flatten)++(Ef++Lf.flatten))) {i:Nat} {x:BX} (hx:E[i]?=some x):HS ex kp s0 s ((E.set i noBX++Ls.flatten)++((Ef++[x])++Lf.flatten)):=by
 refine (HS.non hH [] (fun _=>false)).perm (perm_ct fun a=>?_)
 have:=ctB_set (y:=noBX) hx a
 simp only[ctB_app,ctB_cons,ctB_nil]
 simp only[noBX] at this ⊢
 omega

theorem ctB_pop {L:List BX} {j:Nat} (h:Ls[j]?=some L) (a:BX):ctB a Ls.flatten=ctB a L+ctB a (Ls.set j []).flatten:=by
 obtain ⟨U,W,f1,f2⟩:=flat_mid h
 rw[f1,f2]
 simp only[ctB_app,ctB_nil]; omega
theorem ctB_put {L:List BX} {j:Nat} (h:Ls[j]?=some []) (a:BX):ctB a (Ls.set j L).flatten=ctB a L+ctB a Ls.flatten:=by
 obtain ⟨U,W,f1,f2⟩:=flat_mid h
 rw[f1,f2]
 simp only[ctB_app,ctB_nil]; omega

def Non:List BX→Prop:=fun L=>L=[]

theorem HS.popG (hH:HS ex kp s0 s ((E++Ls.flatten)++(Ef++Lf.flatten))) (hG:AllG G Ls) (hF:AllG Gf Lf) {j:Nat} {P:List BX→Prop} (hj:G[j]?=some P) :
  ∃ Ls1 Lf1,AllG (G.set j Non) Ls1∧AllG (Gf++[P]) Lf1∧HS ex kp s0 s ((E++Ls1.flatten)++(Ef++Lf1.flatten)):=by
 obtain ⟨L,hL,hP⟩:=hG.get hj
 refine ⟨Ls.set j [],Lf++[L],hG.set j rfl,hF.app (.cons hP .nil),hH.perm (perm_ct fun a=>?_)⟩
 have:=ctB_pop hL a
 simp only[ctB_app,List.flatten_append,List.flatten_cons,List.flatten_nil,List.append_nil]
 omega
theorem HS.putG {P:List BX→Prop} (hH:HS ex kp s0 s ((E++Ls.flatten)++(Ef++Lf.flatten))) (hG:AllG G Ls) (hF:AllG (P::Gf) Lf) {j:Nat} (hj:G[j]?=some Non) :
  ∃ Ls1 Lf1,AllG (G.set j P) Ls1∧AllG Gf Lf1∧HS ex kp s0 s ((E++Ls1.flatten)++(Ef++Lf1.flatten)):=by
 obtain ⟨L,hL,hP⟩:=hG.get hj
 have hP':L=[]:=hP
 subst hP'
 cases hF with
 | cons h t =>
  rename_i L0 Lf0
  refine ⟨Ls.set j L0,Lf0,hG.set j h,t,hH.perm (perm_ct fun a=>?_)⟩
  have:=ctB_put (L:=L0) hL a
  simp only[ctB_app,List.flatten_cons]
  omega
theorem HS.pushN {P:List BX→Prop} (hH:HS ex kp s0 s ((E++Ls.flatten)++(Ef++Lf.flatten))) (hG:AllG G Ls) (hF:AllG (P::Gf) Lf) :
  ∃ Ls1 Lf1,AllG (P::G) Ls1∧AllG Gf Lf1∧HS ex kp s0 s ((E++Ls1.flatten)++(Ef++Lf1.flatten)):=by
 cases hF with
 | cons h t =>
  rename_i L0 Lf0
  refine ⟨L0::Ls,Lf0,.cons h hG,t,hH.perm (perm_ct fun a=>?_)⟩
  simp only[ctB_app,List.flatten_cons]
  omega

def Hole {β:Type} (P':List β→List BX→Prop) (e:OT β) (h:AV) (k:KT):List BX→Prop:=fun R=>∃ A C,R=A++C∧∀ ys B,OS e h k ys B→P' ys (A++B++C)

theorem HS.popS {β:Type} {e:OT β} {h:AV} {k:KT} {ys:List β} {P':List β→List BX→Prop} (hH:HS ex kp s0 s ((E++Ls.flatten)++(Ef++Lf.flatten))) (hG:AllG G Ls) (hF:AllG Gf Lf) {j:Nat} {P:List BX→Prop} (hj:G[j]?=some P) (hS:Sub P e h k ys P') :
  ∃ Ls1 Lf1,AllG (G.set j (Hole P' e h k)) Ls1∧AllG (Gf++[OS e h k ys]) Lf1∧HS ex kp s0 s ((E++Ls1.flatten)++(Ef++Lf1.flatten)):=by
 obtain ⟨L,hL,hP⟩:=hG.get hj
 obtain ⟨A,B,C,h1,h2,h3⟩:=hS L hP
 obtain ⟨U,W,f1,f2⟩:=flat_mid hL
 refine ⟨Ls.set j (A++C),Lf++[B],hG.set j ⟨A,C,rfl,h3⟩,hF.app (.cons h2 .nil),hH.perm (perm_ct fun a=>?_)⟩
 rw[f1,f2,h1]
 simp only[ctB_app,List.flatten_append,List.flatten_cons,List.flatten_nil,List.append_nil]
 omega
theorem HS.pushS {β:Type} {e:OT β} {h:AV} {k:KT} {ys:List β} {P':List β→List BX→Prop} (hH:HS ex kp s0 s ((E++Ls.flatten)++(Ef++Lf.flatten))) (hG:AllG G Ls) (hF:AllG (OS e h k ys::Gf) Lf) {j:Nat} (hj:G[j]?=some (Hole P' e h k)) :
  ∃ Ls1 Lf1,AllG (G.set j (P' ys)) Ls1∧AllG Gf Lf1∧HS ex kp s0 s ((E++Ls1.flatten)++(Ef++Lf1.flatten)):=by
 obtain ⟨L,hL,A,C,rfl,h3⟩:=hG.get hj
 obtain ⟨U,W,f1,f2⟩:=flat_mid hL
 cases hF with
 | cons hO t =>
  rename_i L0 Lf0
  refine ⟨Ls.set j (A++L0++C),Lf0,hG.set j (h3 _ _ hO),t,hH.perm (perm_ct fun a=>?_)⟩
  rw[f1,f2]
  simp only[ctB_app,List.flatten_cons]
  omega


theorem HS.has (hH:HS ex kp s0 s (E++Ls.flatten)) {j:Nat} {L:List BX} (hj:Ls[j]?=some L) {n:Nat} (hn:n=0∨(n=s0.n∧ex=[])):Has s n L:=by
 intro x hx b hb
 obtain ⟨U,W,f1,_⟩:=flat_mid hj
 have h1:=hH.bx x (by rw[f1]; simp[hx]) b hb
 refine ⟨?_,h1.2.2.1⟩
 rcases hn with rfl | ⟨rfl,rfl⟩
 ·exact Nat.zero_le _
 ·rcases h1.1 with h | h
  ·exact h
  ·cases h
theorem HS.finO {α:Type} {e:OT α} {h:AV} {k:KT} {xs:List α} (hH:HS ex kp s0 s (E++Ls.flatten)) (hG:AllG G Ls) {j:Nat} (hj:G[j]?=some (OS e h k xs)) {n:Nat} (hn:n=0∨(n=s0.n∧ex=[])):Fin s n (e.dep+1) (rL e.rel e.sz xs) h:=by
 obtain ⟨L,hL,hP⟩:=hG.get hj
 exact hP.fin (hH.has hL hn)

theorem fin_up {s:St} {n:Nat}:∀ {k m:Nat} (_:k≤m) {v v':AV},fin s n k v=some v'→fin s n m v=some v':=by
 intro k
 induction k with
 | zero=>intro m _ v v' h; simp[fin] at h
 | succ k ih =>
  intro m hm v v' h
  obtain ⟨m,rfl⟩:∃ q,m=q+1:=⟨m - 1,by omega⟩
  have hm':k≤m:=by omega
  have key:∀ (l l':List AV),l.mapM (fin s n k)=some l'→l.mapM (fin s n m)=some l':=by
   intro l
   induction l with
   | nil=>intro l' h; simpa using h
   | cons a l ihl =>
    intro l' h
    rw[List.mapM_cons] at h⊢
    cases ha:fin s n k a with
    | none=>simp[ha] at h
    | some b =>
     cases hl:l.mapM (fin s n k) with
     | none=>simp[ha,hl] at h
     | some bs=>rw[ih hm' ha,ihl _ hl]; simpa[ha,hl] using h
  have mp:∀ {l:List AV} {f:List AV→AV} {v':AV},(l.mapM (fin s n k)).map f=some v'→(l.mapM (fin s n m)).map f=some v':=by
   intro l f v' h
   rw[Option.map_eq_some_iff] at h⊢
   obtain ⟨x,hx,hy⟩:=h
   exact ⟨x,key _ _ hx,hy⟩
  unfold fin at h⊢
  split at h
  ·rename_i hc; rw[if_pos hc]; exact h
  ·rename_i hc
   rw[if_neg hc]
   cases v with
   | ms ag sz b off len =>
    simp only at h⊢
    cases hb:s.h b with
    | none=>rw[hb] at h; cases h
    | some cs =>
     rw[hb] at h
     simp only at h⊢
     split at h
     ·rename_i hcc; rw[if_pos hcc]; exact mp h
     ·cases h
   | ptr b off =>
    simp only at h⊢
    cases hb:s.h b with
    | none=>rw[hb] at h; cases h
    | some cs =>
     rw[hb] at h
     simp only at h⊢
     exact mp h
   | _=>first | exact mp h | cases h
theorem Fin.up {s:St} {n k m:Nat} (hm:k≤m) {p:AV→Prop} {v:AV} (h:Fin s n k p v):Fin s n m p v:=by
 obtain ⟨h1,v',h2,h3⟩:=h
 exact ⟨h1,v',fin_up hm h2,h3⟩

def FG (G:List (List BX→Prop)):Prop:=∀ n Ls,AllG G Ls→(∀ x∈Ls.flatten,∀ b,x.b=some b→n≤b)→∀ x∈Ls.flatten,AV.flatL n x.cs=true
theorem FG.nil:FG []:=fun n Ls h _ x hx=>by cases h; simp at hx
theorem FG.cons {α:Type} {e:OT α} {h:AV} {k:KT} {xs:List α} (hf:Flt e) (hg:FG G):FG (OS e h k xs::G):=by
 intro n Ls hG hb x hx
 cases hG with
 | cons hP t =>
  rename_i L Ls
  simp only[List.flatten_cons,List.mem_append] at hb hx
  rcases hx with hx | hx
  ·exact (hP.flat hf (fun y hy=>hb y (.inl hy))).2 x hx
  ·exact hg n Ls t (fun y hy=>hb y (.inr hy)) x hx

theorem HS.ge (hH:HS [] kp s0 s (E++Ls.flatten)):∀ x∈Ls.flatten,∀ b,x.b=some b→s0.n≤b:=by
 intro x hx b hb
 rcases (hH.bx x (List.mem_append_right _ hx) b hb).1 with h | h
 ·exact h
 ·cases h
theorem HS.flatO {α:Type} {e:OT α} {h:AV} {k:KT} {xs:List α} (hH:HS [] kp s0 s (E++Ls.flatten)) (hG:AllG G Ls) {j:Nat} (hj:G[j]?=some (OS e h k xs)) (hf:Flt e):h.flatB s0.n=true:=by
 obtain ⟨L,hL,hP⟩:=hG.get hj
 obtain ⟨U,W,f1,_⟩:=flat_mid hL
 exact (hP.flat hf (fun y hy=>hH.ge y (by rw[f1]; simp[hy]))).1

theorem HS.joinL {L:List BX} (h:HS ex0 kp0 s0 s L) {s':St} (k:HS [] true s.blind s' Lf.flatten) (hG:AllG Gf Lf) (hg:FG Gf):HS ex0 kp0 s0 (s.join s') (Lf.flatten++L):=by
 have hge:∀ x∈Lf.flatten,∀ b,x.b=some b→s.n≤b:=HS.ge (E:=[]) (s0:=s.blind) (by simpa using k)
 have hfl:=hg s.n Lf hG hge
 have hn:s.n≤s'.n:=k.n
 exact
  { n:=Nat.le_trans h.n hn
    ro:=h.ro
    lo:=h.lo
    lol:=h.lol
    wf:=h.wf
    xl:=h.xl
    old:=fun b hb hx=>by
      have:b<s.n:=Nat.lt_of_lt_of_le hb h.n
      simpa[St.join,this] using h.old b hb hx
    bx:=fun x hx b hb=>by
      rcases List.mem_append.1 hx with hx | hx
      · have h1:=k.bx x hx b hb
        have h2:=hge x hx b hb
        have h3:¬ b<s.n:=by omega
        refine ⟨.inl (Nat.le_trans h.n h2),h1.2.1,?_,?_⟩
        · show (if b<s.n then s.h b else (s'.h b).filter (AV.flatL s.n))=_
          rw[if_neg h3,h1.2.2.1,Option.filter_some,if_pos (hfl x hx)]
        · show (if b<s.n then s.ow b else s'.ow b)=_
          rw[if_neg h3]; exact h1.2.2.2
      · have h1:=h.bx x hx b hb
        have h3:=h1.2.1
        refine ⟨h1.1,Nat.lt_of_lt_of_le h3 hn,?_,?_⟩
        · show (if b<s.n then s.h b else _)=_
          rw[if_pos h3]; exact h1.2.2.1
        · show (if b<s.n then s.ow b else _)=_
          rw[if_pos h3]; exact h1.2.2.2
    nd:=by
      rw[List.filterMap_append,List.nodup_append]
      refine ⟨k.nd,h.nd,fun b hb c hc e=>?_⟩
      subst e
      obtain ⟨x,hx,hxb⟩:=List.mem_filterMap.1 hb
      obtain ⟨y,hy,hyb⟩:=List.mem_filterMap.1 hc
      have:=hge x hx b hxb
      have:=(h.bx y hy b hyb).2.1
      omega }

theorem WF.blind {s:St}:WF s.blind:=⟨Nat.le_refl _,Nat.le_refl _⟩

variable {C:Cfg} {I:FI} {tm:Nat→AV} {os:Nat→Bool} {Q:Fr→Prop} {all:Array Oper} {l:List Oper} {o:Oper} {draw:Bool}

theorem AOps.lendP {d g:Nat} {args:List AV} {J:FI} {ps:List (AV→Prop)} {p:AV→Prop} (hw:wantedA o all tm=some true) (hc:callee? o tm=some (g,args)) (hd:o.dst=some d) (h0:C.ext g=none) (h1:C.fn g=some J) (h2:J.rd=1) (h3:J.keep=false)
  (hA:AllF s 0 FINK ps args) (h:∀ args',Cs ps args'→ACallN C g args' s.blind fun v _ s1=>p v∧s1=s.blind) (hf:∀ v n,p v→v.flatB n=true)
  (k:∀ v,p v→AOps C I false all l ⟨upd tm d v,upd os d false,s⟩ Q) (ha1:alias I o=false:=by rfl):AOps C I false all (o::l) ⟨tm,os,s⟩ Q:=by
 obtain ⟨_,args',ha,hcs⟩:=hA.fin
 refine .callR hw hc hd ?_ ha1
 refine ACallN.lend h0 h1 h2 ha ((h args' hcs).mono fun v ow s1 hp=>⟨hf v _ hp.1,?_⟩)
 rw[if_neg (by rw[h3]; simp)]
 exact k v hp.1
theorem AOps.lendD {d g:Nat} {args:List AV} {J:FI} {ps:List (AV→Prop)} {p:AV→Prop} (hw:wantedA o all tm=some true) (hc:callee? o tm=some (g,args)) (hd:o.dst=some d) (h0:C.ext g=none) (h1:C.fn g=some J) (h2:J.rd=1) (h3:J.keep=false)
  (hA:AllF s.still 0 FINK ps args) (h:∀ args',Cs ps args'→ACallN C g args' s.still.blind fun v _ s1=>p v∧s1=s.still.blind) (hf:∀ v n,p v→v.flatB n=true) (hp:∀ v,p v→v.pureB s.n=true)
  (k:∀ v,p v→AOps C I true all l ⟨upd tm d v,upd os d false,s⟩ Q) (ha1:alias I o=false:=by rfl) (he1:eff I o=false:=by rfl):AOps C I true all (o::l) ⟨tm,os,s⟩ Q:=by
 obtain ⟨_,args',ha,hcs⟩:=hA.fin
 refine .callDR hw hc hd ?_ ha1 he1
 refine ACallN.lend h0 h1 h2 ha ((h args' hcs).mono fun v ow s1 hq=>⟨hf v _ hq.1,hp v hq.1,?_⟩)
 exact k v hq.1
theorem AOps.lendK {d g:Nat} {args:List AV} {al:Bool} {J:FI} {ps:List (AV→Prop)} {p:AV→St→Prop} (hw:wantedA o all tm=some true) (hc:callee? o tm=some (g,args)) (hd:o.dst=some d) (h0:C.ext g=none) (h1:tbl C al g=some J) (h2:J.rd=1) (h3:J.keep=true)
  (hA:AllF s 0 FINK ps args) (h:∀ args',Cs ps args'→ACallN C g args' s.blind (fun v _ s1=>p v s1) al) (hf:∀ v s1,p v s1→v.flatB s.n=true)
  (k:∀ v s1,p v s1→AOps C I false all l ⟨upd tm d v,upd os d false,s.join s1⟩ Q) (ha1:alias I o=al:=by rfl):AOps C I false all (o::l) ⟨tm,os,s⟩ Q:=by
 obtain ⟨_,args',ha,hcs⟩:=hA.fin
 refine .callRA hw hc hd ha1 ?_
 refine ACallN.lend h0 h1 h2 ha ((h args' hcs).mono fun v ow s1 hp=>⟨hf v _ hp,?_⟩)
 rw[if_pos h3]
 exact k v s1 hp
theorem HS.given {L:List BX} (h:HS [] kp s0 s L) (h0:s0.n=0):HS [] kp s0 { s.blind with ro:=s.ro,lo:=s.lo } [] where
 n:=h.n
 ro:=h.ro
 lo:=h.lo
 lol:=h.lol
 wf:=h.wf
 xl:=h.xl
 old:=fun b hb=>by omega
 bx:=fun x hx=>by cases hx
 nd:=List.nodup_nil
end
end Ae
namespace Ae
open Go

theorem ix_set {α:Type} {l:List α} {i:Int} {x y:α} (h:ix l i=some x):ix (l.set i.toNat y) i=some y:=by
 unfold ix at h⊢
 split at h
 ·rename_i h0
  rw[if_pos h0,List.getElem?_set_self]
  exact (List.getElem?_eq_some_iff.1 h).1
 ·cases h
theorem one_lay {v:AV} (h:v.one=true):layable v=true:=by cases v<;>first | rfl | simp[AV.one] at h
theorem one_len {v:AV} (h:v.one=true):v.cells.length=1:=by rw[AV.cells_one h]; rfl

theorem AllG.imp {G:List (List BX→Prop)} {Ls:List (List BX)} (hG:AllG G Ls) (j:Nat) {P P':List BX→Prop} (hj:G[j]?=some P) (h:∀ L,P L→P' L):AllG (G.set j P') Ls:=by
 obtain ⟨L,hL,hP⟩:=hG.get hj
 have:=hG.set j (h L hP)
 have e:Ls.set j L=Ls:=by
  apply List.ext_getElem?
  intro i
  rw[List.getElem?_set]
  split
  ·rename_i e; subst e
   split
   ·exact hL.symm
   ·rename_i hlt; rw[List.getElem?_eq_none (by omega)]
  ·rfl
 rwa [e] at this

theorem Sub.one {β:Type} {G:List (List BX→Prop)} {Ls:List (List BX)} {P:List BX→Prop} {e:OT β} {h:AV} {k:KT} {ys:List β} {P':List β→List BX→Prop} (hG:AllG G Ls) {j:Nat} (hj:G[j]?=some P) (hS:Sub P e h k ys P'):h.one=true:=by
 obtain ⟨L,hL,hP⟩:=hG.get hj
 obtain ⟨A,B,C,_,h2,_⟩:=hS L hP
 exact h2.one

section
variable {ex:List Nat} {kp:Bool} {s0 s:St} {E:List BX} {Ls:List (List BX)} {G:List (List BX→Prop)}

theorem HS.g0 (h:HS ex kp s0 s E):HS ex kp s0 s (E++([]:List (List BX)).flatten):=by simpa using h
theorem HS.addNil (hH:HS ex kp s0 s (E++Ls.flatten)):HS ex kp s0 s (E++([]::Ls).flatten):=by simpa using hH

def selE:List (Option Nat)→List BX→List BX
 | [],_=>[]
 | some i::ps,E=>E.getD i noBX::selE ps (E.set i noBX)
 | none::ps,E=>noBX::selE ps E
def selP:List (Option Nat)→List (List BX→Prop)→List (List BX→Prop)
 | [],_=>[]
 | some j::qs,G=>G.getD j Non::selP qs (G.set j Non)
 | none::qs,G=>Non::selP qs G

theorem HS.selE1:∀ (ps:List (Option Nat)) {E Ef:List BX} {Lf:List (List BX)},HS ex kp s0 s ((E++Ls.flatten)++(Ef++Lf.flatten))→∃ E',HS ex kp s0 s ((E'++Ls.flatten)++((Ef++selE ps E)++Lf.flatten))
 | [],E,Ef,Lf,h=>⟨E,by simpa[selE] using h⟩
 | some i::ps,E,Ef,Lf,h=>by
  cases hi:E[i]? with
  | none =>
   have h1:HS ex kp s0 s ((E++Ls.flatten)++((Ef++[noBX])++Lf.flatten)):=(HS.non h [] (fun _=>false)).perm (perm_ct fun a=>by simp only[ctB_app,ctB_cons,ctB_nil,noBX]; omega)
   have e:E.set i noBX=E:=List.set_eq_of_length_le (by simpa using hi)
   obtain ⟨E',h2⟩:=HS.selE1 ps h1
   refine ⟨E',?_⟩
   simpa[selE,List.getD_eq_getElem?_getD,hi,e] using h2
  | some x =>
   obtain ⟨E',h2⟩:=HS.selE1 ps (h.popE hi)
   refine ⟨E',?_⟩
   simpa[selE,List.getD_eq_getElem?_getD,hi] using h2
 | none::ps,E,Ef,Lf,h=>by
  have h1:HS ex kp s0 s ((E++Ls.flatten)++((Ef++[noBX])++Lf.flatten)):=(HS.non h [] (fun _=>false)).perm (perm_ct fun a=>by simp only[ctB_app,ctB_cons,ctB_nil,noBX]; omega)
  obtain ⟨E',h2⟩:=HS.selE1 ps h1
  exact ⟨E',by simpa[selE] using h2⟩

theorem HS.selG1:∀ (qs:List (Option Nat)) {G Gf:List (List BX→Prop)} {Ls Lf:List (List BX)} {Ef:List BX},HS ex kp s0 s ((E++Ls.flatten)++(Ef++Lf.flatten))→AllG G Ls→AllG Gf Lf →
  ∃ (Ls' Lf':List (List BX)),AllG (Gf++selP qs G) Lf'∧HS ex kp s0 s ((E++Ls'.flatten)++(Ef++Lf'.flatten))
 | [],G,Gf,Ls,Lf,Ef,h,hG,hF=>⟨Ls,Lf,by simpa[selP] using hF,h⟩
 | some j::qs,G,Gf,Ls,Lf,Ef,h,hG,hF=>by
  cases hj:G[j]? with
  | none =>
   have h1:HS ex kp s0 s ((E++Ls.flatten)++(Ef++(Lf++[[]]).flatten)):=by simpa using h
   have e:G.set j Non=G:=List.set_eq_of_length_le (by simpa using hj)
   obtain ⟨L1,L2,h2,h3⟩:=HS.selG1 qs h1 hG (hF.app (G':=[Non]) (Ls':=[[]]) (.cons rfl .nil))
   exact ⟨L1,L2,by simpa[selP,List.getD_eq_getElem?_getD,hj,e] using h2,h3⟩
  | some P =>
   obtain ⟨L1,L2,h1,h2,h3⟩:=h.popG hG hF hj
   obtain ⟨L3,L4,h4,h5⟩:=HS.selG1 qs h3 h1 h2
   exact ⟨L3,L4,by simpa[selP,List.getD_eq_getElem?_getD,hj] using h4,h5⟩
 | none::qs,G,Gf,Ls,Lf,Ef,h,hG,hF=>by
  have h1:HS ex kp s0 s ((E++Ls.flatten)++(Ef++(Lf++[[]]).flatten)):=by simpa using h
  obtain ⟨L1,L2,h2,h3⟩:=HS.selG1 qs h1 hG (hF.app (G':=[Non]) (Ls':=[[]]) (.cons rfl .nil))
  exact ⟨L1,L2,by simpa[selP] using h2,h3⟩

theorem HS.selEG (hH:HS ex kp s0 s (E++Ls.flatten)) (hG:AllG G Ls) (ps qs:List (Option Nat)):∃ Ls':List (List BX),AllG (selP qs G) Ls'∧HS ex kp s0 s (selE ps E++Ls'.flatten):=by
 obtain ⟨E',h1⟩:=HS.selE1 ps hH.pop0
 obtain ⟨L1,L2,h2,h3⟩:=HS.selG1 qs h1 hG .nil
 refine ⟨L2,by simpa using h2,?_⟩
 have:=HS.less (A:=[]) (B:=E'++L1.flatten) (C:=([]++selE ps E)++L2.flatten) (by simpa using h3)
 simpa using this

variable {C:Cfg} {I:FI} {tm:Nat→AV} {os:Nat→Bool} {Q:Fr→Prop} {all:Array Oper} {l:List Oper} {o:Oper} {draw:Bool}

theorem AOps.stE {ty i b off:Nat} {p X:Operand} {ti:TI} {x:BX} {v:AV} (hH:HS ex kp s0 s (E++Ls.flatten)) (hlo:LoOK ex kp s0) (hi:E[i]?=some x) (hb:x.b=some b) (hw:wantedA o all tm=some true) (ho:o.op=.store ty p X) (hT:C.ty ty=some ti) (hX:evalO tm p=.ptr b off) (hv:evalO tm X=v)
  (hl:layable v=true) (hn:v.cells.length=ti.size) (h0:0<ti.size) (hlen:off+ti.size≤x.cs.length) (hd:o.dst=none)
  (k:∀ ow' s2,(∀ j,(j<off∨off+ti.size≤j)→ow' j=x.ow j)→(ow' off=(v.one&&own1 os X))→HS ex kp s0 s2 (E.set i ⟨some b,over x.cs off v.cells,ow'⟩++Ls.flatten)→AOps C I draw all l ⟨tm,clearO os X,s2⟩ Q) (him:stPd I p=false:=by rfl):AOps C I draw all (o::l) ⟨tm,os,s⟩ Q:=by
 have hi':(E++Ls.flatten)[i]?=some x:=by rw[List.getElem?_append_left (List.getElem?_eq_some_iff.1 hi).1]; exact hi
 obtain ⟨h1,h3,h4⟩:=hH.stX hi' hb
 have h2:=(hH.lob hlo (x:=x) (List.mem_of_getElem? hi') hb).2
 have hset:=hH.set hi' hb (over x.cs off v.cells) (stOw os X v off ti.size (s.ow b))
 rw[List.set_append_left _ _ (List.getElem?_eq_some_iff.1 hi).1] at hset
 refine .op hw (by unfold callee?; rw[ho]) (f':=⟨tm,clearO os X,s.setBox b (over x.cs off v.cells) (stOw os X v off ti.size (s.ow b))⟩) ?_ (k _ _ (fun j hj=>?_) ?_ hset)
 ·unfold opF
  simp[moveOp,cutM,cutV,Option.map_none,pureOp,makeOp,memOp,ho,hT,hX,hv,hl,hn,h0,hd,h1,h2,imS_of him h3,hlen,stOw]
  cases X<;>rfl
 ·unfold stOw
  rw[if_neg (by omega),h4]
 ·unfold stOw
  rw[if_pos (by omega)]
  cases X<;>simp[own1]

theorem OL.leaf {α:Type} {r:α→AV→Prop} {ag:Bool} {sz dep:Nat} {hs:Sh ag sz r} {h1:ag=false→sz=1} {hn:∀ x,Nice dep (r x)} {k:KT}:∀ {ys:List α} {e':List AV},L2 r ys e'→∀ i,OL (oLeaf r ag sz dep hs h1 hn) k i ys (flatA e') []
 | _,_,.nil,i=>.nil
 | _,_,.cons h t,i=>by
  have:=OL.cons (e:=oLeaf r ag sz dep hs h1 hn) (k:=k) (i:=i) (B:=[]) (L:=[]) ⟨⟨_,h,rfl⟩,rfl⟩ (OL.leaf t (i+1))
  simpa[flatA] using this

theorem AOps.appLf {α:Type} {e:OT α} {h:AV} {k:KT} {xs ys zs:List α} {d j:Nat} {x y:Operand} {st yt et:Nat} {T ei:TI} {z':Nat} {f':Bool} {e':List AV} (hH:HS ex kp s0 s (E++Ls.flatten)) (hG:AllG G Ls) (hj:G[j]?=some (OS e h k xs))
  (hw:wantedA o all tm=some true) (ho:o.op=.call { callee:=.builtin .append,args:=#[x,y],argTypes:=#[st,yt] }) (hT:C.ty st=some T) (hTu:T.u=.slice et) (hE:C.ty et=some ei) (hX:evalO tm x=h) (hY:evalO tm y=.sl z' f' e') (hs:appSrc C ei yt (.sl z' f' e')=some e')
  (hei:0<ei.size∧ei.bytes≤256∧layable ei.zero=true∧ei.zero.cells.length=ei.size) (hsz:ei.isAgg=e.ag∧ei.size=e.sz) (hdy:I.dy.contains d=true) (hd:o.dst=some d) (hz:app xs ys=some zs) (hln:e'.length=ys.length)
  (hown:∀ i,OL e (fun _=>.undef) i ys (flatA e') [])
  (kk:∀ h' k' Ls' s2,h'.one=true→AllG (G.set j (OS e h' k' zs)) Ls'→HS ex kp s0 s2 (E++Ls'.flatten)→AOps C I draw all l ⟨upd tm d h',upd os d false,s2⟩ Q):AOps C I draw all (o::l) ⟨tm,os,s⟩ Q :=
 .appG (M:=[]) (by simpa using hH) hG hj hw ho hT hTu hE hX hY hs hei hsz hdy hd hz rfl hln (fun _=>fun _=>.undef) hown kk

theorem AOps.appO {α:Type} {e:OT α} {h h2:AV} {k k2:KT} {xs zs:List (List α)} {y0:List α} {d j j2:Nat} {x y:Operand} {st yt et:Nat} {T ei:TI} {z':Nat} {f':Bool} (hH:HS ex kp s0 s (E++Ls.flatten)) (hG:AllG G Ls) (hj:G[j]?=some (OS (oSl e) h k xs)) (hj2:G[j2]?=some (OS e h2 k2 y0)) (hne:j2≠j)
  (hw:wantedA o all tm=some true) (ho:o.op=.call { callee:=.builtin .append,args:=#[x,y],argTypes:=#[st,yt] }) (hT:C.ty st=some T) (hTu:T.u=.slice et) (hE:C.ty et=some ei) (hX:evalO tm x=h) (hY:evalO tm y=.sl z' f' [h2]) (hs:appSrc C ei yt (.sl z' f' [h2])=some [h2])
  (hei:0<ei.size∧ei.bytes≤256∧layable ei.zero=true∧ei.zero.cells.length=ei.size) (hsz:ei.isAgg=false∧ei.size=1) (hdy:I.dy.contains d=true) (hd:o.dst=some d) (hz:app xs [y0]=some zs)
  (kk:∀ h' k' Ls' s2,h'.one=true→AllG ((G.set j2 Non).set j (OS (oSl e) h' k' zs)) Ls'→HS ex kp s0 s2 (E++Ls'.flatten)→AOps C I draw all l ⟨upd tm d h',upd os d false,s2⟩ Q):AOps C I draw all (o::l) ⟨tm,os,s⟩ Q:=by
 obtain ⟨L2,Ls1,hP2,hG1,hper⟩:=hG.pop hj2
 have hj1:(G.set j2 (fun L=>L=[]))[j]?=some (OS (oSl e) h k xs):=by rw[List.getElem?_set_ne hne]; exact hj
 have hf:flatA [h2]=[h2]:=by simp[flatA,AV.cells_one hP2.one]
 refine .appG (M:=L2) (hH.perm (hper E)) hG1 hj1 hw ho hT hTu hE hX hY hs hei hsz hdy hd hz hf rfl (fun i=>fun ρ=>match ρ with | []=>.undef | _::ρ=>(match ρ with | []=>h2 | a::ρ=>k2 (a::ρ))) (fun i=>?_) kk
 have:=OL.cons (e:=oSl e) (k:=fun ρ=>match ρ with | []=>.undef | _::ρ=>(match ρ with | []=>h2 | a::ρ=>k2 (a::ρ))) (i:=i) (B:=L2) (L:=[]) (c:=[h2]) (cs:=[]) (x:=y0) (xs:=[]) hP2.own .nil
 simpa using this

theorem HS.finS {β:Type} {P:List BX→Prop} {e:OT β} {h:AV} {k:KT} {ys:List β} {P':List β→List BX→Prop} (hH:HS ex kp s0 s (E++Ls.flatten)) (hG:AllG G Ls) {j:Nat} (hj:G[j]?=some P) (hS:Sub P e h k ys P') {n:Nat} (hn:n=0∨(n=s0.n∧ex=[])):Fin s n (e.dep+1) (rL e.rel e.sz ys) h:=by
 obtain ⟨L,hL,hP⟩:=hG.get hj
 obtain ⟨A,B,D,h1,h2,_⟩:=hS L hP
 exact h2.fin (by have:=hH.has hL hn; rw[h1] at this; exact this.app.1.app.2)
theorem HS.finSt {β:Type} {P:List BX→Prop} {e:OT β} {h:AV} {k:KT} {ys:List β} {P':List β→List BX→Prop} (hH:HS ex kp s0 s (E++Ls.flatten)) (hG:AllG G Ls) {j:Nat} (hj:G[j]?=some P) (hS:Sub P e h k ys P'):Fin s.still 0 (e.dep+1) (rL e.rel e.sz ys) h:=by
 obtain ⟨L,hL,hP⟩:=hG.get hj
 obtain ⟨A,B,D,h1,h2,_⟩:=hS L hP
 exact h2.fin (by have:=hH.has hL (.inl rfl); rw[h1] at this; exact this.app.1.app.2)
end
theorem over_whole {c v:List AV} (h:c.length=v.length):over c 0 v=v:=by
 unfold over
 rw[List.take_zero,List.nil_append,Nat.zero_add,← h,List.drop_length,List.append_nil]
theorem oLeaf_set {α:Type} {r:α→AV→Prop} {ag:Bool} {sz dep:Nat} {hs:Sh ag sz r} {h1:ag=false→sz=1} {hn:∀ x,Nice dep (r x)} {k:KT} {y y':α} {c:List AV} {B:List BX} {v:AV} (hc:(oLeaf r ag sz dep hs h1 hn).own k y c B) (hr:r y' v):(oLeaf r ag sz dep hs h1 hn).own k y' (over c 0 v.cells) B:=by
 have hl:=(oLeaf r ag sz dep hs h1 hn).len hc
 obtain ⟨_,rfl⟩:=hc
 exact ⟨⟨v,hr,(over_whole (hl.trans (hs _ _ hr).1.symm)).symm⟩,rfl⟩
end Ae
namespace Ae
open Go
section
variable {ex:List Nat} {kp:Bool} {s0 s:St} {E:List BX} {Ls:List (List BX)} {G:List (List BX→Prop)}
theorem HS.reL {Lf:List (List BX)} (h:HS ex kp s0 s (Lf.flatten++(E++Ls.flatten))):HS ex kp s0 s (E++(Lf++Ls).flatten):=by
 refine h.perm (perm_ct fun a=>?_)
 simp only[ctB_app,List.flatten_append]
 omega
variable {C:Cfg} {I:FI} {tm:Nat→AV} {os:Nat→Bool} {Q:Fr→Prop} {all:Array Oper} {l:List Oper} {o:Oper} {draw:Bool}
theorem AOps.lit1 {d t e:Nat} {X:Operand} {T ei:TI} {v:AV} (hw:wantedA o all tm=some true) (ho:o.op=.buildSlice t 1 #[(0,X)]) (hT:C.ty t=some T) (hTu:T.u=.slice e) (hE:C.ty e=some ei) (hX:evalO tm X=v) (hv:v.one=true) (hs:ei.size=1) (hd:o.dst=some d)
  (k:AOps C I draw all l ⟨upd tm d (.sl ei.size true [v]),upd os d false,s⟩ Q) (hy:I.dy.contains d=false:=by rfl):AOps C I draw all (o::l) ⟨tm,os,s⟩ Q:=by
 obtain ⟨u,a,b,zz⟩:=T
 simp only at hTu
 subst hTu
 refine .op hw (by unfold callee?; rw[ho]) (f':=⟨upd tm d (.sl ei.size true [v]),upd os d false,s⟩) ?_ k
 have h1:=one_lay hv
 have h2:=one_len hv
 have hy':d∉I.dy:=by simpa using hy
 simp[opF,moveOp,cutM,cutV,Option.map_none,pureOp,makeOp,ho,hT,hE,hX,hs,elsA,h1,h2,Fr.put,hd,hy']
end
end Ae
namespace Ae
open Go
theorem HS.flatB0 {kp:Bool} {s s':St} {E:List BX} {Ls:List (List BX)} {G:List (List BX→Prop)} {α:Type} {e:OT α} {h:AV} {k:KT} {xs:List α} (hH:HS [] kp s.blind s' (E++Ls.flatten)) (hG:AllG G Ls) {j:Nat} (hj:G[j]?=some (OS e h k xs)) (hf:Flt e):h.flatB s.n=true:=HS.flatO (s0:=s.blind) hH hG hj hf
theorem AOps.boxR {C:Cfg} {I:FI} {tm:Nat→AV} {os:Nat→Bool} {s:St} {Q:Fr→Prop} {all:Array Oper} {l:List Oper} {o:Oper} {draw:Bool} {d t:Nat} {X:Operand} {ti:TI} {v:AV} (hw:wantedA o all tm=some true) (ho:o.op=.box t X) (hT:C.ty t=some ti) (hb:lookBk I.bk d=none) (hX:evalO tm X=v) (hl:layable v=true) (hn:v.cells.length=ti.size) (hd:o.dst=some d)
  (k:AOps C I draw all l ⟨upd tm d (.eptr v.cells 0),upd os d false,s⟩ Q):AOps C I draw all (o::l) ⟨tm,os,s⟩ Q:=by
 refine .op hw (by unfold callee?; rw[ho]) (f':=⟨upd tm d (.eptr v.cells 0),upd os d false,s⟩) ?_ k
 simp[opF,moveOp,cutM,cutV,Option.map_none,pureOp,makeOp,ho,hT,hX,hl,hn,Fr.put,hd,hb]
end Ae
namespace Ae
open Go

section
variable {C:Cfg} {I:FI} {t:List Item} {tm:Nat→AV} {os:Nat→Bool} {ex:List Nat} {kp:Bool} {s s0:St} {L:List BX} {Q:Fr→Prop} {all:Array Oper} {l:List Oper} {o:Oper} {draw:Bool}

end

end Ae
namespace Ae
open Go

section
variable {γ:Type}

end

section
variable {ex:List Nat} {kp:Bool} {s0 s:St} {E:List BX} {Ls:List (List BX)} {G:List (List BX→Prop)}
variable {C:Cfg} {I:FI} {t:List Item} {tm:Nat→AV} {os:Nat→Bool} {Q:Fr→Prop} {all:Array Oper} {l:List Oper} {o:Oper} {draw:Bool}

end
end Ae
namespace Ae
open Go Go.RowKit Go.Sort

end Ae
namespace Ae
open Go Go.RowKit Go.Sort

end Ae
namespace Ae
open Go

section
variable {ex:List Nat} {kp:Bool} {s0 s:St} {E:List BX} {Ls:List (List BX)} {G:List (List BX→Prop)} {j:Nat}
variable {C:Cfg} {I:FI} {tm:Nat→AV} {os:Nat→Bool} {Q:Fr→Prop} {all:Array Oper} {l:List Oper} {o:Oper} {draw:Bool}

theorem AOps.lendKE {d g:Nat} {args:List AV} {al:Bool} {J:FI} {ps:List (AV→Prop)} {p:AV→St→Prop} (hw:wantedA o all tm=some true) (hc:callee? o tm=some (g,args)) (hd:o.dst=some d) (h0:C.ext g=none) (h1:tbl C al g=some J) (h2:J.rd=1) (h3:J.keep=true)
  (hA:AllF s 0 FINK ps args) (h:∀ args',Cs ps args'→ACallN C g args' s.blind (fun v _ s1=>p v s1) al) (hf:∀ v s1,p v s1→v.flatB s.n=true) (hn:∀ v s1,p v s1→s.n≤s1.n)
  (k:∀ v s1,p v s1→AOps C I true all l ⟨upd tm d v,upd os d false,s.join s1⟩ Q) (ha1:alias I o=al:=by rfl) (he:eff I o=true:=by rfl):AOps C I true all (o::l) ⟨tm,os,s⟩ Q:=by
 obtain ⟨_,args',ha,hcs⟩:=hA.fin
 refine .callE hw hc ha1 he ?_
 refine ACallN.lend h0 h1 h2 ha ((h args' hcs).mono fun v ow s1 hp=>⟨hf v _ hp,?_⟩)
 rw[if_pos h3]
 refine ⟨hn v s1 hp,?_⟩
 rw[hd]
 exact k v s1 hp
end
end Ae
namespace Ae
open Go
section
variable {ex:List Nat} {kp:Bool} {s0 s:St} {E:List BX} {Ls:List (List BX)}
theorem HS.joinK1 {s':St} {F':List BX} (h:HS ex kp s0 s ((E++Ls.flatten)++([]++([]:List (List BX)).flatten))) (k:HS [] true s s' F'):HS ex kp s0 s' ((E++Ls.flatten)++F'):=h.joinK (by simpa using k)
end
end Ae
namespace Ae
open Go

section
variable {ex:List Nat} {kp:Bool} {s0 s:St} {E:List BX} {Ls:List (List BX)} {G:List (List BX→Prop)} {j:Nat} {P:List BX→Prop}
variable {C:Cfg} {I:FI} {tm:Nat→AV} {os:Nat→Bool} {Q:Fr→Prop} {all:Array Oper} {l:List Oper} {o:Oper}

end
end Ae
namespace Ae
open Go
end Ae
namespace Ae
open Go
end Ae
namespace Ae
open Go Go.RowKit

section
variable {E0 E:Env} {s0:St} {nt:Nat} {f:Fr} {a:Act}

end

end Ae
namespace Ae
open Go
end Ae
namespace Ae
open Go
theorem HS.atE {ex:List Nat} {kp:Bool} {s0 s:St} {E L:List BX} (hH:HS ex kp s0 s (E++L)) {i b:Nat} {x:BX} (hi:E[i]?=some x) (hb:x.b=some b):s.h b=some x.cs :=
 (hH.bx x (List.mem_append_left _ (List.mem_of_getElem? hi)) b hb).2.2.1
def RM (C:Cfg) (kp:Bool) (f:Fr) (rs:List ResultVar) (vs:List AV):Prop:=(rs.mapM fun r=>(resOne C kp f r).map (·.1))=some vs
theorem RM.nil {C:Cfg} {kp:Bool} {f:Fr}:RM C kp f [] []:=rfl
theorem RM.cons {C:Cfg} {kp:Bool} {f:Fr} {r:ResultVar} {rs:List ResultVar} {v:AV} {vs:List AV} (h:(resOne C kp f r).map (·.1)=some v) (k:RM C kp f rs vs):RM C kp f (r::rs) (v::vs):=by
 unfold RM at k ⊢
 rw[List.mapM_cons,h,k]; rfl
theorem RM.cell {C:Cfg} {kp:Bool} {f:Fr} {a ty b off:Nat} {ti:TI} {cs:List AV} {rs:List ResultVar} {v:AV} {vs:List AV} (hT:C.ty ty=some ti) (ha:f.tm a=.ptr b off) (hh:f.s.h b=some cs) (hp:part ti cs off=some v) (k:RM C kp f rs vs):RM C kp f (.cell a ty::rs) (v::vs) :=
 .cons (by simp[resOne,hT,ha,hh,hp]) k
theorem RM.res {C:Cfg} {I:FI} {f:Fr} {r1 r2:ResultVar} {rs:List ResultVar} {vs:List AV} (h:I.res=r1::r2::rs) (k:RM C I.keep f (r1::r2::rs) vs):resA C I f=some (.tup vs,false):=by
 unfold RM at k
 unfold resA
 rw[h]
 show Option.map _ _=_
 rw[k]; rfl
open Classical in
section
variable {ex:List Nat} {kp:Bool} {s0 s:St} {E:List BX} {Ls:List (List BX)} {G:List (List BX→Prop)} {C:Cfg} {I:FI} {tm:Nat→AV} {os:Nat→Bool} {Q:Fr→Prop} {all:Array Oper} {l:List Oper} {o:Oper} {draw:Bool}
theorem AOps.giveE {d g:Nat} {args:List AV} {J:FI} {ps:List (AV→Prop)} {p:AV→Prop} (hw:wantedA o all tm=some true) (hc:callee? o tm=some (g,args)) (hd:o.dst=some d) (h0:C.ext g=none) (h1:C.fn g=some J) (h2:J.rd=2) (hro:s.ro=0)
  (hA:AllF s 0 FINK ps args) (h:∀ args',Cs ps args'→ACallN C g args' s.blind fun v _ s1=>p v∧s1=s.blind)
  (k:∀ v ow,p v→AOps C I true all l ⟨upd tm d v,upd os d ow,{ s.blind with ro:=s.ro,lo:=s.lo }⟩ Q) (ha1:alias I o=false:=by rfl) (he:eff I o=true:=by rfl):AOps C I true all (o::l) ⟨tm,os,s⟩ Q:=by
 obtain ⟨_,args',ha,hcs⟩:=hA.fin
 refine .callE (al:=false) hw hc ha1 he (ACallN.give h0 h1 h2 hro ha ((h args' hcs).mono fun v ow s1 hp=>?_))
 rw[hp.2,hd]
 exact ⟨Nat.le_refl _,k v ow hp.1⟩
end
end Ae
namespace Ae
open Go
end Ae
namespace Ae
open Go
variable {C:Cfg} {I:FI} {t:List Item} {tm:Nat→AV} {os:Nat→Bool} {s:St} {Q:Fr→Prop} {all:Array Oper} {l:List Oper} {o:Oper} {draw:Bool}
theorem q {d:Nat} {v:AV} (X:AV) (k:AOps C I draw all l ⟨upd tm d X,upd os d false,s⟩ Q) (h:(wantedA o all tm,callee? o tm,moveOp C I o ⟨tm,os,s⟩,pureOp C o tm,o.dst)=(some true,none,none,some v,some d):=by rfl) (hv:v=X:=by rfl):AOps C I draw all (o::l) ⟨tm,os,s⟩ Q:=.p h hv k
theorem sk {d:Nat} (k:AOps C I draw all l ⟨upd tm d (.tup []),upd os d false,s⟩ Q) (hw:wantedA o all tm=some false:=by rfl) (hd:o.dst=some d:=by rfl):AOps C I draw all (o::l) ⟨tm,os,s⟩ Q:=.skipR hw hd k
theorem nl (k:Q ⟨tm,os,s⟩):AOps C I draw all [] ⟨tm,os,s⟩ Q:=.nil k
theorem sr {f:Fr} {id:Nat} {b:Code} (k:AOps C I draw all all.toList f fun f'=>AW C I (.code b::t) f' Q):AW C I (.code (.seq (.region id all draw) b)::t) f Q:=AW.sr k
theorem ns {id:Nat} {b:Code} {all2:Array Oper} {draw2:Bool} (k:AOps C I draw2 all2 all2.toList ⟨tm,os,s⟩ fun f'=>AW C I (.code b::t) f' Q):AOps C I draw all [] ⟨tm,os,s⟩ fun f'=>AW C I (.code (.seq (.region id all2 draw2) b)::t) f' Q:=.nil (AW.sr k)
theorem lE {d:Nat} {ty:Nat} {X:Operand} {ti:TI} {cs:List AV} {off:Nat} (v:AV) (k:AOps C I draw all l ⟨upd tm d v,upd os d false,s⟩ Q) (hw:wantedA o all tm=some true:=by rfl) (ho:o.op=.load ty X:=by rfl) (hT:C.ty ty=some ti:=by rfl) (hX:evalO tm X=.eptr cs off:=by rfl) (hp:part ti cs off=some v:=by rfl) (hd:o.dst=some d:=by rfl):AOps C I draw all (o::l) ⟨tm,os,s⟩ Q:=.ldE hw ho hT hX hp hd k
theorem aq {d x:Nat} {b:Bool} (v':AV) (k:AOps C I draw all l ⟨upd tm d v',upd (upd os x false) d b,s⟩ Q) (hw:wantedA o all tm=some true:=by rfl) (hx:o.op=.assign (.tmp x):=by rfl) (hd:o.dst=some d:=by rfl) (hv:tm x=v':=by rfl) (hb:os x=b:=by rfl):AOps C I draw all (o::l) ⟨tm,os,s⟩ Q:=.assignR hw hx hd hv hb k
theorem cT {f:Fr} {x:Operand} {a b:Code} {c:Bool} (hc:c=true) (k:AW C I (.code a::t) f Q) (h:evalO f.tm x=.bool c:=by rfl):AW C I (.code (.cond x a b)::t) f Q:=.condT (h.trans (congrArg AV.bool hc)) k
theorem cF {f:Fr} {x:Operand} {a b:Code} {c:Bool} (hc:c=false) (k:AW C I (.code b::t) f Q) (h:evalO f.tm x=.bool c:=by rfl):AW C I (.code (.cond x a b)::t) f Q:=.condF (h.trans (congrArg AV.bool hc)) k
theorem kn (d:Nat) {b c:Bool} (hc:b=c) (k:AOps C I draw all l ⟨upd tm d (.bool c),os,s⟩ Q) (hb:tm d=.bool b:=by rfl):AOps C I draw all l ⟨tm,os,s⟩ Q:=.know hb hc k
theorem rR {L:List (Nat × AV)} (hL:agree tm L):AOps C I draw all [] ⟨tm,os,s⟩ (fun f'=>∃ tm' os',f'=(⟨updL tm' L,updL os' [],s⟩:Fr)):=.resR L [] hL trivial _ ⟨_,_,rfl⟩
theorem rt {L:List (Nat × AV)} (hL:agree tm L) (k:AW C I t ⟨updL tm L,updL os [],s⟩ Q):AW C I t ⟨tm,os,s⟩ Q:=.res L [] hL trivial k
theorem cP {d g:Nat} {args:List AV} {p:AV→Prop} (h:ACall C g args s fun v _ s'=>p v∧s'=s) (k:∀ v ow,p v→AOps C I false all l ⟨upd tm d v,upd os d ow,s⟩ Q) (hw:wantedA o all tm=some true:=by rfl) (hc:callee? o tm=some (g,args):=by rfl) (hd:o.dst=some d:=by rfl) (ha:alias I o=false:=by rfl):AOps C I false all (o::l) ⟨tm,os,s⟩ Q:=.callP hw hc hd h k ha
@[reducible] def J (x:Int):AV:=.int .i64 x
@[reducible] def rJ:Int→AV→Prop:=rI .i64
@[reducible] def W (x:Int):Int:=IntKind.wrap .i64 x
@[reducible] def St.M (s:St):St:={ s with lo:=s.n }
theorem tv:True:=True.intro
theorem bJ {a b:Bool} (h:some a=some b):AV.bool a=AV.bool b:=congrArg AV.bool (Option.some.inj h)
theorem jI {a b:Int} (h:some a=some b):J a=J b:=congrArg J (Option.some.inj h)
end Ae
namespace Ae
open Go

def VL (E:Env) (as:List AV) (cs:List Value):Prop:=as.length=cs.length∧∀ (i:Nat) a c,as[i]?=some a→cs[i]?=some c→V E a c∧a.one=true

theorem VL.one {E:Env} {a:AV} {c:Value} (h:V E a c) (ha:a.one=true):VL E [a] [c]:=⟨rfl,fun i a' c' h1 h2=>by
 cases i with
 | zero=>simp at h1 h2; subst h1 h2; exact ⟨h,ha⟩
 | succ i=>simp at h1⟩
theorem VL.cat {E:Env} {as bs:List AV} {cs:List Value} {o n m:Nat} (h:VL E as ((cs.drop o).take n)) (k:VL E bs ((cs.drop (o+n)).take m)) (hn:as.length=n):VL E (as++bs) ((cs.drop o).take (n+m)):=by
 have e:(cs.drop o).take (n+m)=(cs.drop o).take n++(cs.drop (o+n)).take m:=by
  rw[List.take_add,List.drop_drop]
 rw[e]
 refine ⟨by rw[List.length_append,List.length_append,h.1,k.1],fun i a c h1 h2=>?_⟩
 by_cases hi:i<as.length
 ·rw[List.getElem?_append_left hi] at h1
  rw[List.getElem?_append_left (by rw[← h.1]; exact hi)] at h2
  exact h.2 i a c h1 h2
 ·rw[List.getElem?_append_right (by omega)] at h1
  rw[List.getElem?_append_right (by rw[← h.1]; omega),← h.1] at h2
  exact k.2 _ a c h1 h2

section
variable {H:Type} {enc:TypeId × Value→H} {P:Program} {W:World}

def Rd (enc:TypeId × Value→H) (P:Program) (W:World) (t:TypeId) {α:Type} (f:α→List (AV→Prop)) (B:α→Prop):Prop :=
 ∀ fuel cs d p,DataW.trod enc P W 0 (fun _=>true) true fuel t cs=some (d,p)→∃ (x:α) (as:List AV),Cs (f x) as∧VL (Env.of W) as cs∧B x

def bI (k:IntKind) (n:Int):Prop:=(Lit.int k n).wf=true
def bB (_:Bool):Prop:=True
def bS (s:List UInt8):Prop:=s.length≤maxLen
def bL {α:Type} (B:α→Prop) (l:List α):Prop:=l.length≤maxLen∧∀ x∈l,B x

theorem Rd.int {t:TypeId} {k:IntKind} (ht:P.underlying t=some (.int k)):Rd enc P W t (fun x=>[rI k x]) (bI k):=by
 intro fuel cs d p h
 obtain ⟨n,rfl,_,hw⟩:=DataW.trod_int ht h
 exact ⟨n,[_],.cons rfl .nil,.one (.int _ _) rfl,hw⟩
theorem Rd.bool {t:TypeId} (ht:P.underlying t=some .bool):Rd enc P W t (fun x=>[rB x]) bB:=by
 intro fuel cs d p h
 obtain ⟨b,rfl,_⟩:=DataW.trod_bool ht h
 exact ⟨b,[_],.cons rfl .nil,.one (.bool _) rfl,trivial⟩
theorem Rd.str {t:TypeId} (ht:P.underlying t=some .string):Rd enc P W t (fun x=>[rS x]) bS:=by
 intro fuel cs d p h
 obtain ⟨s,rfl,_,hs⟩:=DataW.trod_string ht h
 exact ⟨_,[_],.cons rfl .nil,.one (.str s) rfl,by unfold bS; simpa using hs⟩

def elemOf (ag:Bool) (as:List AV):AV:=if ag then .agg as else as.headD .undef

theorem elem_cells {E:Env} {ag:Bool} {sz:Nat} {as:List AV} {cs:List Value} (h:VL E as cs) (hl:as.length=sz) (h0:ag=false→sz=1):(elemOf ag as).cells=as:=by
 cases ag with
 | true=>rfl
 | false =>
  have h1:=h0 rfl
  match as,hl with
  | [a],_ =>
   have hlen:=h.1
   match cs,hlen with
   | [c],_=>exact AV.cells_one (h.2 0 a c rfl rfl).2
  | [],hl=>simp at hl; omega
  | _::_::_,hl=>simp at hl; omega

theorem cell_pr {W:World} {g o:Nat} {v:Value} (h:W.cell? ⟨g,o,none⟩=some v):o<(Env.of W).pr g:=by
 unfold World.cell? at h
 simp only[Env.of]
 split at h
 ·rename_i c t fr hg
  simp only[Option.isSome_none,Bool.false_eq_true,if_false] at h
  simp only[hg]
  exact (Array.getElem?_eq_some_iff.1 h).1
 ·cases h

theorem Rd.slice {t e:TypeId} {α:Type} {f:α→List (AV→Prop)} {B:α→Prop} {r:α→AV→Prop} {ag:Bool} {sz:Nat} (ht:P.underlying t=some (.slice e)) (hsz:P.cellsOf e=sz) (hpos:0<sz) (h0:ag=false→sz=1) (hr:Rd enc P W e f B) (hrf:∀ x as,Cs (f x) as→as.length=sz→r x (elemOf ag as)) :
  Rd enc P W t (fun l=>[rL r sz l]) (bL B):=by
 intro fuel cs d p h
 rcases Deep.open_slice ht h with ⟨rfl,_⟩ | ⟨a,len,cap,m,n,D,Pl,rfl,_,hlc,hmax,hm,_,hx⟩
 ·exact ⟨[],[.sl 0 false []],.cons ⟨0,false,[],rfl,.inr ⟨rfl,rfl⟩,.nil⟩ .nil,.one (.slNil 0 false none) rfl,by simp[bL]⟩
 ·have hm':m=cap:=by simpa using hm
  subst hm'
  by_cases hc0:m=0
  ·subst hc0
   have hl0:len=0:=by omega
   subst hl0
   exact ⟨[],[.sl 0 false []],.cons ⟨0,false,[],rfl,.inr ⟨rfl,rfl⟩,.nil⟩ .nil,.one (.slNil 0 false (some a)) rfl,by simp[bL]⟩
  ·have hsp:a.spot=none:=by
    obtain ⟨cs',h1,_⟩:=hx 0 (by omega)
    rw[hsz] at h1
    obtain ⟨_,h2,h3⟩:=World.cells?_some h1
    have h4:=h3 0 hpos
    rw[List.getElem?_eq_getElem (by omega)] at h4
    have e:(a.add (0*sz)).add 0=a:=by simp[Addr.add]
    rw[e] at h4
    unfold World.cell? at h4
    split at h4
    ·cases hs:a.spot with
     | none=>rfl
     | some sp=>rw[hs] at h4; simp at h4
    ·cases h4
   obtain ⟨g,o,sp⟩:=a
   simp only at hsp
   subst hsp
   have hel:∀ i,i<len→∃ (x:α) (as:List AV) (cs':List Value),Cs (f x) as∧VL (Env.of W) as cs'∧B x∧as.length=sz∧∀ j,j<sz→W.cell? ⟨g,o+i*sz+j,none⟩=cs'[j]?:=by
    intro i hi
    obtain ⟨cs',h1,h2⟩:=hx i (by omega)
    rw[hsz] at h1
    obtain ⟨x,as,h3,h4,hb⟩:=hr n cs' _ _ h2
    obtain ⟨_,h5,h6⟩:=World.cells?_some h1
    refine ⟨x,as,cs',h3,h4,hb,by rw[h4.1]; exact h5,fun j hj=>?_⟩
    have:=h6 j hj
    rwa [addr_add,addr_add] at this
   have key:∀ k,k≤len→∃ (l:List α) (els:List AV),els.length=k∧L2 r l els∧(∀ x∈l,B x)∧∀ i el,els[i]?=some el→∃ as cs',el=elemOf ag as∧VL (Env.of W) as cs'∧as.length=sz∧∀ j,j<sz→W.cell? ⟨g,o+i*sz+j,none⟩=cs'[j]?:=by
    intro k
    induction k with
    | zero=>intro _; exact ⟨[],[],rfl,.nil,by simp,fun i el h=>by simp at h⟩
    | succ k ih =>
     intro hk
     obtain ⟨l,els,h1,h2,hB,h3⟩:=ih (by omega)
     obtain ⟨x,as,cs',h4,h5,hb,h6,h7⟩:=hel k (by omega)
     refine ⟨l++[x],els++[elemOf ag as],by simp[h1],h2.app (.cons (hrf x as h4 h6) .nil),(by intro y hy; rcases List.mem_append.1 hy with hy | hy; exact hB y hy; rw[List.mem_singleton.1 hy]; exact hb),fun i el hi=>?_⟩
     by_cases hik:i<k
     ·rw[List.getElem?_append_left (by omega)] at hi
      exact h3 i el hi
     ·rw[List.getElem?_append_right (by omega)] at hi
      have:i=k:=by
       have:=(List.getElem?_eq_some_iff.1 hi).1
       simp at this
       omega
      subst this
      rw[h1,Nat.sub_self] at hi
      simp at hi
      exact ⟨as,cs',hi.symm,h5,h6,h7⟩
   obtain ⟨l,els,h1,h2,hB,h3⟩:=key len (Nat.le_refl _)
   refine ⟨l,[.sl sz false els],.cons ⟨sz,false,els,rfl,.inl rfl,h2⟩ .nil,.one ?_ rfl,by rw[← h2.len]; omega,hB⟩
   have cell:∀ (i:Nat) el (j:Nat) c,els[i]?=some el→el.cells[j]?=some c→∃ u,W.cell? ⟨g,o+i*sz+j,none⟩=some u∧V (Env.of W) c u∧c.one=true:=by
    intro i el j c hi hj
    obtain ⟨as,cs',rfl,h4,h5,h6⟩:=h3 i el hi
    rw[elem_cells h4 h5 h0] at hj
    have hlt:=(List.getElem?_eq_some_iff.1 hj).1
    have hc:cs'[j]?=some (cs'[j]'(by rw[← h4.1]; exact hlt)):=List.getElem?_eq_getElem _
    exact ⟨_,by rw[h6 j (by omega),hc],h4.2 j c _ hj hc⟩
   have:=V.sl (E:=Env.of W) sz false els g o m (fun i j=>(W.cell? ⟨g,o+i*sz+j,none⟩).getD Go.undef) (by omega) (by simp) (fun i el hi=>?_) (fun i el j c hi hj=>?_) (fun i el j c hi hj=>?_) (fun i el j c hi hj=>?_) (fun i el j c hi hj=>?_)
   ·rw[h1] at this; exact this
   ·obtain ⟨as,cs',rfl,h4,h5,h6⟩:=h3 i el hi
    rw[elem_cells h4 h5 h0]; exact h5
   ·obtain ⟨u,k1,k2,k3⟩:=cell i el j c hi hj
    exact k3
   ·obtain ⟨u,k1,k2,k3⟩:=cell i el j c hi hj
    exact cell_pr k1
   ·obtain ⟨u,k1,k2,k3⟩:=cell i el j c hi hj
    show W.cell? _=_
    rw[k1]; rfl
   ·obtain ⟨u,k1,k2,k3⟩:=cell i el j c hi hj
    rw[k1]; exact k2

theorem trod_fields {t:TypeId} {F:Array Field} (ht:P.underlying t=some (.struct F)) {fuel:Nat} {cs:List Value} {x:DataW H × List MemPlace} (h:DataW.trod enc P W 0 (fun _=>true) true fuel t cs=some x) :
  cs.length=P.cellsOf t∧∃ n,∀ (i:Nat) f,F[i]?=some f→∃ d p,DataW.trod enc P W 0 (fun _=>true) true n f.type ((cs.drop f.offset).take (P.cellsOf f.type))=some (d,p):=by
 obtain ⟨xs,n,_,_,hl,hsz,hget⟩:=DataW.trod_struct ht h
 refine ⟨hl,n,fun i f hi=>?_⟩
 have h1:=hget i f hi
 have hlt:i<xs.length:=by rw[hsz]; exact (Array.getElem?_eq_some_iff.1 hi).1
 rw[List.getElem?_eq_getElem hlt] at h1
 exact ⟨_,_,h1⟩

theorem VL.whole {E:Env} {as:List AV} {cs:List Value} {n:Nat} (h:VL E as ((cs.drop 0).take n)) (hl:cs.length=n):VL E as cs:=by
 rw[List.drop_zero,List.take_of_length_le (by omega)] at h; exact h
theorem VL.len {E:Env} {as:List AV} {cs:List Value} {o n N:Nat} (h:VL E as ((cs.drop o).take n)) (hl:cs.length=N) (hn:o+n≤N):as.length=n:=by
 rw[h.1,List.length_take,List.length_drop]; omega

theorem VL.agg {E:Env} {as:List AV} {vs:Array Value} (h:VL E as vs.toList):V E (.agg as) (.agg vs) :=
 .agg as vs (by rw[h.1]; simp) (fun i c hc=>by
  have hlt:=(List.getElem?_eq_some_iff.1 hc).1
  exact (h.2 i c _ hc (List.getElem?_eq_getElem (by rw[← h.1]; exact hlt))).2) (fun i c v hc hv=>(h.2 i c v hc (by simpa using hv)).1)
end
end Ae
namespace Ae
open Go

theorem w64 {n:Int} (h:-9223372036854775808≤n) (k:n≤9223372036854775807):IntKind.wrap .i64 n=n:=IntWalk.i64_in n ⟨h,k⟩
theorem w1 {i:Nat} {n:Nat} (h:i<n) (k:n≤9223372036854775807):IntKind.wrap .i64 ((i:Int)+1)=((i+1:Nat):Int):=by rw[w64 (by omega) (by omega)]; rfl
theorem ix_nat {α:Type} (l:List α) (i:Nat):ix l (i:Int)=l[i]?:=by unfold ix; rw[if_pos (Int.natCast_nonneg i)]; rfl
theorem ix_some {α:Type} {l:List α} {i:Nat} (h:i<l.length):ix l (i:Int)=some l[i]:=by rw[ix_nat,List.getElem?_eq_getElem h]
theorem ix_lit {α:Type} {l:List α} {i:Nat} {x:α} (h:l[i]?=some x):ix l (i:Int)=some x:=by rw[ix_nat,h]
theorem ltT {i n:Nat} (h:i<n):decide ((i:Int)<(n:Int))=true:=by simpa using h
theorem ltF (n:Nat):decide ((n:Int)<(n:Int))=false:=by simp

theorem bL.len {α:Type} {B:α→Prop} {l:List α} (h:bL B l):l.length≤9223372036854775807:=by have:=h.1; unfold maxLen at this; omega
theorem bS.len {l:List UInt8} (h:bS l):l.length≤9223372036854775807:=by unfold bS maxLen at h; omega

theorem loop_allL {α ρ:Type} {l:List α} {step:Int→Option (Int ⊕ ρ)} {p:α→Bool} {rt:Option ρ} {rf:ρ} (hend:loop step (l.length:Int)=rt) (hst:∀ (i:Nat) x,l[i]?=some x→step (i:Int)=if p x then some (.inl ((i+1:Nat):Int)) else some (.inr rf)) :
  loop step 0=if l.all p then rt else some rf:=by
 have key:∀ (m:List α) i,l=l.take i++m→i+m.length=l.length→loop step (i:Int)=if m.all p then rt else some rf:=by
  intro m
  induction m with
  | nil => intro i _ hi; obtain rfl : i = l.length := by simpa using hi
           simpa using hend
  | cons x m ih =>
   intro i hm hi
   have hx:l[i]?=some x:=by
    have hlt:i<l.length:=by simp at hi; omega
    rw[hm,List.getElem?_append_right (by rw[List.length_take]; omega),List.length_take,Nat.min_eq_left (Nat.le_of_lt hlt),Nat.sub_self]
    rfl
   have h1:=hst i x hx
   have hm':l=l.take (i+1)++m:=by
    rw[List.take_add_one,hx]
    conv=>lhs; rw[hm]
    simp
   rw[List.all_cons]
   cases hp:p x with
   | true =>
    rw[hp,if_pos rfl] at h1
    rw[loop_L h1,ih (i+1) hm' (by simp at hi; omega),Bool.true_and]
   | false =>
    rw[hp,if_neg (by simp)] at h1
    rw[loop_R h1,Bool.false_and,if_neg (by simp)]
 have:=key l 0 (by simp) (by simp)
 exact this


def smT {α:Type} (_:α):Prop:=True
def smS (s:List UInt8):Prop:=s.length≤1048576
def smL {α:Type} (p:α→Prop) (l:List α):Prop:=l.length≤1048576∧∀ x∈l,p x

def SzOk {α:Type} (p:α→Prop) (f:α→Int→Option Int) (x:α):Prop:=∀ left,0≤left→left≤1048576→∃ r,f x left=some r∧r≤left∧(r<0∨0≤r∧p x)

theorem sz_flat {α:Type} {f:List α→Int→Option Int} {a:List α} (hf:∀ left,f a left=if decide (IntKind.wrap .i64 (left - (a.length:Int))<0)=true then some (-1) else some (IntKind.wrap .i64 (left - (a.length:Int)))) (ha:a.length≤9223372036854775807):SzOk (smL smT) f a:=by
 intro left h0 h1
 rw[hf,w64 (by omega) (by omega)]
 by_cases h:left - (a.length:Int)<0
 ·exact ⟨-1,by rw[if_pos (by simpa using h)],by omega,.inl (by omega)⟩
 ·exact ⟨_,by rw[if_neg (by simpa using h)],by omega,.inr ⟨by omega,by omega,fun _ _=>trivial⟩⟩

theorem sz_loop {α:Type} {p:α→Prop} {f:List α→Int→Option Int} {sub:α→Int→Option Int} {S:Int × Int→Option ((Int × Int) ⊕ Int)} {a:List α}
  (hS:∀ left i,S (left,i)=if decide (i<(a.length:Int))=true then (ix a i).bind fun x=>(sub x left).bind fun y=>if decide (y<0)=true then some (.inr (-1)) else some (.inl (y,IntKind.wrap .i64 (i+1))) else some (.inr left))
  (hf:∀ left,f a left=if decide (IntKind.wrap .i64 (left - (a.length:Int))<0)=true then some (-1) else loop S (IntKind.wrap .i64 (left - (a.length:Int)),0))
  (ha:a.length≤9223372036854775807) (hsub:∀ x∈a,SzOk p sub x):SzOk (smL p) f a:=by
 have key:∀ k (i:Nat) left,i+k=a.length→0≤left→left≤1048576→∃ r,loop S (left,(i:Int))=some r∧r≤left∧(r<0∨0≤r∧∀ x∈a.drop i,p x):=by
  intro k
  induction k with
  | zero =>
   intro i left hi h0 h1
   have hi':i=a.length:=by omega
   refine ⟨left,loop_R (by rw[hS,hi',ltF]; rfl),Int.le_refl _,.inr ⟨h0,by rw[hi',List.drop_length]; simp⟩⟩
  | succ k ih =>
   intro i left hi h0 h1
   have hlt:i<a.length:=by omega
   obtain ⟨y,h2,h3,h4⟩:=hsub a[i] (List.getElem_mem hlt) left h0 h1
   have hst:S (left,(i:Int))=if decide (y<0)=true then some (.inr (-1)) else some (.inl (y,((i+1:Nat):Int))):=by
    rw[hS,ltT hlt,if_pos rfl,ix_some hlt,Option.bind_some,h2,Option.bind_some,w1 hlt ha]
   rcases h4 with h4 | ⟨h4,h5⟩
   ·rw[if_pos (by simpa using h4)] at hst
    exact ⟨-1,loop_R hst,by omega,.inl (by omega)⟩
   ·rw[if_neg (by simp; omega)] at hst
    obtain ⟨r,h6,h7,h8⟩:=ih (i+1) y (by omega) h4 (by omega)
    refine ⟨r,(loop_L hst).trans h6,by omega,h8.imp id fun ⟨h9,h10⟩=>⟨h9,fun x hx=>?_⟩⟩
    rw[List.drop_eq_getElem_cons hlt] at hx
    rcases List.mem_cons.1 hx with rfl | hx
    ·exact h5
    ·exact h10 x hx
 intro left h0 h1
 rw[hf,w64 (by omega) (by omega)]
 by_cases h:left - (a.length:Int)<0
 ·exact ⟨-1,by rw[if_pos (by simpa using h)],by omega,.inl (by omega)⟩
 ·rw[if_neg (by simpa using h)]
  obtain ⟨r,h2,h3,h4⟩:=key a.length 0 (left - (a.length:Int)) (by omega) (by omega) (by omega)
  exact ⟨r,h2,by omega,h4.imp id fun ⟨h5,h6⟩=>⟨h5,by omega,by simpa using h6⟩⟩

theorem to_loop {α:Type} {f:List α→Option (List α)} {sub:α→Option α} {S:List α × Int→Option ((List α × Int) ⊕ List α)} {a:List α} {z:α}
  (hS:∀ out i,S (out,i)=if decide (i<(a.length:Int))=true then (ix a i).bind fun x=>(sub x).bind fun y=>(ix out i).bind fun _=>some (.inl (out.set (Int.toNat i) y,IntKind.wrap .i64 (i+1))) else some (.inr out))
  (hf:f a=(mk z (a.length:Int)).bind fun l=>loop S (l,0)) (ha:a.length≤1048576) (hsub:∀ x∈a,sub x=some x):f a=some a:=by
 have key:∀ k (i:Nat) (out:List α),i+k=a.length→out.length=a.length→out.take i=a.take i→loop S (out,(i:Int))=some a:=by
  intro k
  induction k with
  | zero =>
   intro i out hi ho ht
   have hi':i=a.length:=by omega
   have:out=a:=by
    rw[hi',List.take_length,← ho,List.take_length] at ht; exact ht
   rw[this]
   exact loop_R (by rw[hS,hi',ltF]; rfl)
  | succ k ih =>
   intro i out hi ho ht
   have hlt:i<a.length:=by omega
   have hst:S (out,(i:Int))=some (.inl (out.set i a[i],((i+1:Nat):Int))):=by
    rw[hS,ltT hlt,if_pos rfl,ix_some hlt,Option.bind_some,hsub _ (List.getElem_mem hlt),Option.bind_some,ix_some (by omega),Option.bind_some,w1 hlt (by omega)]
    rfl
   rw[loop_L hst]
   refine ih (i+1) _ (by omega) (by simp[ho]) ?_
   rw[List.take_add_one,List.take_add_one,List.take_set_of_le (Nat.le_refl i),ht]
   congr 1
   rw[List.getElem?_set,if_pos rfl,if_pos (by omega),List.getElem?_eq_getElem hlt]
 rw[hf]
 unfold mk
 rw[if_pos ⟨by omega,by unfold LIM; omega⟩]
 exact key a.length 0 _ (by omega) (by simp) (by simp)

theorem eq_loop {α:Type} {f:List α→List α→Option Bool} {sub:α→α→Option Bool} {S:Int→Option (Int ⊕ Bool)} {a:List α}
  (hS:∀ i,S i=if decide (i<(a.length:Int))=true then (ix a i).bind fun x=>(ix a i).bind fun y=>(sub x y).bind fun e=>if (!e)=true then some (.inr false) else some (.inl (IntKind.wrap .i64 (i+1))) else some (.inr true))
  (hf:f a a=if ((a.length:Int) != (a.length:Int))=true then some false else loop S 0) (ha:a.length≤1048576) (hsub:∀ x∈a,sub x x=some true):f a a=some true:=by
 rw[hf,if_neg (by simp)]
 have:=loop_allL (l:=a) (step:=S) (p:=fun _=>true) (rt:=some true) (rf:=false) (loop_R (by rw[hS,ltF]; rfl)) (fun i x hx=>by
  have hlt:=(List.getElem?_eq_some_iff.1 hx).1
  have hm:x∈a:=List.mem_of_getElem? hx
  rw[hS,ltT hlt,if_pos rfl,ix_lit hx,Option.bind_some,Option.bind_some,hsub x hm,Option.bind_some,if_neg (by simp),if_pos rfl,w1 hlt (by omega)])
 rw[this]
 simp
end Ae
namespace Ae
open Go

theorem bindC {α β:Type} {o:Option α} {f g:α→Option β} (h:∀ a,o=some a→f a=g a):o.bind f=o.bind g:=by
 cases o with
 | none=>rfl
 | some a=>exact h a rfl
theorem ix_mem {α:Type} {l:List α} {i:Int} {x:α} (h:ix l i=some x):x∈l:=by
 unfold ix at h
 split at h
 ·exact List.mem_of_getElem? h
 ·cases h

theorem loop_tot {ρ:Type} {step:Int→Option (Int ⊕ ρ)} {n:Nat} (Q:ρ→Prop) (hend:∃ r,loop step (n:Int)=some r∧Q r) (hst:∀ i:Nat,i<n→step (i:Int)=some (.inl ((i+1:Nat):Int))∨∃ r,step (i:Int)=some (.inr r)∧Q r) :
  ∃ r,loop step 0=some r∧Q r:=by
 have key:∀ k i,i+k=n→∃ r,loop step (i:Int)=some r∧Q r:=by
  intro k
  induction k with
  | zero => intro i hi; obtain rfl : i = n := by omega
            exact hend
  | succ k ih =>
   intro i hi
   rcases hst i (by omega) with h | ⟨r,h,hq⟩
   ·rw[loop_L h]; exact ih (i+1) (by omega)
   ·exact ⟨r,loop_R h,hq⟩
 exact key n 0 (by omega)

def fst? {α:Type} (p:α→Bool):List α→Int
 | []=>-1
 | x::l=>if p x then 0 else if fst? p l == -1 then -1 else fst? p l+1
theorem fst?_ge {α:Type} (p:α→Bool):∀ l,-1≤fst? p l
 | []=>Int.le_refl _
 | x::l=>by
  have:=fst?_ge p l
  unfold fst?
  split
  ·decide
  ·split<;>omega
theorem fst?_any {α:Type} (p:α→Bool):∀ l,decide ((fst? p l:Int)≥0)=l.any p
 | []=>rfl
 | x::l=>by
  have h:=fst?_ge p l
  have ih:=fst?_any p l
  rw[List.any_cons,← ih,show fst? p (x::l)=if p x then 0 else if fst? p l == -1 then -1 else fst? p l+1 from rfl]
  cases hp:p x with
  | true=>simp
  | false =>
   simp only[Bool.false_eq_true,if_false,Bool.false_or,decide_eq_decide,beq_iff_eq]
   split<;>omega
theorem loop_find {α:Type} {l:List α} {step:Int→Option (Int ⊕ Int)} (p:α→Bool) (hend:loop step (l.length:Int)=some (-1)) (hst:∀ (i:Nat) x,l[i]?=some x→step (i:Int)=if p x then some (.inr (i:Int)) else some (.inl ((i+1:Nat):Int))) :
  loop step 0=some (fst? p l):=by
 have key:∀ (m:List α) i,l=l.take i++m→i+m.length=l.length→loop step (i:Int)=some (if fst? p m == -1 then -1 else fst? p m+i):=by
  intro m
  induction m with
  | nil => intro i _ hi; obtain rfl : i = l.length := by simpa using hi
           simpa[fst?] using hend
  | cons x m ih =>
   intro i hm hi
   have hx:l[i]?=some x:=by
    have hlt:i<l.length:=by simp at hi; omega
    rw[hm,List.getElem?_append_right (by rw[List.length_take]; omega),List.length_take,Nat.min_eq_left (Nat.le_of_lt hlt),Nat.sub_self]
    rfl
   have h1:=hst i x hx
   have hm':l=l.take (i+1)++m:=by
    rw[List.take_add_one,hx]
    conv=>lhs; rw[hm]
    simp
   have hge:=fst?_ge p m
   unfold fst?
   cases hp:p x with
   | true =>
    rw[hp,if_pos rfl] at h1
    rw[loop_R h1]; simp
   | false =>
    rw[hp,if_neg (by simp)] at h1
    rw[loop_L h1,ih (i+1) hm' (by simp at hi; omega)]
    by_cases h2:fst? p m=-1
    ·simp[h2]
    ·have h3:fst? p m+1≠-1:=by omega
     simp only[beq_iff_eq,h2,h3,if_false,Bool.false_eq_true]
     congr 1; omega
 have:=key l 0 (by simp) (by simp)
 have hge:=fst?_ge p l
 rw[show ((0:Nat):Int)=0 from rfl] at this
 rw[this]
 split
 ·rename_i h; rw[beq_iff_eq] at h; rw[h]
 ·rw[Int.add_zero]
theorem indexByte_fst (l:List UInt8) (c:UInt8):Lib.indexByte l c=fst? (· == c) l:=by
 induction l with
 | nil=>rfl
 | cons b l ih=>unfold Lib.indexByte fst?; rw[ih]
theorem chr_some {s:List UInt8} {i c:Int} (h:chr s i=some c):∃ x:UInt8,c=(x.toNat:Int):=by
 unfold chr at h
 split at h
 ·cases h; exact ⟨_,rfl⟩
 ·cases h
theorem u8_eq (a b:UInt8):((a.toNat:Int) == (b.toNat:Int))=(a == b):=by
 rw[Bool.eq_iff_iff,beq_iff_eq,beq_iff_eq]
 constructor
 ·intro h; exact UInt8.toNat_inj.1 (by omega)
 ·rintro rfl; rfl
theorem chr_nat {s:List UInt8} {i:Nat} {x:UInt8} (h:s[i]?=some x):chr s (i:Int)=some (x.toNat:Int):=by
 have hlt:=(List.getElem?_eq_some_iff.1 h).1
 unfold chr
 rw[if_pos ⟨by omega,by omega⟩]
 simp[h]
theorem chr_nat' {s:List UInt8} {i:Nat} (h:i<s.length):chr s (i:Int)=some (s[i].toNat:Int):=chr_nat (List.getElem?_eq_getElem h)

theorem ite_some {α:Type} {c:Bool} {a b:α}:(if c=true then some a else some b)=some (if c=true then a else b):=by cases c<;>rfl
theorem ite_or {a b:Bool}:(if a=true then true else b)=(a||b):=by cases a<;>rfl
theorem ite_and {a b:Bool}:(if a=true then b else false)=(a&&b):=by cases a<;>rfl
end Ae
namespace Ae
open Go

theorem hrf1 {α:Type} {r:α→AV→Prop} (x:α) (as:List AV) (h:Cs [r x] as) (_:as.length=1):r x (elemOf false as):=by
 cases h with
 | cons h k=>exact h
theorem hrfA {α:Type} {f:α→List (AV→Prop)} {sz:Nat} (x:α) (as:List AV) (h:Cs (f x) as) (_:as.length=sz):rA (f x) (elemOf true as):=⟨as,rfl,h⟩
theorem VA_2 {E:Env} {a b:AV} {v w:Value} (h:V E a v) (k:V E b w):VA E [a,b] #[v,w]:=⟨rfl,fun i x y hx hy=>by
 match i with
 | 0=>simp at hx hy; subst hx hy; exact h
 | 1=>simp at hx hy; subst hx hy; exact k
 | i+2=>simp at hx⟩
theorem WF0:WF St.zero:=⟨Nat.le_refl _,Nat.le_refl _⟩
end Ae
namespace Ae
open Go

def MkOk {α ρ:Type} (B:Nat) (f:α→Int→Option (Int × ρ)) (x:α):Prop:=∀ k:Int,0≤k→k+B≤4611686018427387904→∃ r,f x k=some r∧k≤r.1∧r.1≤k+B

theorem mk_gen {α:Type} {B:Nat} {S:List α × Int × Int→Option ((List α × Int × Int) ⊕ (Int × List α))} {a:List α} {f:List α→Int→Option (Int × List α)} (hf:∀ k,f a k=loop S (a,k,0))
  (hend:∀ (m:List α) (k:Int),m.length=a.length→S (m,k,(a.length:Int))=some (.inr (k,m)))
  (hst:∀ (i:Nat) (m:List α) (k:Int) x,m.length=a.length→m[i]?=some x→x∈a→i<a.length→0≤k→k+B≤4611686018427387904→∃ y k',S (m,k,(i:Int))=some (.inl (m.set i y,k',((i+1:Nat):Int)))∧k≤k'∧k'≤k+B)
  (ha:a.length≤1048576):MkOk (1048576*B) f a:=by
 intro k0 h0 h1
 have key:∀ n (i:Nat) m (k:Int),i+n=a.length→m.length=a.length→(∀ j,i≤j→m[j]?=a[j]?)→0≤k→k+n*B≤4611686018427387904→∃ r,loop S (m,k,(i:Int))=some r∧k≤r.1∧r.1≤k+n*B:=by
  intro n
  induction n with
  | zero =>
   intro i m k hi hm _ hk hb
   obtain rfl:i=a.length:=by omega
   exact ⟨_,loop_R (hend m k hm),Int.le_refl _,by simp⟩
  | succ n ih =>
   intro i m k hi hm hsame hk hb
   have hlt:i<a.length:=by omega
   have hx:m[i]?=some a[i]:=by rw[hsame i (Nat.le_refl _),List.getElem?_eq_getElem hlt]
   have hB:((n+1:Nat):Int)*B=n*B+B:=by rw[Int.natCast_add,Int.add_mul]; simp
   rw[hB] at hb
   have hnB:(0:Int)≤n*B:=Int.mul_nonneg (by omega) (by omega)
   obtain ⟨y,k',h2,h3,h4⟩:=hst i m k a[i] hm hx (List.getElem_mem hlt) hlt hk (by omega)
   obtain ⟨r,h5,h6,h7⟩:=ih (i+1) (m.set i y) k' (by omega) (by simp[hm]) (fun j hj=>by rw[List.getElem?_set_ne (by omega)]; exact hsame j (by omega)) (by omega) (by omega)
   exact ⟨r,(loop_L h2).trans h5,by omega,by rw[hB]; omega⟩
 have hB:((1048576*B:Nat):Int)=1048576*B:=by simp
 have hle:(a.length:Int)*B≤1048576*B:=Int.mul_le_mul_of_nonneg_right (by omega) (by omega)
 rw[hB] at h1 ⊢
 obtain ⟨r,h2,h3,h4⟩:=key a.length 0 a k0 (by omega) rfl (fun _ _=>rfl) h0 (by omega)
 exact ⟨r,by rw[hf]; exact h2,h3,by omega⟩

theorem mk_loop {α:Type} {B:Nat} {sub:α→Int→Option (Int × α)} {S:List α × Int × Int→Option ((List α × Int × Int) ⊕ (Int × List α))} {a:List α} {f:List α→Int→Option (Int × List α)}
  (hS:∀ m k i,S (m,k,i)=if decide (i<(m.length:Int))=true then (ix m i).bind fun x=>(sub x k).bind fun y=>some (.inl (m.set (Int.toNat i) y.2,y.1,IntKind.wrap .i64 (i+1))) else some (.inr (k,m)))
  (hf:∀ k,f a k=loop S (a,k,0)) (ha:a.length≤1048576) (hsub:∀ x∈a,MkOk B sub x):MkOk (1048576*B) f a:=by
 refine mk_gen hf (fun m k hm=>by rw[hS,hm,ltF]; rfl) (fun i m k x hm hx hxa hlt hk hb=>?_) ha
 obtain ⟨r,h1,h2,h3⟩:=hsub x hxa k hk hb
 refine ⟨r.2,r.1,?_,h2,h3⟩
 rw[hS,hm,ltT hlt,if_pos rfl,ix_lit hx,Option.bind_some,h1,Option.bind_some,w1 hlt (by omega)]
 rfl
theorem mk_one {α:Type} {g:Int→Option α} {S:List α × Int × Int→Option ((List α × Int × Int) ⊕ (Int × List α))} {a:List α} {f:List α→Int→Option (Int × List α)}
  (hS:∀ m k i,S (m,k,i)=if decide (i<(m.length:Int))=true then (ix m i).bind fun _=>(g k).bind fun y=>some (.inl (m.set (Int.toNat i) y,IntKind.wrap .i64 (k+1),IntKind.wrap .i64 (i+1))) else some (.inr (k,m)))
  (hg:∀ k,∃ y,g k=some y) (hf:∀ k,f a k=loop S (a,k,0)) (ha:a.length≤1048576):MkOk 1048576 f a:=by
 refine mk_gen (B:=1) hf (fun m k hm=>by rw[hS,hm,ltF]; rfl) (fun i m k x hm hx hxa hlt hk hb=>?_) ha
 obtain ⟨y,h1⟩:=hg k
 refine ⟨y,k+1,?_,by omega,by omega⟩
 rw[hS,hm,ltT hlt,if_pos rfl,ix_lit hx,Option.bind_some,h1,Option.bind_some,w1 hlt (by omega),w64 (by omega) (by omega)]
 rfl

end Ae
namespace Ae
open Go
theorem remI3 (k:Int):remI .i64 k 3=some (k.tmod 3):=by
 unfold remI
 rw[if_neg (by decide)]
end Ae
