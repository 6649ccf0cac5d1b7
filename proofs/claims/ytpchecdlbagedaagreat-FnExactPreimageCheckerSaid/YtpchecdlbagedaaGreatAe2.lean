import Derived.Test.YtpchecdlbagedaaGreatAe1
set_option linter.unusedVariables false
set_option linter.unusedSimpArgs false
namespace Ae
open Go

section
variable {P:Program} {C:Cfg} {E0 E:Env} {s0:St} {nt:Nat} {f f':Fr} {a:Act} {I:FI} {o:Oper}

theorem OpDone.of_yld {x:AV} (h:Inv E0 s0 nt E f a) (hdst:∀ i,o.dst=some i→i<nt) (hy:Yld P E a o x):OpDone P E0 s0 nt E a o (f.put o.dst x false):=by
 obtain ⟨y,hr,hv⟩:=hy
 exact ⟨E,_,y,hr,.inl rfl,h.put0 hdst hv⟩

theorem alloc_run {t:Nat} {z:Value} (hz:∀ w,(zeroValue t).run P w=.ok z w) (hop:o.op=.alloc t) (w:World) :
  (execOp a.eval o).run P w=.ok (.value (.pointer (some ⟨w.heap.size,0,none⟩))) (w.alloc (.cells z.cells t)):=by
 unfold execOp
 simp[hop,Instr.alloc,hz,newVar_run]

theorem box_run {t:Nat} {x:Operand} (hop:o.op=.box t x) (w:World) :
  (execOp a.eval o).run P w=.ok (.value (.pointer (some ⟨w.heap.size,0,none⟩))) (w.alloc (.cells (a.eval x).cells t)):=by
 unfold execOp
 simp[hop,Instr.box,newVar_run]

theorem alloc_ok (hty:TysOk P C) (h:Inv E0 s0 nt E f a) (hdst:∀ i,o.dst=some i→i<nt) {t:Nat} (hop:o.op=.alloc t) (hm:memOp C I o f=some f'):OpDone P E0 s0 nt E a o f':=by
 unfold memOp at hm
 simp only[hop] at hm
 split at hm
 ·rename_i ti hT
  have hz0:=fun w=>zeroValue_run (P:=P) (hty _ _ hT) w
  obtain ⟨i,hi,his,hib,z,hz,hzV⟩:=(hty _ _ hT).i
  have hzr:∀ w,(zeroValue t).run P w=.ok z w:=by intro w; simp[zeroValue,typeInfo,hi,hz]
  split at hm
  ·split at hm
   ·rename_i hl
    cases hm
    exact box_new h hdst (Row.of_layable hl (hzV E)) t (alloc_run hzr hop E.w)
   ·cases hm
  ·split at hm
   ·rename_i d hd
    split at hm
    ·rename_i hc
     cases hm
     rw[← hd]
     exact pend_new h hdst t (by rw[← (Row.of_layable hc.2.1 (hzV E)).len,hc.2.2]) (alloc_run hzr hop E.w)
    ·cases hm
   ·cases hm
 ·cases hm

theorem boxM_ok (hty:TysOk P C) (h:Inv E0 s0 nt E f a) (hdst:∀ i,o.dst=some i→i<nt) {t:Nat} {x:Operand} (hop:o.op=.box t x) (hm:memOp C I o f=some f'):OpDone P E0 s0 nt E a o f':=by
 unfold memOp at hm
 simp only[hop] at hm
 split at hm
 ·rename_i ti hT
  split at hm
  ·split at hm
   ·rename_i hc
    simp only[Bool.and_eq_true] at hc
    cases hm
    exact box_new h hdst (Row.of_layable hc.1 (evalO_ok h.v x)) t (box_run hop E.w)
   ·cases hm
  ·cases hm
 ·cases hm

theorem loadM_ok (hty:TysOk P C) (h:Inv E0 s0 nt E f a) (hdst:∀ i,o.dst=some i→i<nt) {t:Nat} {x:Operand} (hop:o.op=.load t x) (hm:memOp C I o f=some f'):OpDone P E0 s0 nt E a o f':=by
 unfold memOp at hm
 simp only[hop] at hm
 split at hm
 ·cases hm
 ·rename_i ti hT
  split at hm
  ·rename_i b off hx
   split at hm
   ·rename_i cs hcs
    have hcs:=(imH_some hcs).2
    rw[Option.bind_eq_some_iff] at hm
    obtain ⟨v,hp,hm⟩:=hm
    obtain ⟨z,hr,hV,hb,hone⟩:=load_done (P:=P) hty h hdst hop hT hx hcs hp
    split at hm
    ·rename_i hmv
     simp only[Bool.and_eq_true,Bool.not_eq_true'] at hmv
     obtain ⟨hz,hc⟩:=hone hmv.1.2
     split at hm
     case isFalse=>cases hm
     rename_i how
     cases hm
     refine ⟨E,_,z,hr,.inl rfl,?_⟩
     have h1:Inv E0 s0 nt E { f with s:={ f.s with ow:=upd f.s.ow b (upd (f.s.ow b) off false) } } a:=h.dropB (fun b' i hh=>by
      simp only[upd] at hh
      split at hh
      ·rename_i e; subst e
       simp only[upd] at hh
       split at hh
       ·cases hh
       ·exact hh
      ·exact hh)
     rw[push_put]
     refine h1.put hdst hV (fun _=>?_)
     have hca:CellAt E f.s b off v z:=⟨hb,how,⟨cs,hcs,hc⟩,hz⟩
     refine ⟨h.core.held b off v z hca,fun g hg=>?_⟩
     have hcsp:CellSp E f.s b off g:=⟨v,z,hca,hg⟩
     refine ⟨fun t' _ hs=>h.dc t' b off g hs hcsp,fun b' i hs=>?_,h.oC b off g hcsp⟩
     obtain ⟨c',v',⟨k1,k2,k3,k4⟩,k5⟩:=hs
     have k2':upd f.s.ow b (upd (f.s.ow b) off false) b' i=true:=k2
     have hle:f.s.ow b' i=true:=by
      simp only[upd] at k2'
      split at k2'
      ·rename_i e; subst e
       simp only[upd] at k2'
       split at k2'
       ·cases k2'
       ·exact k2'
      ·exact k2'
     obtain ⟨e1,e2⟩:=h.core.dj b' i b off g ⟨c',v',⟨k1,hle,k3,k4⟩,k5⟩ hcsp
     subst e1; subst e2
     simp[upd] at k2'
    ·cases hm
     exact ⟨E,_,z,hr,.inl rfl,h.put0 hdst hV⟩
   ·cases hm
  ·rename_i cs off hx
   rw[Option.map_eq_some_iff] at hm
   obtain ⟨v,hp,rfl⟩:=hm
   obtain ⟨z,hr,hV⟩:=load_eptr (P:=P) hty h hop hT hx hp
   exact ⟨E,_,z,hr,.inl rfl,h.put0 hdst hV⟩
  ·cases hm

theorem upd_le (os:Nat→Bool) (d:Nat):∀ t,upd os d false t=true→os t=true:=by
 intro t ht
 simp only[upd] at ht
 split at ht
 ·cases ht
 ·exact ht

theorem over_at {cs new:List AV} {off:Nat} (h:off+new.length≤cs.length) {i:Nat} (hi:¬ (off≤i∧i<off+new.length)):(over cs off new)[i]?=cs[i]?:=by
 rw[over_get h,if_neg hi]

theorem overL_at {cur X:List Value} {off:Nat} (h:off+X.length≤cur.length) {i:Nat} (hi:¬ (off≤i∧i<off+X.length)):(cur.take off++X++cur.drop (off+X.length))[i]?=cur[i]?:=by
 have ht:(cur.take off).length=off:=by simp; omega
 by_cases h1:i<off
 ·rw[List.append_assoc,List.getElem?_append_left (by omega),List.getElem?_take_of_lt h1]
 ·rw[List.getElem?_append_right (by simp; omega),List.getElem?_drop]
  congr 1
  simp; omega

theorem overL_in {cur X:List Value} {off:Nat} (h:off+X.length≤cur.length) {j:Nat} (hj:j<X.length):(cur.take off++X++cur.drop (off+X.length))[off+j]?=X[j]?:=by
 have ht:(cur.take off).length=off:=by simp; omega
 rw[List.append_assoc,List.getElem?_append_right (by omega),List.getElem?_append_left (by omega),ht]
 congr 1
 omega

theorem RowO.overL {o:Nat} {cs new:List AV} {cur:Array Value} {X:List Value} (h:RowO E o cs cur) (k:Row E new X.toArray) {off:Nat} (hle:off+new.length≤cs.length):RowO E o (over cs off new) (cur.toList.take (o+off)++X++cur.toList.drop (o+off+X.length)).toArray:=by
 have hl:new.length=X.length:=by simpa using k.len
 have hcl:=h.len
 refine ⟨?_,?_,?_⟩
 ·rw[over_len hle]; simp; omega
 ·intro i c hc
  rw[over_get hle] at hc
  split at hc
  ·exact k.one _ _ hc
  ·exact h.one _ _ hc
 ·intro i c x hc hx
  rw[over_get hle] at hc
  simp only[List.getElem?_toArray] at hx
  split at hc
  ·rename_i hi
   have:=overL_in (cur:=cur.toList) (X:=X) (off:=o+off) (by simp; omega) (j:=i - off) (by omega)
   rw[show o+off+(i - off)=o+i by omega] at this
   rw[this] at hx
   exact k.v _ _ _ hc (by simpa using hx)
  ·rename_i hi
   rw[overL_at (by simp; omega) (by omega)] at hx
   exact h.v _ _ _ hc (by simpa using hx)

theorem store_ok (hty:TysOk P C) (h:Inv E0 s0 nt E f a) {t:Nat} {p x:Operand} (hop:o.op=.store t p x) (hm:memOp C I o f=some f'):OpDone P E0 s0 nt E a o f':=by
 unfold memOp at hm
 simp only[hop] at hm
 split at hm
 ·cases hm
 ·rename_i ti hT
  split at hm
  ·rename_i hc
   simp only[Bool.and_eq_true,decide_eq_true_eq,Option.isNone_iff_eq_none] at hc
   obtain ⟨⟨⟨hlay,hlen⟩,hdst⟩,hpos⟩:=hc
   have hVx:=evalO_ok h.v x
   have hrx:=Row.of_layable hlay hVx
   have hXs:(a.eval x).cells.size=ti.size:=by rw[← hrx.len,hlen]
   have hrx':Row E (evalO f.tm x).cells (a.eval x).cells.toList.toArray:=by simpa using hrx
   have h1:=hrx'.oneCell
   have hVp:=evalO_ok h.v p
   have he:execOp a.eval o=(do Instr.storeAt t (a.eval p) (a.eval x); pure .skip:Sem Next):=by unfold execOp; simp only[hop]
   have hput:a.put o.dst undef=a:=by rw[hdst]; rfl
   split at hm
   ·rename_i b off hp
    rw[hp] at hVp
    split at hm
    ·rename_i cs hcs
     have hcs:=(imS_some hcs).2
     split at hm
     ·rename_i hro
      split at hm
      ·rename_i hlo
       cases hm
       generalize hPV:a.eval p=PV at hVp
       cases hVp with
       | ptr _ _ hb =>
        rw[h.core.n] at hb
        obtain ⟨cur,e,k2,k5,k3,k4⟩:=h.core.box b cs hb hcs
        have hcl:=k3.len
        have hrun:=storeAt_run (P:=P) (hty _ _ hT) (off:=E.off b+off) hXs h1 k2 (by omega)
        have hXl:(a.eval x).cells.toList.length=ti.size:=by simpa using hXs
        have hR:RowO E (E.off b) (over cs off (evalO f.tm x).cells) (cur.toList.take (E.off b+off)++(a.eval x).cells.toList++cur.toList.drop (E.off b+off+(a.eval x).cells.toList.length)).toArray:=RowO.overL k3 hrx' (by omega)
        refine ⟨E.set (E.μ b) (cur.toList.take (E.off b+off)++(a.eval x).cells.toList++cur.toList.drop (E.off b+off+(a.eval x).cells.toList.length)).toArray 0,.skip,undef,?_,.inr ⟨rfl,rfl⟩,?_⟩
        ·rw[he,hPV,Sem.run_bind,hrun]; rfl
        ·rw[hput]
         refine h.setBox (i0:=off) hb hro.1 hcs k2 (by simp; omega) hR (clearO_le _ _) ?_ ?_ ?_
         ·intro i hfl hi
          by_cases hin:off≤i∧i<off+ti.size
          ·rw[if_pos hin] at hfl
           split at hfl
           ·simp[hi] at hfl
           ·cases hfl
          ·rw[if_neg hin] at hfl
           refine ⟨hfl,over_at (by omega) (by rw[hlen]; exact hin),?_⟩
           simp only[List.getElem?_toArray]
           rw[overL_at (by rw[hXl,Array.length_toList]; omega) (by rw[hXl]; omega)]
           simp
         ·intro hfl
          rw[if_pos ⟨Nat.le_refl _,by omega⟩] at hfl
          split at hfl
          ·rename_i tt
           simp only[Bool.and_eq_true] at hfl
           obtain ⟨⟨_,hone⟩,hos⟩:=hfl
           have hone':(f.tm tt).one=true:=hone
           have hvone:isOne (a.tmps.getD tt undef)=true:=hVx.one hone
           have hc1:(evalO f.tm (.tmp tt)).cells=[f.tm tt]:=AV.cells_one hone
           have hc2:(a.eval (.tmp tt)).cells.toList=[a.tmps.getD tt undef]:=by
            show (Value.cells (a.tmps.getD tt undef)).toList=_
            rw[cells_one hvone]
           refine ⟨tt,hos,by simp[clearO,upd],?_,?_⟩
           ·rw[over_get (by omega),if_pos ⟨Nat.le_refl _,by rw[hlen]; omega⟩,hc1]; simp
           ·simp only[List.getElem?_toArray]
            have:=overL_in (cur:=cur.toList) (X:=(a.eval (.tmp tt)).cells.toList) (off:=E.off b+off) (by rw[hXl,Array.length_toList]; omega) (j:=0) (by omega)
            rw[Nat.add_zero] at this
            rw[this,hc2]; rfl
          ·cases hfl
         ·intro k hk hk' hpl
          have hlo':¬ (f.s.lo≤b):=by rw[h.lo]; omega
          exact pureL_over hpl (pureB_cells (AV.pureB_mono (Nat.zero_le k) _ (hlo.resolve_left hlo')))
      ·cases hm
     ·cases hm
    ·cases hm
   ·rename_i sz hp
    split at hm
    ·rename_i d
     split at hm
     ·rename_i hc2
      simp only[Bool.and_eq_true,decide_eq_true_eq] at hc2
      obtain ⟨hos,rfl⟩:=hc2
      cases hm
      have htm:f.tm d=.pend ti.size:=hp
      have hVd:=h.v d
      rw[htm] at hVd
      have hPV:∃ g,a.tmps.getD d undef=.pointer (some ⟨g,0,none⟩):=by
       generalize a.tmps.getD d undef=PV at hVd
       cases hVd with
       | pend _ g=>exact ⟨g,rfl⟩
      obtain ⟨g,hPV⟩:=hPV
      have hsp:spare (f.tm d) (a.tmps.getD d undef)=some g:=by rw[hPV,htm]; rfl
      have hspr:=h.held d hos g hsp
      have htsp:TmpSp f a d g:=⟨hos,hsp⟩
      rw[hPV,htm] at hspr
      cases hspr with
      | pend _ _ cur e hg hs hpr hb =>
       have hXl:(a.eval x).cells.toList.length=ti.size:=by simpa using hXs
       have hrun:=storeAt_run (P:=P) (hty _ _ hT) (off:=0) hXs h1 hg (by omega)
       generalize hvs:(cur.toList.take 0++(a.eval x).cells.toList++cur.toList.drop (0+(a.eval x).cells.toList.length))=vs at hrun
       have hvs':vs=(a.eval x).cells.toList:=by
        rw[← hvs,List.drop_eq_nil_of_le (by rw[hXl,Array.length_toList]; omega)]
        simp
       have hd:Inv E0 s0 nt E { f with os:=upd f.os d false } a:=h.drop (upd_le _ _)
       have hnt:∀ t',¬ TmpSp { f with os:=upd f.os d false } a t' g:=by
        rintro t' ⟨k1,k2⟩
        simp only[upd] at k1
        split at k1
        ·cases k1
        ·exact absurd (h.dt t' d g ⟨k1,k2⟩ htsp) ‹_›
       have hle:E.le (E.set g vs.toArray ti.size):=Env.le_set hg (by omega) (fun o ho=>by omega)
       have h2:=hd.write (vs:=vs.toArray) (k:=ti.size) hg (by omega) (fun o ho=>by omega) hb (fun b i hs'=>h.dc d b i g htsp hs') hnt (h.oT d g htsp)
       have hself:(E.set g vs.toArray ti.size).w.heap[g]?=some (.cells vs.toArray e (0,0)):=setRow_heap _ _ _ _ _ _ hg
       have hr2:=hrx'.le hle
       have hget:∀ (j:Nat) c,(evalO f.tm x).cells[j]?=some c→(a.eval x).cells.toList[j]?=some ((a.eval x).cells.toList.getD j undef):=by
        intro j c hj
        have:=(List.getElem?_eq_some_iff.1 hj).1
        simp[List.getD,show j<(a.eval x).cells.size by rw[← hrx.len]; exact this]
       have h3:=h2.retm (d:=d) (x:=.eptr (evalO f.tm x).cells 0) (by
        rw[hPV]
        have:=V.eptr (E:=E.set g vs.toArray ti.size) (evalO f.tm x).cells 0 g 0 (fun j=>(a.eval x).cells.toList.getD j undef) hr2.one
         (fun j c hj=>by
          have:=(List.getElem?_eq_some_iff.1 hj).1
          simp only[Env.set,upd,if_true]
          omega)
         (fun j c hj=>by
          simp only[Nat.zero_add,World.cell?,hself,Option.isSome_none,Bool.false_eq_true,if_false,List.getElem?_toArray]
          rw[hvs']
          exact hget j c hj)
         (fun j c hj=>hr2.v j c _ hj (by simp only[List.getElem?_toArray]; exact hget j c hj))
        simpa using this)
       refine ⟨E.set g vs.toArray ti.size,.skip,undef,?_,.inr ⟨rfl,rfl⟩,?_⟩
       ·rw[he]
        have:a.eval (.tmp d)=.pointer (some ⟨g,0,none⟩):=hPV
        rw[this,Sem.run_bind,hrun]; rfl
       ·rw[hput]
        have e1:upd (upd f.os d false) d false=upd f.os d false:=by funext i; simp only[upd]; split<;>rfl
        rw[← e1]
        exact h3
     ·cases hm
    ·cases hm
   ·cases hm
  ·cases hm

end
end Ae
namespace Ae
open Go

theorem elsA_ok {P:Program} {C:Cfg} {E:Env} {a:Act} {tm:Nat→AV} (ht:∀ t,V E (tm t) (a.tmps.getD t undef)) {ei:TI}:∀ (n i:Nat) (l:List (Nat × Operand)) (els:List AV) (vs:Array Value),
  vs.size=(i+n)*ei.size→elsA ei i n (l.map fun p=>(p.1,evalO tm p.2))=some els →
  ∃ vs',Instr.fill (fun i=>some (i*ei.size,ei.size)) vs (l.map fun p=>(p.1,a.eval p.2))=some vs'∧vs'.size=vs.size∧(∀ k,k<i*ei.size→vs'[k]?=vs[k]?) ∧
   Row E (flat els) (vs'.toList.drop (i*ei.size)).toArray∧els.length=n∧∀ el∈els,el.cells.length=ei.size:=by
 intro n
 induction n with
 | zero =>
  intro i l els vs hs h
  cases l with
  | nil =>
   simp only[List.map_nil,elsA] at h
   cases h
   refine ⟨vs,rfl,rfl,fun _ _=>rfl,?_,rfl,by simp⟩
   rw[List.drop_eq_nil_of_le (by simp[hs])]
   exact ⟨rfl,by simp[flat,flatA],by simp[flat,flatA]⟩
  | cons p l=>simp[elsA] at h
 | succ n ih =>
  intro i l els vs hs h
  cases l with
  | nil=>simp[elsA] at h
  | cons p l =>
   obtain ⟨j,x⟩:=p
   simp only[List.map_cons,elsA] at h⊢
   split at h
   ·rename_i hj
    subst hj
    split at h
    ·rename_i hc
     simp only[Bool.and_eq_true,decide_eq_true_eq] at hc
     rw[Option.map_eq_some_iff] at h
     obtain ⟨rest,hrest,rfl⟩:=h
     have hR:=Row.of_layable hc.1 (evalO_ok ht x)
     have hXs:(a.eval x).cells.size=ei.size:=by rw[← hR.len,hc.2]
     have hmul:(j+(n+1))*ei.size=j*ei.size+ei.size+n*ei.size:=by rw[Nat.add_mul,Nat.succ_mul]; omega
     have hmul1:(j+1)*ei.size=j*ei.size+ei.size:=Nat.succ_mul _ _
     obtain ⟨f1,f2⟩:=foldl_set (j*ei.size) (a.eval x).cells.toList 0 vs
     have hXl:(a.eval x).cells.toList.length=ei.size:=by simpa using hXs
     have f3:=fun k=>f2 k (by rw[hXl]; omega)
     simp only[Nat.add_zero,hXl] at f3
     obtain ⟨vs',g1,g2,g3,g4,g5,g6⟩:=ih (j+1) l rest (((a.eval x).cells.toList.zipIdx 0).foldl (fun cs (p:Value × Nat)=>cs.setIfInBounds (j*ei.size+p.2) p.1) vs)
      (by rw[f1,hs]; congr 1; omega) hrest
     refine ⟨vs',?_,by rw[g2,f1],?_,?_,by simp[g5],?_⟩
     ·unfold Instr.fill
      simp only
      rw[if_neg (by simp[hXs]; omega)]
      rw[← Array.foldl_toList,Array.toList_zipIdx]
      exact g1
     ·intro k hk
      rw[g3 k (by omega),f3 k,if_neg (by omega)]
     ·have hd:vs'.toList.drop (j*ei.size)=(a.eval x).cells.toList++vs'.toList.drop ((j+1)*ei.size):=by
       apply List.ext_getElem?
       intro k
       rw[List.getElem?_drop]
       by_cases hk:k<ei.size
       ·rw[List.getElem?_append_left (by omega)]
        have:=g3 (j*ei.size+k) (by omega)
        rw[Array.getElem?_toList,this,f3,if_pos (by omega)]
        congr 1
        omega
       ·rw[List.getElem?_append_right (by omega),hXl,List.getElem?_drop]
        congr 1
        omega
      rw[hd]
      have:flat (evalO tm x::rest)=(evalO tm x).cells++flat rest:=by simp[flat,flatA]
      rw[this]
      exact Row.append (by simpa using hR) g4
     ·intro el hel
      rcases List.mem_cons.1 hel with rfl | hel
      ·exact hc.2
      ·exact g6 el hel
    ·cases h
   ·cases h

section
variable {P:Program} {C:Cfg} {E0 E:Env} {s0:St} {nt:Nat} {f f':Fr} {a:Act} {I:FI} {o:Oper}

theorem fixed_row (h:Inv E0 s0 nt E f a) (hdst:∀ i,o.dst=some i→i<nt) {vs:Array Value} {T:TypeId} {v:AV} {y:Value}
  (hrun:(execOp a.eval o).run P E.w=.ok (.value y) (E.w.alloc (.cells vs T))) (hV:V (E.new vs T vs.size) v y):OpDone P E0 s0 nt E a o (f.put o.dst v false) :=
 ⟨E.new vs T vs.size,_,y,hrun,.inl rfl,(h.alloc vs T vs.size).put0 hdst hV⟩

theorem eptr_new (h:Inv E0 s0 nt E f a) {cs:List AV} {vs:Array Value} (hr:Row E cs vs) (T:TypeId):V (E.new vs T vs.size) (.eptr cs 0) (.pointer (some ⟨E.w.heap.size,0,none⟩)):=by
 have hnew:=heap_alloc_new E.w (.cells vs T)
 have hr2:=hr.le (Env.le_new h.core.new vs T vs.size)
 have hget:∀ (j:Nat) c,cs[j]?=some c→vs[j]?=some (vs.getD j undef):=by
  intro j c hj
  have:=(List.getElem?_eq_some_iff.1 hj).1
  rw[hr.len] at this
  simp[Array.getD,this]
 have:=V.eptr (E:=E.new vs T vs.size) cs 0 E.w.heap.size 0 (fun j=>vs.getD j Go.undef) hr2.one
  (fun j c hj=>by
   have:=(List.getElem?_eq_some_iff.1 hj).1
   simp only[Env.new,upd,if_true,← hr.len]
   omega)
  (fun j c hj=>by
   show (E.w.alloc (.cells vs T)).cell? _=_
   simp only[Nat.zero_add,World.cell?,hnew,Option.isSome_none,Bool.false_eq_true,if_false]
   exact hget j c hj)
  (fun j c hj=>hr2.v j c _ hj (hget j c hj))
 simpa using this

theorem build_run (hty:TysOk P C) (h:Inv E0 s0 nt E f a) {t len e:Nat} {parts:Array (Nat × Operand)} {ei:TI} {els:List AV} (hop:o.op=.buildSlice t len parts) (hu:P.underlying t=some (.slice e)) (hE:C.ty e=some ei) (hlim:len*ei.size≤16777216)
  (hels:elsA ei 0 len (parts.toList.map fun p=>(p.1,evalO f.tm p.2))=some els):∃ vs',(execOp a.eval o).run P E.w=.ok (.value (.slice (some ⟨E.w.heap.size,0,none⟩) len len)) (E.w.alloc (.cells vs' e))∧vs'.size=len*ei.size∧Row E (flat els) vs'∧els.length=len∧∀ el∈els,el.cells.length=ei.size:=by
 obtain ⟨z,hz,hzV⟩:=zeroValue_run (P:=P) (hty _ _ hE) E.w
 have key:∀ init:Array Value,init.size=len*ei.size→∃ vs',Instr.fill (fun i=>some (i*ei.size,ei.size)) init (parts.toList.map fun p=>(p.1,a.eval p.2))=some vs' ∧
   vs'.size=len*ei.size∧Row E (flat els) vs'∧els.length=len∧∀ el∈els,el.cells.length=ei.size:=by
  intro init hi
  obtain ⟨vs',g1,g2,g3,g4,g5,g6⟩:=elsA_ok (P:=P) (C:=C) h.v len 0 parts.toList els init (by rw[hi,Nat.zero_add]) hels
  exact ⟨vs',g1,by rw[g2,hi],by simpa using g4,g5,g6⟩
 have hpl:(parts.map fun p=>(p.1,a.eval p.2)).toList=parts.toList.map fun p=>(p.1,a.eval p.2):=by simp
 have hrun:∃ vs',(execOp a.eval o).run P E.w=.ok (.value (.slice (some ⟨E.w.heap.size,0,none⟩) len len)) (E.w.alloc (.cells vs' e))∧vs'.size=len*ei.size∧Row E (flat els) vs'∧els.length=len∧∀ el∈els,el.cells.length=ei.size:=by
  by_cases h0:len*ei.size=0
  ·obtain ⟨vs',g1,g2⟩:=key ((Array.range (len*ei.size)).map ((#[]:Array Value)[· % (#[]:Array Value).size]!)) (by simp)
   refine ⟨vs',?_,g2⟩
   unfold execOp
   have:¬ (len*ei.size>2 ^ 24):=by omega
   simp only[hop,Instr.buildSlice,Sem.run_bind,run_underlying hu,Result.andThen_ok,sizeOf_run (hty _ _ hE),h0,if_neg (show ¬ (0>2 ^ 24) by decide),if_true,Sem.run_pure,hpl]
   rw[h0] at g1
   rw[g1]
   simp[newRow]
  ·obtain ⟨vs',g1,g2⟩:=key ((Array.range (len*ei.size)).map (z.cells[· % z.cells.size]!)) (by simp)
   refine ⟨vs',?_,g2⟩
   unfold execOp
   have:¬ (len*ei.size>2 ^ 24):=by omega
   simp only[hop,Instr.buildSlice,Sem.run_bind,run_underlying hu,Result.andThen_ok,sizeOf_run (hty _ _ hE),if_neg this,h0,if_false,Sem.run_pure,hz,hpl]
   rw[g1]
   simp[newRow]
 exact hrun

theorem makeOp_ok (hty:TysOk P C) (h:Inv E0 s0 nt E f a) (hdst:∀ i,o.dst=some i→i<nt) {v:AV} (hm:makeOp C I o f.tm=some v):OpDone P E0 s0 nt E a o (f.put o.dst v false):=by
 unfold makeOp at hm
 split at hm
 ·rename_i t len parts hop
  split at hm
  ·cases hm
  split at hm
  ·rename_i e _ _ _ hT
   have hu:P.underlying t=some (.slice e):=(hty _ _ hT).u
   split at hm
   ·rename_i ei hE
    split at hm
    ·rename_i hlim
     rw[Option.map_eq_some_iff] at hm
     obtain ⟨els,hels,rfl⟩:=hm
     have hrun:=build_run hty h hop hu hE hlim hels
     obtain ⟨vs',r1,r2,r3,r4,r5⟩:=hrun
     refine fixed_row h hdst r1 ?_
     have hnew:=heap_alloc_new E.w (.cells vs' e)
     have:=V.ofFlat (E:=E.new vs' e vs'.size) (fl:=true) (g:=E.w.heap.size) (o:=0) (cap:=len) (ol:=vs'.toList) r5 (by simpa using r3.le (Env.le_new h.core.new vs' e vs'.size)) ?_ ?_ (by omega) (by intro _; omega)
     ·rw[r4] at this; exact this
     ·intro j u hj
      show (E.w.alloc (.cells vs' e)).cell? _=_
      simp only[Nat.zero_add,World.cell?,hnew,Option.isSome_none,Bool.false_eq_true,if_false]
      simpa using hj
     ·intro j hj
      simp only[Env.new,upd,if_true]
      simpa using hj
    ·cases hm
   ·cases hm
  ·cases hm
 ·rename_i t x hop
  split at hm
  ·cases hm
  ·split at hm
   ·rename_i ti hT
    simp only at hm
    split at hm
    ·rename_i hc
     simp only[Bool.and_eq_true] at hc
     cases hm
     have hr:=Row.of_layable hc.1 (evalO_ok h.v x)
     exact fixed_row h hdst (box_run hop E.w) (eptr_new h hr t)
    ·cases hm
   ·cases hm
 ·rename_i t hop
  split at hm
  ·rw[Option.bind_eq_some_iff] at hm
   obtain ⟨ti,hT,hm⟩:=hm
   split at hm
   ·rename_i hl
    cases hm
    obtain ⟨z,hz,hzV⟩:=zeroValue_run (P:=P) (hty _ _ hT) E.w
    exact fixed_row h hdst (alloc_run hz hop E.w) (eptr_new h (Row.of_layable hl (hzV E)) t)
   ·cases hm
  ·cases hm
 ·cases hm

end
end Ae
namespace Ae
open Go

section
variable {P:Program} {C:Cfg} {E0 E:Env} {s0:St} {nt:Nat} {f f':Fr} {a:Act} {I:FI} {o:Oper}

theorem row_made {zero:AV} {z:Value} {size l:Nat} (hr:Row E zero.cells z.cells) (hs:zero.cells.length=size):Row E (List.replicate l zero.cells).flatten (madeCells z.cells (l*size)):=by
 have hfl:(List.replicate l zero.cells).flatten=flat (List.replicate l zero):=by simp[flat,flatA]
 have hz:∀ el∈List.replicate l zero,el.cells.length=size:=fun el hel=>by rw[(List.mem_replicate.1 hel).2]; exact hs
 rw[hfl]
 refine ⟨by rw[flat_len hz,size_madeCells,List.length_replicate],?_,?_⟩
 ·intro k c hk
  obtain ⟨i,el,j,a1,a2,a3,a4⟩:=flat_inv hz hk
  have:el=zero:=(List.mem_replicate.1 (List.mem_of_getElem? a1)).2
  subst this
  exact hr.one j c a2
 ·intro k c x hk hx
  have hlt:=(List.getElem?_eq_some_iff.1 hk).1
  rw[flat_len hz,List.length_replicate] at hlt
  obtain ⟨i,el,j,a1,a2,a3,a4⟩:=flat_inv hz hk
  have:el=zero:=(List.mem_replicate.1 (List.mem_of_getElem? a1)).2
  subst this
  have hzs:z.cells.size=size:=by rw[← hr.len,hs]
  have hj:j<z.cells.size:=by omega
  have hmod:k % z.cells.size=j:=by rw[hzs,a3,Nat.mul_comm,Nat.mul_add_mod]; exact Nat.mod_eq_of_lt a4
  have hx':x=z.cells[j]:=by
   simp[madeCells,hlt,hmod,hj] at hx
   exact hx.symm
  rw[hx']
  exact hr.v j c _ a2 (Array.getElem?_eq_getElem hj)

theorem sliceM_ok (hty:TysOk P C) (h:Inv E0 s0 nt E f a) (hdst:∀ i,o.dst=some i→i<nt) {t:Nat} {ln cp:Operand} (hop:o.op=.makeSlice t ln cp) (hm:memOp C I o f=some f'):OpDone P E0 s0 nt E a o f':=by
 unfold memOp at hm
 simp only[hop] at hm
 split at hm
 ·rename_i e _ _ _ hT
  have hu:P.underlying t=some (.slice e):=(hty _ _ hT).u
  split at hm
  ·rename_i ei l c hE hl hc
   have hVl:=evalO_ok h.v ln
   have hVc:=evalO_ok h.v cp
   rw[hl] at hVl; rw[hc] at hVc
   generalize hL:a.eval ln=L at hVl
   generalize hK:a.eval cp=K at hVc
   cases hVl; cases hVc
   obtain ⟨i,hi,his,hib,z,hz,hzV⟩:=(hty _ _ hE).i
   split at hm
   ·rename_i hcond
    simp only[Bool.and_eq_true,decide_eq_true_eq] at hcond
    obtain ⟨⟨hlay,hzl⟩,hby⟩:=hcond
    have hr:=Row.of_layable hlay (hzV E)
    have run:∀ (l c:Int),a.eval ln=.int .i64 l→a.eval cp=.int .i64 c→0≤l→l≤c→c≤LIM →
      (execOp a.eval o).run P E.w=.ok (.value (.slice (some ⟨E.w.heap.size,0,none⟩) l.toNat c.toNat)) (E.w.alloc (.cells (madeCells z.cells (c.toNat*i.size)) e)):=by
     intro l c e1 e2 h0 hlc hcl
     have hcl':c≤549755813888:=hcl
     have hb:(i.bytes:Int)*c≤281474976710656:=by
      have h1:(i.bytes:Int)*c≤256*c:=Int.mul_le_mul_of_nonneg_right (by omega) (by omega)
      omega
     have:=run_make (P:=P) E.w t e i z hu hi hz .i64 .i64 l c h0 hlc hb (by omega)
     unfold execOp
     simp only[hop,e1,e2,Sem.run_bind,this]
     rfl
    split at hm
    ·rename_i hlc
     obtain ⟨rfl,h0,hlim⟩:=hlc
     cases hm
     have hrun:=run l l hL hK h0 (Int.le_refl _) hlim
     rw[his] at hrun
     have hrow:Row E (List.replicate l.toNat ei.zero.cells).flatten (madeCells z.cells (l.toNat*ei.size)):=row_made hr hzl
     refine ⟨E.push (madeCells z.cells (l.toNat*ei.size)) e,_,_,hrun,.inl rfl,?_⟩
     rw[push_put]
     refine (h.push hrow.toP e).put0 hdst ?_
     have hμ:(E.push (madeCells z.cells (l.toNat*ei.size)) e).μ f.s.n=E.w.heap.size:=by simp[Env.push,upd,h.core.n]
     exact .msN (by simp[Env.push,h.core.n]) hμ (by simp[Env.off,Env.push,upd,h.core.n]) (Nat.le_refl _) (by simp[Env.sz,Env.push,upd,h.core.n,size_madeCells])
    ·split at hm
     ·rename_i hlc
      obtain ⟨rfl,h0,hlim,hpos⟩:=hlc
      cases hm
      have hrun:=run 0 c hL hK (Int.le_refl _) h0 hlim
      rw[his] at hrun
      have hnew:=heap_alloc_new E.w (.cells (madeCells z.cells (c.toNat*ei.size)) e)
      refine ⟨E.new (madeCells z.cells (c.toNat*ei.size)) e 0,_,_,hrun,.inl rfl,?_⟩
      refine (h.alloc (madeCells z.cells (c.toNat*ei.size)) e 0).put hdst (.sl ei.size false [] _ 0 c.toNat (fun _ _=>undef) (by simp) (by simp) (by simp) (by simp) (by simp) (by simp) (by simp)) (fun _=>⟨?_,?_⟩)
      ·intro g hg
       simp only[spare] at hg
       split at hg
       ·rename_i hlt
        injection hg with hg
        subst hg
        refine .sl ei.size false [] _ 0 _ c.toNat _ e (by simp) hpos hlt hnew (by rw[size_madeCells,Nat.zero_add]) (by simp[Env.new,upd]) (fun b hb e'=>?_)
        have:=h.core.boxlt (b:=b) (h.core.n▸hb)
        have e'':E.μ b=E.w.heap.size:=e'
        omega
       ·cases hg
      ·intro g hg
       simp only[spare] at hg
       split at hg
       ·injection hg with hg
        subst hg
        refine ⟨fun t _ hs'=>?_,fun b i hs'=>?_,.inl h.size⟩
        ·exact absurd (h.tlt hs') (Nat.lt_irrefl _)
        ·have:=h.core.lt (cellSp_congr (E:=E) (E':=E.new (madeCells z.cells (c.toNat*ei.size)) e 0) (fun b hb=>⟨rfl,heap_alloc_old E.w _ (h.core.boxlt hb)⟩) hs')
         exact absurd this (Nat.lt_irrefl _)
       ·cases hg
     ·cases hm
   ·cases hm
  ·cases hm
 ·cases hm

theorem V.pureMs {E:Env} {ag:Bool} {sz b off len:Nat} {v:Value} (h:V E (.ms ag sz b off len) v):b<E.n:=by
 cases h<;>assumption

theorem grow_run (hty:TysOk P C) {x y:Operand} {st yt e:Nat} {T:TI} {ei:TI} (hT:C.ty st=some T) (hTu:T.u=.slice e) (he:C.ty e=some ei)
  (hop:o.op=.call { callee:=.builtin .append,args:=#[x,y],argTypes:=#[st,yt] }) {base:Option Addr} {n m cap:Nat} (hX:a.eval x=.slice base n cap)
  {olds:List Value} (hfc:(Builtin.firstCells ei.size n (.slice base n cap)).run P E.w.drew=.ok olds.toArray E.w.drew) (hol:olds.length=n*ei.size)
  {news:List Value} (hsrc:Src P ei.size yt (a.eval y) m news E.w) (hby:ei.bytes≤256) (hzl:layable ei.zero=true) (hzc:ei.zero.cells.length=ei.size) (hlim:n+m≤LIM) (hg:cap<n+m) :
  ∃ cp vs,(execOp a.eval o).run P E.w=.ok (.value (.slice (some ⟨E.w.heap.size,0,none⟩) (n+m) cp)) (E.w.drew.alloc (.cells vs e))∧vs.size=cp*ei.size∧n+m≤cp∧∀ (j:Nat) u,(olds++news)[j]?=some u→vs[j]?=some u:=by
 obtain ⟨i,hi,his,hib,z,hz,hzV⟩:=(hty _ _ he).i
 have hu:P.underlying st=some (.slice e):=by have:=(hty _ _ hT).u; rw[hTu] at this; exact this
 have hlim':n+m≤549755813888:=hlim
 have hby':(n+m)*i.bytes≤140737488355328:=by
  rw[hib]
  exact Nat.le_trans (Nat.mul_le_mul hlim' hby) (by decide)
 have hrun:=run_append_grow_src (P:=P) E.w st yt o.type e i z hu hi hz base n cap olds (by rw[his]; exact hfc) (a.eval y) m news (by rw[his]; exact hsrc) hg (by omega) (growslice_fits (by omega) hby')
 generalize hcp:grownCap E.w (n+m) cap e=cp at hrun
 have hge:n+m≤cp:=hcp▸grownCap_ge _ _ _ _
 have hzsz:z.cells.size=ei.size:=by rw[← (Row.of_layable hzl (hzV E)).len,hzc]
 refine ⟨cp,(olds++news).toArray++Builtin.zeroCells z.cells (cp - (n+m)),?_,?_,hge,?_⟩
 ·unfold execOp
  simp only[hop,resolve,invoke,builtin,Sem.run_bind,Sem.run_pure,Result.andThen_ok,List.map_toArray,List.map_cons,List.map_nil,hX,hrun]
 ·rw[Array.size_append,size_zeroCells,List.size_toArray,List.length_append,hol,hsrc.newsLen,hzsz,← Nat.add_mul,← Nat.add_mul]
  congr 1
  omega
 ·intro j u hj
  have hlt:=(List.getElem?_eq_some_iff.1 hj).1
  rw[Array.getElem?_append_left (by simpa using hlt)]
  simpa using hj

theorem RowP.of_prefix {cs:List AV} {l:List Value} {vs:Array Value} (h:Row E cs l.toArray) (hp:∀ (j:Nat) u,l[j]?=some u→vs[j]?=some u):RowP E cs vs:=by
 have hl:cs.length=l.length:=by simpa using h.len
 refine ⟨?_,h.one,fun i c x hc hx=>?_⟩
 ·cases hn:l.length with
  | zero=>omega
  | succ k =>
   have h1:=hp k l[k] (List.getElem?_eq_getElem (by omega))
   have:=(Array.getElem?_eq_some_iff.1 h1).1
   omega
 ·have hlt:=(List.getElem?_eq_some_iff.1 hc).1
  have h1:l[i]?=some l[i]:=List.getElem?_eq_getElem (by omega)
  have h2:=hp i _ h1
  rw[hx] at h2
  cases h2
  exact h.v i c _ hc (by simp)

theorem RowO.of_prefix {o:Nat} {cs:List AV} {l:List Value} {vs:Array Value} (h:Row E cs l.toArray) (hl:o+l.length≤vs.size) (hp:∀ (j:Nat) u,l[j]?=some u→vs[o+j]?=some u):RowO E o cs vs:=by
 refine ⟨?_,h.one,?_⟩
 ·have:=h.len; simp at this; omega
 ·intro i c x hc hx
  have hi:i<l.length:=by
   have:=(List.getElem?_eq_some_iff.1 hc).1
   have:=h.len; simp at this; omega
  have h1:=hp i _ (List.getElem?_eq_getElem hi)
  rw[h1] at hx
  cases hx
  exact h.v i c _ hc (by simp)

theorem grow_box (h:Inv E0 s0 nt E f a) (hdst:∀ i,o.dst=some i→i<nt) {cs:List AV} {vs:Array Value} {e n cp sz:Nat} {ag:Bool}
  (hrun:(execOp a.eval o).run P E.w=.ok (.value (.slice (some ⟨E.w.heap.size,0,none⟩) n cp)) (E.w.drew.alloc (.cells vs e))) (hs:vs.size=cp*sz) (hn:n≤cp) (hr:RowP E cs vs) :
  OpDone P E0 s0 nt E a o { f.put o.dst (.ms ag sz f.s.n 0 n) false with s:=f.s.push cs }:=by
 have h2:=h.same E.w.drew rfl rfl rfl rfl
 have h3:=h2.push (cs:=cs) (vs:=vs) (RowP.le (E:=E) (E':={ E with w:=E.w.drew }) ⟨Nat.le_refl _,fun _ _=>rfl,fun _=>Nat.le_refl _,fun _ _ _=>rfl,fun _ _=>rfl⟩ hr) e
 refine ⟨Env.push { E with w:=E.w.drew } vs e,_,_,hrun,.inl rfl,?_⟩
 rw[push_put]
 refine h3.put0 hdst ?_
 have hμ:(Env.push { E with w:=E.w.drew } vs e).μ f.s.n=E.w.heap.size:=by simp[Env.push,upd,h.core.n]
 refine .msN (by simp[Env.push,h.core.n]) hμ (by simp[Env.off,Env.push,upd,h.core.n]) hn ?_
 simp only[Env.sz,Env.push,upd,h.core.n,if_true]
 omega

theorem appM_ok (hty:TysOk P C) (h:Inv E0 s0 nt E f a) (hdst:∀ i,o.dst=some i→i<nt) {x y:Operand} {st yt e:Nat} {T:TI} {ei:TI} (hT:C.ty st=some T) (hTu:T.u=.slice e) (he:C.ty e=some ei)
  (hop:o.op=.call { callee:=.builtin .append,args:=#[x,y],argTypes:=#[st,yt] }) (hm:appM C f o ei yt (evalO f.tm x) (evalO f.tm y)=some f'):OpDone P E0 s0 nt E a o f':=by
 have hVx:=evalO_ok h.v x
 unfold appM at hm
 split at hm
 ·rename_i ag sz b off len hxe
  rw[hxe] at hVx
  split at hm
  ·rename_i ys hys
   split at hm
   ·rename_i cs hcs
    split at hm
    ·rename_i hc
     obtain ⟨rfl,hag,rfl,hlen,hro,hpos,hby,hzl,hzc,hlim⟩:=hc
     cases hm
     obtain ⟨hyz,news,hsrc,hyr⟩:=appSrc_ok (P:=P) hty (hty _ _ he) hys (evalO_ok h.v y)
     have hyl:news.length=ys.length*ei.size:=hsrc.newsLen
     obtain ⟨i,hi,his,_⟩:=(hty _ _ he).i
     have hu:P.underlying st=some (.slice e):=by have:=(hty _ _ hT).u; rw[hTu] at this; exact this
     have hb:b<f.s.n:=by
      have:=hVx.pureMs
      rw[h.core.n] at this
      exact this
     obtain ⟨cur,T0,hcur,hcp,hrow,hpr⟩:=h.core.box b cs hb hcs
     have hk:=h.kill b
     have hcl:=hrow.len
     have hR0:Row E (cs.take (len*ei.size)) ((cur.toList.drop (E.off b)).take (len*ei.size)).toArray:=by
      refine ⟨by simp; omega,?_,?_⟩
      ·intro i c hc
       rw[List.getElem?_take] at hc
       split at hc
       ·exact hrow.one i c hc
       ·cases hc
      ·intro i c x hc hx
       simp only[List.getElem?_toArray] at hx
       rw[List.getElem?_take] at hc hx
       split at hc
       ·rename_i hi
        rw[if_pos hi,List.getElem?_drop] at hx
        exact hrow.v i c x hc (by simpa using hx)
       ·cases hc
     have hR:Row E (cs.take (len*ei.size)++flatA ys) ((cur.toList.drop (E.off b)).take (len*ei.size)++news).toArray:=hR0.append hyr
     have hol:((cur.toList.drop (E.off b)).take (len*ei.size)).length=len*ei.size:=by simp; omega
     generalize hX:a.eval x=X at hVx
     have hone:∀ b' cs',b'<f.s.n→(f.s.kill b).h b'=some cs'→E.μ b'≠E.μ b:=by
      intro b' cs' hb' hc' e'
      have hc2:(if b'=b then none else f.s.h b')=some cs':=hc'
      by_cases e1:b'=b
      ·rw[if_pos e1] at hc2; cases hc2
      ·rw[if_neg e1] at hc2; exact e1 (h.core.two hb' hb hc2 hcs e')
     cases hVx with
     | ms _ _ _ _ _ cap _ hlc hcap =>
      by_cases hroom:len+ys.length≤cap
      ·have hle:len*ei.size+ys.length*ei.size≤cap*ei.size:=by rw[← Nat.add_mul]; exact Nat.mul_le_mul_right _ hroom
       have hfit:E.off b+len*ei.size+news.length≤cur.size:=by rw[hyl,hcp]; omega
       have hrun:=run_append_room_row (P:=P) E.w st yt o.type e i hu hi (E.μ b) (E.off b) len cap (a.eval y) ys.length news (by rw[his]; exact hsrc) hroom cur T0 hcur (by rw[his]; exact hfit)
       rw[his] at hrun
       have h2:=hk.re (k:=0) (cs:=cs.take (len*ei.size)++flatA ys) (vs:=(cur.toList.take (E.off b+len*ei.size)++news++cur.toList.drop (E.off b+len*ei.size+news.length)).toArray) hb hro hcur hcp hpr hone (by simp; omega)
        (RowO.of_prefix hR (by simp; omega) (fun j u hj=>by
         simp only[List.getElem?_toArray,Nat.add_zero]
         have ht:(cur.toList.take (E.off b+len*ei.size)).length=E.off b+len*ei.size:=by simp; omega
         by_cases hlt:j<len*ei.size
         ·rw[List.getElem?_append_left (by omega)] at hj
          rw[List.append_assoc,List.getElem?_append_left (by omega),List.getElem?_take_of_lt (by omega)]
          rw[List.getElem?_take_of_lt hlt,List.getElem?_drop] at hj
          exact hj
         ·rw[List.getElem?_append_right (by omega),hol] at hj
          have hj2:=(List.getElem?_eq_some_iff.1 hj).1
          rw[List.append_assoc,List.getElem?_append_right (by omega),ht,List.getElem?_append_left (by omega),show E.off b+j - (E.off b+len*ei.size)=j - len*ei.size by omega]
          exact hj))
       refine ⟨E.re b 0 (cur.toList.take (E.off b+len*ei.size)++news++cur.toList.drop (E.off b+len*ei.size+news.length)).toArray,.value (.slice (some ⟨E.μ b,E.off b,none⟩) (len+ys.length) cap),.slice (some ⟨E.μ b,E.off b,none⟩) (len+ys.length) cap,?_,.inl rfl,?_⟩
       ·unfold execOp
        simp only[hop,resolve,invoke,builtin,Sem.run_bind,Sem.run_pure,Result.andThen_ok,List.map_toArray,List.map_cons,List.map_nil,hX,Nat.add_zero,hrun]
        rfl
       ·rw[push_put]
        refine h2.put0 hdst ?_
        refine .msN (by simp[Env.re,h.core.n]) (by simp[Env.re,upd,h.core.n]) (by simp[Env.off,Env.re,upd,h.core.n]) hroom ?_
        simp only[Env.sz,Env.re,upd,h.core.n,if_true]
        omega
      ·obtain ⟨cp,vs,g1,g2,g3,g4⟩:=grow_run (P:=P) (E:=E) hty hT hTu he hop hX (olds:=(cur.toList.drop (E.off b)).take (len*ei.size))
        (run_firstCells_some E.w.drew ei.size len ⟨E.μ b,E.off b+0,none⟩ len cap _ hol (fun j u hj=>by
         rw[addr_add,Nat.add_zero]
         rw[List.getElem?_take,List.getElem?_drop] at hj
         split at hj
         ·show E.w.cell? _=_
          simp only[World.cell?,hcur,Option.isSome_none,Bool.false_eq_true,if_false]
          simpa using hj
         ·cases hj)) hol hsrc hby hzl hzc hlim (by omega)
       have hfin:=grow_box (ag:=ag) (f:={ f with s:=f.s.kill b }) hk hdst g1 g2 g3 (RowP.of_prefix hR g4)
       rw[push_put] at hfin ⊢
       exact hfin
     | msE _ _ _ _ A _ hA =>
      by_cases hroom:ys.length=0
      ·have hys0:ys=[]:=List.eq_nil_of_length_eq_zero hroom
       subst hys0
       have hn0:news=[]:=List.eq_nil_of_length_eq_zero (by rw[hyl]; simp)
       subst hn0
       have hrun:(Builtin.append_ #[st,yt] o.type #[.slice A 0 0,a.eval y]).run P E.w=.ok (.slice A 0 0) E.w:=by
        cases A with
        | none=>exact run_append_none (P:=P) E.w st yt o.type e i hu hi 0 (a.eval y) [] (by rw[his]; exact hsrc)
        | some A =>
         have hl0:∀ w':World,(Builtin.lenOf (a.eval y)).run P w'=.ok 0 w':=hsrc.len
         have hc0:(Builtin.firstCells ei.size 0 (a.eval y)).run P E.w=.ok #[] E.w:=hsrc.cells
         rcases hsrc.kind with ⟨e',hk'⟩ | hk'<;>simp[Builtin.append_,run_underlying hu,run_underlying hk',Go.sizeOf,typeInfo,hi,hl0,his,hc0,storeCells]
       have h2:=hk.re (k:=0) (cs:=cs.take (0*ei.size)++flatA []) (vs:=cur) hb hro hcur hcp hpr hone rfl (by simp[flatA]; exact ⟨by have:=hrow.len; simp; omega,by simp,by simp⟩)
       refine ⟨E.re b 0 cur,.value (.slice A 0 0),.slice A 0 0,?_,.inl rfl,?_⟩
       ·unfold execOp
        simp only[hop,resolve,invoke,builtin,Sem.run_bind,Sem.run_pure,Result.andThen_ok,List.map_toArray,List.map_cons,List.map_nil,hX,hrun]
        show Result.ok _ E.w=Result.ok _ (E.w.setRow (E.μ b) cur)
        rw[setRow_self E.w (E.μ b) cur T0 (0,0) hcur]
       ·rw[push_put]
        refine h2.put0 hdst ?_
        exact .msE _ _ _ _ A (by simp[Env.re,h.core.n]) hA
      ·obtain ⟨cp,vs,g1,g2,g3,g4⟩:=grow_run (P:=P) (E:=E) hty hT hTu he hop hX (olds:=(cur.toList.drop (E.off b)).take (0*ei.size))
        (by
         rw[Nat.zero_mul]
         cases A with
         | none=>exact run_firstCells_none _ _ _ _ _
         | some A=>exact run_firstCells_some E.w.drew ei.size 0 A 0 0 [] (by simp) (by simp)) hol hsrc hby hzl hzc hlim (by omega)
       have hfin:=grow_box (ag:=ag) (f:={ f with s:=f.s.kill b }) hk hdst g1 g2 g3 (RowP.of_prefix hR g4)
       rw[push_put] at hfin ⊢
       exact hfin
    ·cases hm
   ·cases hm
  ·cases hm
 ·cases hm

theorem appendM_ok (hty:TysOk P C) (h:Inv E0 s0 nt E f a) (hdst:∀ i,o.dst=some i→i<nt) {args:Array Operand} {argTypes:Array TypeId} (hop:o.op=.call { callee:=.builtin .append,args:=args,argTypes:=argTypes })
  (hm:memOp C I o f=some f'):OpDone P E0 s0 nt E a o f':=by
 unfold memOp at hm
 simp only[hop] at hm
 split at hm
 ·rename_i x y st yt hA hB
  have hA':args=#[x,y]:=by rw[← Array.toArray_toList (xs:=args),hA]
  have hB':argTypes=#[st,yt]:=by rw[← Array.toArray_toList (xs:=argTypes),hB]
  subst hA'; subst hB'
  split at hm
  ·rename_i e _ _ _ hT
   split at hm
   ·rename_i ei sz xs hE hmay
    split at hm
    ·rename_i ys hys
     split at hm
     ·rename_i hc
      obtain ⟨hsz,hpos,hby,hzl,hzc⟩:=hc
      split at hm
      ·rename_i hlim
       obtain ⟨hyz,news,hsrc,hyr⟩:=appSrc_ok (P:=P) hty (hty _ _ hE) hys (evalO_ok h.v y)
       have hVx:=evalO_ok h.v x
       obtain ⟨fl,hxe,hfl⟩:∃ fl,evalO f.tm x=.sl sz fl xs∧(fl=false→∃ t,x=.tmp t∧f.os t=true):=by
        unfold mayApp at hmay
        split at hmay
        ·rename_i hxe; cases hmay; exact ⟨true,hxe,by simp⟩
        ·rename_i hxe
         split at hmay
         ·split at hmay
          ·cases hmay; exact ⟨false,hxe,fun _=>⟨_,rfl,‹_›⟩⟩
          ·cases hmay
         ·cases hmay
        ·cases hmay
       rw[hxe] at hVx
       generalize hX:a.eval x=X at hVx
       have hVx':=hVx
       obtain ⟨i,hi,his,_⟩:=(hty _ _ hE).i
       have hu:P.underlying st=some (.slice e):=(hty _ _ hT).u
       split at hm
       ·split at hm
        ·rename_i hfull
         cases hm
         simp only[Bool.and_eq_true,Bool.not_eq_true',isFull,hxe,List.isEmpty_eq_false_iff] at hfull
         obtain ⟨rfl,hyne⟩:=hfull
         have hyp:0<ys.length:=List.length_pos_iff.2 hyne
         cases hVx with
         | slNil =>
          rename_i A
          obtain ⟨cp,vs,g1,g2,g3,g4⟩:=grow_run (P:=P) (E:=E) (n:=0) (m:=ys.length) hty hT rfl hE hop hX (olds:=[]) (firstCells_nil _ A) (by simp) hsrc hby hzl hzc (by simpa using hlim) (by omega)
          have:=grow_box (ag:=ei.isAgg) h hdst g1 g2 g3 (RowP.of_prefix (cs:=flatA ([]++ys)) (l:=[]++news) (by simpa using hyr) g4)
          simpa using this
         | sl _ _ _ g off cap vals k1 k2 k3 k4 k5 k6 k7 =>
          obtain ⟨q1,q2,q3,q4,ol,q5,q6,q7⟩:=hVx'.flat
          have hxz:∀ el∈xs,el.cells.length=ei.size:=by
           rcases hsz with e1 | ⟨_,e2⟩
           ·rw[← e1]; exact q1
           ·rw[e2]; simp
          have hol:ol.length=xs.length*ei.size:=by
           have:=q5.len
           rw[flat_len hxz] at this
           simpa using this.symm
          have hcap:=q4 rfl
          obtain ⟨cp,vs,g1,g2,g3,g4⟩:=grow_run (P:=P) (E:=E) (n:=xs.length) (m:=ys.length) hty hT rfl hE hop hX (olds:=ol)
           (run_firstCells_some E.w.drew ei.size xs.length ⟨g,off,none⟩ xs.length cap ol hol (fun j u hj=>by rw[addr_add]; exact q6 j u hj)) hol hsrc hby hzl hzc hlim (by omega)
          exact grow_box h hdst g1 g2 g3 (RowP.of_prefix (by rw[← flat,flat_append]; exact q5.append hyr) g4)
        ·rename_i hnf
         split at hm
         ·rename_i hfe
          cases hm
          simp only[Bool.and_eq_true,List.isEmpty_iff,isFull,hxe] at hfe
          obtain ⟨rfl,rfl⟩:=hfe
          have hys0:ys=[]:=by simpa[isFull,hxe] using hnf
          subst hys0
          obtain ⟨A,hXA⟩:∃ A,X=.slice A 0 0:=by
           cases hVx with
           | slNil=>exact ⟨_,rfl⟩
           | sl _ _ _ g off cap vals k1 k2=>exact ⟨_,by rw[k2 rfl]; rfl⟩
          subst hXA
          have hr:=run_append_nil (P:=P) E.w st yt o.type e i hu hi A (a.eval y) news (by rw[his]; exact hsrc)
          refine ⟨E,.value (.slice A 0 0),.slice A 0 0,?_,.inl rfl,?_⟩
          ·unfold execOp
           simp only[hop,resolve,invoke,builtin,Sem.run_bind,Sem.run_pure,Result.andThen_ok,List.map_toArray,List.map_cons,List.map_nil,hX,hr]
          ·exact h.put0 hdst (.slNil _ _ _)
         ·cases hm
       cases hm
       cases hVx with
       | slNil =>
        by_cases hy0:ys.length=0
        ·have hys0:ys=[]:=List.eq_nil_of_length_eq_zero hy0
         subst hys0
         rename_i A
         have hr:=run_append_nil (P:=P) E.w st yt o.type e i hu hi A (a.eval y) news (by rw[his]; exact hsrc)
         refine ⟨E,.value (.slice A 0 0),.slice A 0 0,?_,.inl rfl,?_⟩
         ·unfold execOp
          simp only[hop,resolve,invoke,builtin,Sem.run_bind,Sem.run_pure,Result.andThen_ok,List.map_toArray,List.map_cons,List.map_nil,hX,hr]
         ·exact (h.drop (clearO_le _ _)).put hdst (.slNil _ _ _) (fun _=>⟨fun g hg=>by cases A<;>simp[spare] at hg,fun g hg=>by cases A<;>simp[spare] at hg⟩)
        ·rename_i A
         exact append_grow (xs:=[]) hty h hT rfl hE hop hdst (base:=A) (cap:=0) hX (olds:=[]) (firstCells_nil _ A) (by simp) ⟨rfl,by simp[flat,flatA],by simp[flat,flatA]⟩ hsrc hyz hyr hpos hby hzl hzc hlim (by simp; omega)
       | sl _ _ _ g off cap vals k1 k2 k3 k4 k5 k6 k7 =>
        obtain ⟨q1,q2,q3,q4,ol,q5,q6,q7⟩:=hVx'.flat
        by_cases hroom:xs.length+ys.length≤cap
        ·by_cases hlt:xs.length<cap
         ·have hff:fl=false:=by cases fl with
           | false=>rfl
           | true=>have:=q4 rfl; omega
          obtain ⟨t,hxt,hos⟩:=hfl hff
          have hsze:sz=ei.size:=by
           rcases hsz with e1 | ⟨e1,e2⟩
           ·exact e1
           ·exfalso
            have hh:=h.held t hos
            have e3:a.tmps.getD t undef=.slice (some ⟨g,off,none⟩) xs.length cap:=by rw[hxt] at hX; exact hX
            have e4:f.tm t=.sl sz fl xs:=by rw[hxt] at hxe; exact hxe
            rw[e3,e4] at hh
            have:=hh g (by simp[spare,hlt])
            cases this with
            | sl _ _ _ _ _ _ _ _ _ hz=>omega
          subst hsze
          exact append_room (fl:=fl) hty h hT rfl hE hop hdst hxt (by rw[hxt] at hxe; exact hxe) hos hX hlt hsrc hyz hyr hroom
         ·have hy0:ys.length=0:=by omega
          have hys0:ys=[]:=List.eq_nil_of_length_eq_zero hy0
          subst hys0
          have hn0:news=[]:=List.eq_nil_of_length_eq_zero (by rw[hsrc.newsLen]; simp)
          subst hn0
          have hr:=run_append_room_src (P:=P) E.w st yt o.type e i hu hi g off xs.length cap (a.eval y) 0 [] (by rw[his]; exact hsrc) (by omega) (by simp) (by simp)
          refine ⟨E,.value (.slice (some ⟨g,off,none⟩) xs.length cap),.slice (some ⟨g,off,none⟩) xs.length cap,?_,.inl rfl,?_⟩
          ·unfold execOp
           simp only[hop,resolve,invoke,builtin,Sem.run_bind,Sem.run_pure,Result.andThen_ok,List.map_toArray,List.map_cons,List.map_nil,hX,hr]
           rfl
          ·refine (h.drop (clearO_le _ _)).put hdst ?_ (fun _=>⟨fun g hg=>by simp[spare,hlt] at hg,fun g hg=>by simp[spare,hlt] at hg⟩)
           rw[List.append_nil]
           exact hVx'.slSz (hsz.imp id And.right) (by simp)
        ·have hxz:∀ el∈xs,el.cells.length=ei.size:=by
          rcases hsz with e1 | ⟨_,e2⟩
          ·rw[← e1]; exact q1
          ·rw[e2]; simp
         have hol:ol.length=xs.length*ei.size:=by
          have:=q5.len
          rw[flat_len hxz] at this
          simpa using this.symm
         exact append_grow hty h hT rfl hE hop hdst (base:=some ⟨g,off,none⟩) (cap:=cap) hX (olds:=ol)
          (run_firstCells_some E.w.drew ei.size xs.length ⟨g,off,none⟩ xs.length cap ol hol (fun j u hj=>by rw[addr_add]; exact q6 j u hj)) hxz q5 hsrc hyz hyr hpos hby hzl hzc hlim (by omega)
      ·cases hm
     ·cases hm
    ·cases hm
   ·rename_i ei hE _
    split at hm
    ·exact appM_ok hty h hdst hT rfl hE hop hm
    ·cases hm
   ·cases hm
  ·cases hm
 ·cases hm

theorem buildM_ok (hty:TysOk P C) (h:Inv E0 s0 nt E f a) (hdst:∀ i,o.dst=some i→i<nt) {t len:Nat} {parts:Array (Nat × Operand)} (hop:o.op=.buildSlice t len parts) (hm:memOp C I o f=some f'):OpDone P E0 s0 nt E a o f':=by
 unfold memOp at hm
 simp only[hop] at hm
 split at hm
 ·split at hm
  ·rename_i e _ _ _ hT
   have hu:P.underlying t=some (.slice e):=(hty _ _ hT).u
   split at hm
   ·rename_i ei hE
    split at hm
    ·rename_i hlim
     split at hm
     ·rename_i els hels
      cases hm
      obtain ⟨vs',r1,r2,r3,r4,r5⟩:=build_run hty h hop hu hE hlim hels
      refine ⟨E.push vs' e,_,_,r1,.inl rfl,?_⟩
      rw[push_put]
      refine (h.push (show Row E (flatA els) vs' from r3).toP e).put0 hdst ?_
      have hμ:(E.push vs' e).μ f.s.n=E.w.heap.size:=by simp[Env.push,upd,h.core.n]
      exact .msN (by simp[Env.push,h.core.n]) hμ (by simp[Env.off,Env.push,upd,h.core.n]) (Nat.le_refl _) (by simp[Env.sz,Env.push,upd,h.core.n,r2])
     ·cases hm
    ·cases hm
   ·cases hm
  ·cases hm
 ·cases hm

theorem memOp_ok (hty:TysOk P C) (h:Inv E0 s0 nt E f a) (hdst:∀ i,o.dst=some i→i<nt) (hm:memOp C I o f=some f'):OpDone P E0 s0 nt E a o f':=by
 have hm':=hm
 unfold memOp at hm
 split at hm
 ·rename_i hop; exact alloc_ok hty h hdst hop hm'
 ·rename_i hop; exact boxM_ok hty h hdst hop hm'
 ·rename_i hop; exact loadM_ok hty h hdst hop hm'
 ·rename_i hop; exact store_ok hty h hop hm'
 ·rename_i hop; exact sliceM_ok hty h hdst hop hm'
 ·rename_i hop; exact buildM_ok hty h hdst hop hm'
 ·rename_i hop; exact appendM_ok hty h hdst hop hm'
 ·cases hm

theorem take_ok (h:Inv E0 s0 nt E f a) (hdst:∀ i,o.dst=some i→i<nt) (t:Nat):Inv E0 s0 nt E (({ f with os:=upd f.os t false }:Fr).put o.dst (f.tm t) (f.os t)) (a.put o.dst (a.tmps.getD t undef)):=by
 refine (h.drop (upd_le f.os t)).put hdst (h.v t) (fun hos=>⟨h.held t hos,fun g hg=>?_⟩)
 have htsp:TmpSp f a t g:=⟨hos,hg⟩
 refine ⟨fun t' _ hs=>?_,fun b i hs=>h.dc t b i g htsp hs,h.oT t g htsp⟩
 have h1:upd f.os t false t'=true:=hs.1
 have e:=h.dt t' t g ⟨upd_le f.os t t' h1,hs.2⟩ htsp
 subst e
 simp[upd] at h1

theorem cut_ok (hty:TysOk P C) (h:Inv E0 s0 nt E f a) (hdst:∀ i,o.dst=some i→i<nt) {ty t:Nat} {lo:Option Operand} (hop:o.op=.slice ty (.tmp t) lo none none) {v:AV} (hp:pureOp C o f.tm=some v) :
  OpDone P E0 s0 nt E a o (({ f with os:=upd f.os t false }:Fr).put o.dst v (f.os t)):=by
 obtain ⟨y,hy,hvy⟩:=pureOp_ok hty h.v hp
 have fin:(f.os t=true→Held E v y∧∀ g,spare v y=some g→TmpSp f a t g)→OpDone P E0 s0 nt E a o (({ f with os:=upd f.os t false }:Fr).put o.dst v (f.os t)):=by
  intro hh
  refine ⟨E,_,y,hy,.inl rfl,(h.drop (upd_le f.os t)).put hdst hvy (fun hos=>⟨(hh hos).1,fun g hg=>?_⟩)⟩
  have htsp:=(hh hos).2 g hg
  refine ⟨fun t' _ hs=>?_,fun b i hs=>h.dc t b i g htsp hs,h.oT t g htsp⟩
  have h1:upd f.os t false t'=true:=hs.1
  have e:=h.dt t' t g ⟨upd_le f.os t t' h1,hs.2⟩ htsp
  subst e
  simp[upd] at h1
 cases hos:f.os t with
 | false =>
  have e:({ f with os:=upd f.os t false }:Fr)=f:=by
   have:upd f.os t false=f.os:=by funext j; simp only[upd]; split<;>simp_all
   rw[this]
  have:=OpDone.of_yld h hdst (pureOp_ok hty h.v hp)
  rw[e]
  exact this
 | true =>
  rw[← hos]
  refine fin fun _=>?_
  have hev:a.eval (.tmp t)=a.tmps.getD t undef:=rfl
  have hX:=h.v t
  have hh:=h.held t hos
  have nosp:(∀ y,spare v y=none)→Held E v y∧∀ g,spare v y=some g→TmpSp f a t g:=fun hn=>⟨fun g hg=>(by rw[hn] at hg; cases hg),fun g hg=>(by rw[hn] at hg; cases hg)⟩
  unfold pureOp at hp
  simp only[hop] at hp
  split at hp
  ·simp only[Option.isSome_none,Bool.false_eq_true,if_false] at hp
   unfold strSliceA at hp
   simp only[Option.bind_eq_some_iff,Option.map_eq_some_iff] at hp
   obtain ⟨_,_,_,_,rfl⟩:=hp
   exact nosp fun y=>by cases y<;>rfl
  ·rename_i e _ _ _ sz fl els hT hxe
   have hxe:f.tm t=.sl sz fl els:=hxe
   split at hp
   ·rename_i ei hE
    split at hp
    ·rename_i hsz
     unfold sliceA at hp
     simp only[Option.map_none,Option.bind_eq_some_iff,Option.map_eq_some_iff] at hp
     obtain ⟨hi,h1,l,h2,rfl⟩:=hp
     obtain rfl:hi=els.length:=by cases h1; rfl
     obtain ⟨h3,h4⟩:=low_ok (E:=E) (vo_map h.v lo) h2
     rw[hxe] at hX hh
     have hu:P.underlying ty=some (.slice e):=(hty _ _ hT).u
     have run:∀ {A:Option Addr} {cap:Nat},a.tmps.getD t undef=.slice A els.length cap→y=.slice (if cap=l then A else A.map (·.add (l*ei.size))) (els.length - l) (cap - l):=by
      intro A cap hA
      have hb:∀ w:World,(Instr.sliceBounds true els.length cap (lo.map a.eval) none none).run P w=.ok (l,els.length,cap) w:=fun w=>sliceBounds_run (.inl ⟨rfl,rfl⟩) (.inl ⟨rfl,rfl,rfl⟩) h4 w
      unfold execOp at hy
      simp only[hop,Option.map_none,hev,hA] at hy
      simp[Instr.sliceAt,underlying,hu,Instr.slice,hb,sizeOf_run (hty _ _ hE)] at hy
      exact hy.symm
     generalize hXX:a.tmps.getD t undef=X at hX hh run
     cases hX with
     | slNil _ _ A =>
      have e:=run rfl
      have:l=0:=by simpa using h3
      subst this
      have hn:spare (.sl sz (fl&&decide (List.length ([]:List AV)=List.length ([]:List AV))) ((([]:List AV).drop 0).take (List.length ([]:List AV) - 0))) y=none:=by rw[e]; cases A<;>simp[spare]
      exact ⟨fun g hg=>(by rw[hn] at hg; cases hg),fun g hg=>(by rw[hn] at hg; cases hg)⟩
     | sl _ _ _ g o cap vals hc hf hz h0 h1 h2 h3' =>
      have e:=run rfl
      subst e
      by_cases hml:cap=l
      ·have hn:∀ w:AV,spare w (.slice (if cap=l then some ⟨g,o,none⟩ else (some ⟨g,o,none⟩:Option Addr).map (·.add (l*ei.size))) (els.length - l) (cap - l))=none:=by
        intro w; rw[if_pos hml]; cases w<;>simp[spare]; omega
       exact ⟨fun g hg=>(by rw[hn] at hg; cases hg),fun g hg=>(by rw[hn] at hg; cases hg)⟩
      ·rw[if_neg hml]
       simp only[Option.map_some,addr_add]
       have key:∀ g',spare (.sl sz (fl&&decide (els.length=els.length)) ((els.drop l).take (els.length - l))) (.slice (some ⟨g,o+l*ei.size,none⟩) (els.length - l) (cap - l))=some g'→g'=g∧els.length<cap:=by
        intro g' hg'
        simp only[spare] at hg'
        split at hg'
        ·injection hg' with hg'; exact ⟨hg'.symm,by omega⟩
        ·cases hg'
       refine ⟨fun g' hg'=>?_,fun g' hg'=>?_⟩
       ·obtain ⟨rfl,hlt⟩:=key g' hg'
        have hs:=hh g' (by simp[spare,hlt])
        cases hs with
        | sl _ _ _ _ _ _ _ cur ce hl hz0 hc' hgc hs hp hb =>
         have hls:l*ei.size=l*sz:=by
          rcases hsz with e1 | e1
          ·rw[e1]
          ·have:els=[]:=by simpa using e1
           subst this
           have:l=0:=by simpa using h3
           rw[this]; simp
         rw[hls]
         refine .sl _ _ _ g' (o+l*sz) (els.length - l) (cap - l) cur ce (by simp) hz0 (by omega) hgc ?_ ?_ hb
         ·rw[hs,Nat.add_assoc,← Nat.add_mul,show l+(cap - l)=cap by omega]
         ·rw[Nat.add_assoc,← Nat.add_mul,show l+(els.length - l)=els.length by omega]; exact hp
       ·obtain ⟨rfl,hlt⟩:=key g' hg'
        exact ⟨hos,by rw[hxe,hXX]; simp[spare,hlt]⟩
    ·cases hp
   ·cases hp
  ·rename_i e _ _ _ ag sz b off len hT hxe
   split at hp
   ·split at hp
    ·simp only[Option.bind_eq_some_iff,Option.map_eq_some_iff] at hp
     obtain ⟨_,_,_,_,rfl⟩:=hp
     exact nosp fun y=>by cases y<;>rfl
    ·cases hp
   ·cases hp
  ·cases hp

theorem bndO_le {x:Option AV} {lim h:Nat} (h1:bndO x lim lim=some h):h≤lim:=by
 unfold bndO at h1
 split at h1
 ·unfold bnd at h1
  split at h1
  ·split at h1
   ·rename_i hh; cases h1; omega
   ·cases h1
  ·cases h1
 ·cases h1; exact Nat.le_refl _
theorem bndO_le0 {x:Option AV} {lim h:Nat} (h1:bndO x lim 0=some h):h≤lim:=by
 unfold bndO at h1
 split at h1
 ·unfold bnd at h1
  split at h1
  ·split at h1
   ·rename_i hh; cases h1; omega
   ·cases h1
  ·cases h1
 ·cases h1; exact Nat.zero_le _

theorem cutM_ok (hty:TysOk P C) (h:Inv E0 s0 nt E f a) (hdst:∀ i,o.dst=some i→i<nt) (hm:cutM C I o f=some f'):OpDone P E0 s0 nt E a o f':=by
 unfold cutM at hm
 rw[Option.map_eq_some_iff] at hm
 obtain ⟨r,hm,rfl⟩:=hm
 unfold cutV at hm
 split at hm
 ·rename_i t x lo hi hop
  split at hm
  ·split at hm
   ·rename_i ag sz b off len hx
    split at hm
    ·rename_i e _ _ _ cs hT hcs
     split at hm
     ·rename_i ei hE
      split at hm
      ·rename_i hc
       obtain ⟨hsz,rfl,hlen,hro⟩:=hc
       simp only[Option.bind_eq_some_iff,Option.map_eq_some_iff] at hm
       obtain ⟨hh,h1,l,h2,rfl⟩:=hm
       have hp:pureOp C o f.tm=some (.ms ag sz b (0+l*sz) (hh - l)):=by
        unfold pureOp
        simp only[hop,hT,hx,hE]
        rw[if_pos ⟨hsz,rfl⟩]
        simp only[h1,h2,Option.bind_some,Option.map_some]
       obtain ⟨y,hy,hvy⟩:=pureOp_ok hty h.v hp
       have hVx:=evalO_ok h.v x
       rw[hx] at hVx
       have hb:b<f.s.n:=by
        have:=hVx.pureMs
        rw[h.core.n] at this
        exact this
       obtain ⟨cur,T0,hcur,hcp,hrow,hpr⟩:=h.core.box b cs hb hcs
       have hk:=h.kill b
       have hone:∀ b' cs',b'<f.s.n→(f.s.kill b).h b'=some cs'→E.μ b'≠E.μ b:=by
        intro b' cs' hb' hc' e'
        have hc2:(if b'=b then none else f.s.h b')=some cs':=hc'
        by_cases e1:b'=b
        ·rw[if_pos e1] at hc2; cases hc2
        ·rw[if_neg e1] at hc2; exact e1 (h.core.two hb' hb hc2 hcs e')
       have hhl:hh≤len:=bndO_le h1
       have hll:l≤hh:=bndO_le0 h2
       have hmul:l*sz≤len*sz:=Nat.mul_le_mul_right _ (by omega)
       have h3:=hk.re (k:=l*sz) (cs:=(cs.drop (l*sz)).take ((hh - l)*sz)) (vs:=cur) hb hro hcur hcp hpr hone rfl (by
        have hcl:=hrow.len
        refine ⟨by rw[List.length_take,List.length_drop]; omega,?_,?_⟩
        ·intro i c hc
         rw[List.getElem?_take] at hc
         split at hc
         ·rw[List.getElem?_drop] at hc; exact hrow.one _ c hc
         ·cases hc
        ·intro i c x hc hx
         rw[List.getElem?_take] at hc
         split at hc
         ·rw[List.getElem?_drop] at hc
          exact hrow.v _ c x hc (by rw[← Nat.add_assoc]; exact hx)
         ·cases hc)
       have hw:E.w.setRow (E.μ b) cur=E.w:=setRow_self E.w (E.μ b) cur T0 (0,0) hcur
       refine ⟨E.re b (l*sz) cur,_,y,?_,.inl rfl,?_⟩
       ·show _=Result.ok _ (E.w.setRow (E.μ b) cur)
        rw[hw]; exact hy
       ·rw[push_put]
        refine h3.put0 hdst ?_
        generalize hlen2:hh - l=m at hvy
        cases hvy with
        | ms _ _ _ _ _ cap hb2 hcl hcp2 =>
         refine .msN (by simp[Env.re,h.core.n]) (by simp[Env.re,upd,h.core.n]) (by simp[Env.off,Env.re,upd,h.core.n]) hcl ?_
         simp only[Env.sz,Env.re,upd,h.core.n,if_true]
         omega
        | msE _ _ _ _ A _ hA=>exact .msE _ _ _ _ A (by simp[Env.re,h.core.n]) hA
      ·cases hm
     ·cases hm
    ·cases hm
   ·cases hm
  ·cases hm
 ·cases hm

theorem moveOp_ok (hty:TysOk P C) (h:Inv E0 s0 nt E f a) (hdst:∀ i,o.dst=some i→i<nt) (hm:moveOp C I o f=some f'):OpDone P E0 s0 nt E a o f':=by
 unfold moveOp at hm
 split at hm
 ·rename_i ty t lo hop
  split at hm
  ·rw[Option.map_eq_some_iff] at hm
   obtain ⟨v,hv,rfl⟩:=hm
   exact cut_ok hty h hdst hop hv
  ·exact cutM_ok hty h hdst hm
 ·rename_i t hop
  cases hm
  exact ⟨E,_,a.tmps.getD t undef,by unfold execOp; simp only[hop]; rfl,.inl rfl,take_ok h hdst t⟩
 ·rename_i t hop
  split at hm
  ·cases hm
   exact ⟨E,_,a.tmps.getD t undef,by unfold execOp; simp only[hop]; rfl,.inl rfl,take_ok h hdst t⟩
  ·cases hm
 ·exact cutM_ok hty h hdst hm

theorem opF_ok (hty:TysOk P C) (h:Inv E0 s0 nt E f a) (hdst:∀ i,o.dst=some i→i<nt) (hm:opF C I o f=some f'):OpDone P E0 s0 nt E a o f':=by
 unfold opF at hm
 cases h1:moveOp C I o f with
 | some f1=>rw[h1] at hm; cases hm; exact moveOp_ok hty h hdst h1
 | none =>
  rw[h1] at hm
  cases h2:pureOp C o f.tm with
  | some v=>rw[h2] at hm; cases hm; exact .of_yld h hdst (pureOp_ok hty h.v h2)
  | none =>
   rw[h2] at hm
   cases h3:makeOp C I o f.tm with
   | some v=>rw[h3] at hm; cases hm; exact makeOp_ok hty h hdst h3
   | none=>rw[h3] at hm; exact memOp_ok hty h hdst hm

end
end Ae
namespace Ae
open Go

theorem mapM_get {α β:Type} {g:α→Option β}:∀ {l:List α} {l':List β},l.mapM g=some l'→l'.length=l.length∧∀ (i:Nat) y,l'[i]?=some y→∃ x,l[i]?=some x∧g x=some y
 | [],l',h=>by
  simp at h; subst h
  exact ⟨rfl,by simp⟩
 | a::l,l',h=>by
  rw[List.mapM_cons] at h
  cases ha:g a with
  | none=>simp[ha] at h
  | some b =>
   cases hl:l.mapM g with
   | none=>simp[ha,hl] at h
   | some bs =>
    simp[ha,hl] at h
    subst h
    obtain ⟨h1,h2⟩:=mapM_get hl
    refine ⟨by simp[h1],?_⟩
    intro i y hi
    cases i with
    | zero=>simp at hi; subst hi; exact ⟨a,rfl,ha⟩
    | succ i=>simpa using h2 i y (by simpa using hi)

theorem mapM_fwd {α β:Type} {g:α→Option β} {l:List α} {l':List β} (h:l.mapM g=some l') {i:Nat} {x:α} (hx:l[i]?=some x):∃ y,l'[i]?=some y∧g x=some y:=by
 obtain ⟨h1,h2⟩:=mapM_get h
 have hlt:=(List.getElem?_eq_some_iff.1 hx).1
 have hy:l'[i]?=some l'[i]:=List.getElem?_eq_getElem (by omega)
 obtain ⟨x',k1,k2⟩:=h2 i _ hy
 rw[hx] at k1
 cases k1
 exact ⟨_,hy,k2⟩

mutual
theorem canonB_pure {n:Nat}:∀ (v:AV),v.canonB n=true→v.pureB n=true
 | .ptr b _,k=>by simpa[AV.canonB,AV.pureB] using k
 | .ms _ _ b _ _,k=>by simpa[AV.canonB,AV.pureB] using k
 | .eptr cs _,k=>by simp only[AV.canonB] at k; simp only[AV.pureB]; exact canonL_pure cs k
 | .sl _ _ cs,k=>by simp only[AV.canonB,Bool.and_eq_true] at k; simp only[AV.pureB]; exact canonL_pure cs k.2
 | .agg cs,k=>by simp only[AV.canonB] at k; simp only[AV.pureB]; exact canonL_pure cs k
 | .tup cs,k=>by simp only[AV.canonB] at k; simp only[AV.pureB]; exact canonL_pure cs k
 | .fn _ cs,k=>by simp only[AV.canonB] at k; simp only[AV.pureB]; exact canonL_pure cs k
 | .pend _,k=>by simp[AV.canonB] at k
 | .undef,_ | .bool _,_ | .int _ _,_ | .str _,_ | .nilp,_ | .nilfn,_=>by simp[AV.pureB]
theorem canonL_pure {n:Nat}:∀ (l:List AV),AV.canonL n l=true→AV.pureL n l=true
 | [],_=>rfl
 | a::l,k=>by
  simp only[AV.canonL,AV.pureL,Bool.and_eq_true] at k ⊢
  exact ⟨canonB_pure a k.1,canonL_pure l k.2⟩
end

theorem pureL_get {n:Nat} {l:List AV} (h:AV.pureL n l=true) {i:Nat} {c:AV} (hc:l[i]?=some c):c.pureB n=true:=pureL_iff.1 h c (List.mem_of_getElem? hc)

theorem V.cut {E E':Env} {n:Nat} (hn:n≤E'.n) (hμ:∀ b,b<n→E'.μ b=E.μ b) (hpr:∀ g,E.pr g≤E'.pr g) (hcl:∀ g o,o<E.pr g→E'.w.cell? ⟨g,o,none⟩=E.w.cell? ⟨g,o,none⟩) (hcp:∀ b,b<n→E'.cp b=E.cp b) {a:AV} {v:Value} (h:V E a v) :
  a.pureB n=true→V E' a v:=by
 induction h with
 | undef v=>intro _; exact .undef v
 | bool b=>intro _; exact .bool b
 | int k n=>intro _; exact .int k n
 | str s=>intro _; exact .str s
 | nilp=>intro _; exact .nilp
 | ptr b off h =>
  intro hp
  simp only[AV.pureB,decide_eq_true_eq] at hp
  rw[← hμ b hp,← show E'.off b=E.off b by unfold Env.off; rw[hcp b hp]]; exact .ptr b off (by omega)
 | eptr cells off g o vals h0 h1 h2 h3 ih =>
  intro hp
  simp only[AV.pureB] at hp
  exact .eptr cells off g o vals h0 (fun j c hc=>Nat.lt_of_lt_of_le (h1 j c hc) (hpr g)) (fun j c hc=>(hcl _ _ (h1 j c hc)).trans (h2 j c hc)) (fun j c hc=>ih j c hc (pureL_get hp hc))
 | slNil sz f A=>intro _; exact .slNil sz f A
 | sl sz f els g o cap vals hc hf hz h0 h1 h2 h3 ih =>
  intro hp
  simp only[AV.pureB] at hp
  exact .sl sz f els g o cap vals hc hf hz h0 (fun i el j c a b=>Nat.lt_of_lt_of_le (h1 i el j c a b) (hpr g)) (fun i el j c a b=>(hcl _ _ (h1 i el j c a b)).trans (h2 i el j c a b))
   (fun i el j c a b=>ih i el j c a b (pureL_get (pureB_cells (pureL_get hp a)) b))
 | ms ag sz b off len cap h hc hk =>
  intro hp
  simp only[AV.pureB,decide_eq_true_eq] at hp
  have ho:E'.off b=E.off b:=by unfold Env.off; rw[hcp b hp]
  rw[← hμ b hp,← ho]; exact .ms ag sz b off len cap (by omega) hc (by rw[ho,show E'.sz b=E.sz b by unfold Env.sz; rw[hcp b hp]]; exact hk)
 | msE ag sz b off A h hA =>
  intro hp
  simp only[AV.pureB,decide_eq_true_eq] at hp
  exact .msE ag sz b off A (by omega) hA
 | agg cs vs hl h0 h ih =>
  intro hp
  simp only[AV.pureB] at hp
  exact .agg cs vs hl h0 (fun i c v a b=>ih i c v a b (pureL_get hp a))
 | tup cs vs hl h ih =>
  intro hp
  simp only[AV.pureB] at hp
  exact .tup cs vs hl (fun i c v a b=>ih i c v a b (pureL_get hp a))
 | fn g cs vs hl h ih =>
  intro hp
  simp only[AV.pureB] at hp
  exact .fn g cs vs hl (fun i c v a b=>ih i c v a b (pureL_get hp a))
 | nilfn=>intro _; exact .nilfn
 | pend sz g=>intro _; exact .pend sz g

theorem V.rows {E:Env} {sz:Nat} {fl:Bool} {rows:List AV} {g o cap:Nat} (X:Nat→Value)
  (h:∀ (i:Nat) r,rows[i]?=some r→V E r (X i)∧(r.one=true∨∃ cs,r=.agg cs)∧r.cells.length=sz∧∀ (j:Nat) u,(X i).cells[j]?=some u→E.w.cell? ⟨g,o+i*sz+j,none⟩=some u∧o+i*sz+j<E.pr g)
  (hc:rows.length≤cap) (hf:fl=true→cap=rows.length):V E (.sl sz fl rows) (.slice (some ⟨g,o,none⟩) rows.length cap):=by
 have key:∀ (i:Nat) r (j:Nat) c,rows[i]?=some r→r.cells[j]?=some c→c.one=true∧∃ u,(X i).cells[j]?=some u∧(X i).cells.getD j Go.undef=u∧V E c u:=by
  intro i r j c hr hj
  obtain ⟨h1,h2,h3,h4⟩:=h i r hr
  obtain ⟨k1,k2,k3⟩:=h1.cells h2
  have hlt:=(List.getElem?_eq_some_iff.1 hj).1
  have hu:(X i).cells[j]?=some ((X i).cells.getD j Go.undef):=by simp[Array.getD,show j<(X i).cells.size by omega]
  exact ⟨k2 j c hj,_,hu,rfl,k3 j c _ hj hu⟩
 refine .sl sz fl rows g o cap (fun i j=>(X i).cells.getD j Go.undef) hc hf ?_ ?_ ?_ ?_ ?_
 ·intro i r hr; exact (h i r hr).2.2.1
 ·intro i r j c hr hj; exact (key i r j c hr hj).1
 ·intro i r j c hr hj
  obtain ⟨_,u,hu,_⟩:=key i r j c hr hj
  exact ((h i r hr).2.2.2 j u hu).2
 ·intro i r j c hr hj
  obtain ⟨_,u,hu,e,_⟩:=key i r j c hr hj
  simp only[e]
  exact ((h i r hr).2.2.2 j u hu).1
 ·intro i r j c hr hj
  obtain ⟨_,u,hu,e,hv⟩:=key i r j c hr hj
  simp only[e]
  exact hv

theorem chunk_len (sz:Nat) (ag:Bool):∀ (n:Nat) (cs:List AV),(chunk sz ag cs n).length=n
 | 0,_=>rfl
 | n+1,cs=>by simp[chunk,chunk_len sz ag n]

theorem chunk_get (sz:Nat) (ag:Bool):∀ (n:Nat) (cs:List AV) (i:Nat),i<n→(chunk sz ag cs n)[i]?=some (if ag then .agg ((cs.drop (i*sz)).take sz) else (cs.drop (i*sz)).headD .undef)
 | 0,_,i,h=>by omega
 | n+1,cs,0,_=>by simp[chunk]
 | n+1,cs,i+1,h=>by
  rw[chunk,List.getElem?_cons_succ,chunk_get sz ag n (cs.drop sz) i (by omega),List.drop_drop]
  rw[show sz+i*sz=(i+1)*sz by rw[Nat.succ_mul]; omega]

open Classical in
noncomputable def Env.cut (E:Env) (n:Nat):Env :=
 { w:=E.w,pr:=fun g=>if ∃ b,n≤b∧b<E.n∧E.μ b=g then max (E.pr g) (match E.w.heap[g]? with | some (.cells c _ _)=>c.size | _=>0) else E.pr g,μ:=E.μ,n:=n,cp:=E.cp }

theorem Env.cut_pr {E:Env} {s:St} (hc:Core E s) (n g:Nat):E.pr g≤(E.cut n).pr g:=by
 unfold Env.cut
 simp only
 split
 ·exact Nat.le_max_left _ _
 ·exact Nat.le_refl _

theorem Env.cut_box {E:Env} {n b:Nat} (h1:n≤b) (h2:b<E.n) (h0:E.pr (E.μ b)=0) {cur:Array Value} {e:TypeId} {fr:Nat × Nat} (hb:E.w.heap[E.μ b]?=some (.cells cur e fr)):(E.cut n).pr (E.μ b)=cur.size:=by
 unfold Env.cut
 simp only
 rw[if_pos ⟨b,h1,h2,rfl⟩,hb,h0]
 exact Nat.max_eq_right (Nat.zero_le _)

theorem Env.cut_other {E:Env} {n g:Nat} (h:∀ b,b<E.n→E.μ b≠g):(E.cut n).pr g=E.pr g:=by
 unfold Env.cut
 simp only
 rw[if_neg]
 rintro ⟨b,_,hb,e⟩
 exact h b hb e

theorem V.cutE {E:Env} {s:St} (hc:Core E s) {n:Nat} {a:AV} {v:Value} (h:V E a v) (hp:a.pureB n=true):V (E.cut n) a v :=
 V.cut (E:=E) (E':=E.cut n) (n:=n) (Nat.le_refl _) (fun _ _=>rfl) (Env.cut_pr hc n) (fun _ _ _=>rfl) (fun _ _=>rfl) h hp

theorem fin_ok {E:Env} {s:St} (hc:Core E s) {n:Nat} (hn:n≤s.n):∀ (k:Nat) (v v':AV) (x:Value),V E v x→fin s n k v=some v' →
  V (E.cut n) v' x∧(v.one=true→v'.one=true)∧∀ cs,v=.agg cs→∃ cs',v'=.agg cs'∧cs'.length=cs.length:=by
 intro k
 induction k with
 | zero=>intro v v' x _ h; simp[fin] at h
 | succ k ih =>
  intro v v' x hV h
  unfold fin at h
  split at h
  ·rename_i hcan
   cases h
   exact ⟨hV.cutE hc (canonB_pure v hcan),id,fun cs e=>⟨cs,e,rfl⟩⟩
  ·rename_i hcan
   split at h
   ·-- a slice of fixed cells
    rename_i sz fl els
    rw[Option.map_eq_some_iff] at h
    obtain ⟨els',he,rfl⟩:=h
    refine ⟨?_,fun _=>rfl,fun cs e=>by cases e⟩
    cases hV with
    | slNil=>simp at he; subst he; exact .slNil sz false _
    | sl _ _ _ g o cap vals k1 k2 k3 k4 k5 k6 k7 =>
     obtain ⟨hlen,hget⟩:=mapM_get he
     rw[← hlen]
     refine V.rows (fun i=>match els[i]? with | some el=>if el.one then vals i 0 else .agg ((List.range sz).map (vals i)).toArray | none=>Go.undef) ?_ (by omega) (by simp)
     intro i r hr
     obtain ⟨el,hel,hfin⟩:=hget i r hr
     simp only[hel]
     have hshape:el.one=true∨∃ cs,el=.agg cs:=by
      cases hone:el.one with
      | true=>exact .inl rfl
      | false =>
       right
       cases el with
       | agg cs=>exact ⟨cs,rfl⟩
       | _=>have:=k4 i _ 0 _ hel rfl; rw[hone] at this; cases this
     rcases hshape with hone | ⟨cs,rfl⟩
     ·rw[if_pos hone]
      have hcs:=AV.cells_one hone
      have hVel:V E el (vals i 0):=k7 i el 0 el hel (by rw[hcs]; rfl)
      obtain ⟨f1,f2,_⟩:=ih el r (vals i 0) hVel hfin
      have h1':=f2 hone
      have hsz:sz=1:=by rw[← k3 i el hel,hcs]; rfl
      refine ⟨f1,.inl h1',by rw[AV.cells_one h1',hsz]; rfl,?_⟩
      intro j u hj
      rw[cells_one (hVel.one hone)] at hj
      cases j with
      | zero =>
       simp at hj; subst hj
       exact ⟨k6 i el 0 el hel (by rw[hcs]; rfl),Nat.lt_of_lt_of_le (k5 i el 0 el hel (by rw[hcs]; rfl)) (Env.cut_pr hc n g)⟩
      | succ j=>simp at hj
     ·rw[if_neg (by simp[AV.one])]
      have hlen':cs.length=sz:=k3 i _ hel
      have hVel:V E (.agg cs) (.agg ((List.range sz).map (vals i)).toArray):=by
       refine .agg cs _ (by simp[hlen']) (fun j c hc'=>k4 i _ j c hel hc') ?_
       intro j c u hc' hu
       have hj:j<sz:=by have:=(List.getElem?_eq_some_iff.1 hc').1; omega
       simp[hj] at hu
       subst hu
       exact k7 i _ j c hel hc'
      obtain ⟨f1,_,f3⟩:=ih _ r _ hVel hfin
      obtain ⟨cs',rfl,hl'⟩:=f3 cs rfl
      refine ⟨f1,.inr ⟨cs',rfl⟩,by show cs'.length=sz; omega,?_⟩
      intro j u hj
      have hj':j<sz:=by
       have:=(Array.getElem?_eq_some_iff.1 hj).1
       simpa[Value.cells] using this
      have hu:vals i j=u:=by simpa[Value.cells,hj'] using hj
      subst hu
      have hcj:cs[j]?=some (cs[j]'(by omega)):=List.getElem?_eq_getElem (by omega)
      exact ⟨k6 i _ j _ hel hcj,Nat.lt_of_lt_of_le (k5 i _ j _ hel hcj) (Env.cut_pr hc n g)⟩
   ·rename_i cs
    rw[Option.map_eq_some_iff] at h
    obtain ⟨cs',he,rfl⟩:=h
    obtain ⟨hlen,hget⟩:=mapM_get he
    refine ⟨?_,fun e=>by simp[AV.one] at e,fun cs0 e=>by cases e; exact ⟨cs',rfl,hlen⟩⟩
    cases hV with
    | agg _ vs hl h0 hv =>
     refine .agg cs' vs (by omega) (fun i c hc'=>?_) (fun i c u hc' hu=>?_)
     ·obtain ⟨c0,e1,e2⟩:=hget i c hc'
      have hlt:=(List.getElem?_eq_some_iff.1 e1).1
      exact (ih c0 c _ (hv i c0 _ e1 (Array.getElem?_eq_getElem (by omega))) e2).2.1 (h0 i c0 e1)
     ·obtain ⟨c0,e1,e2⟩:=hget i c hc'
      exact (ih c0 c u (hv i c0 u e1 hu) e2).1
   ·rename_i cs
    rw[Option.map_eq_some_iff] at h
    obtain ⟨cs',he,rfl⟩:=h
    obtain ⟨hlen,hget⟩:=mapM_get he
    refine ⟨?_,fun e=>by simp[AV.one] at e,fun cs0 e=>by cases e⟩
    cases hV with
    | tup _ vs hl hv =>
     refine .tup cs' vs (by omega) (fun i c u hc' hu=>?_)
     obtain ⟨c0,e1,e2⟩:=hget i c hc'
     exact (ih c0 c u (hv i c0 u e1 hu) e2).1
   ·rename_i g cs
    rw[Option.map_eq_some_iff] at h
    obtain ⟨cs',he,rfl⟩:=h
    obtain ⟨hlen,hget⟩:=mapM_get he
    refine ⟨?_,fun e=>rfl,fun cs0 e=>by cases e⟩
    cases hV with
    | fn _ _ vs hl hv =>
     refine .fn g cs' vs (by omega) (fun i c u hc' hu=>?_)
     obtain ⟨c0,e1,e2⟩:=hget i c hc'
     exact (ih c0 c u (hv i c0 u e1 hu) e2).1
   ·rename_i cs off
    rw[Option.map_eq_some_iff] at h
    obtain ⟨cs',he,rfl⟩:=h
    obtain ⟨hlen,hget⟩:=mapM_get he
    refine ⟨?_,fun e=>rfl,fun cs0 e=>by cases e⟩
    cases hV with
    | eptr _ _ g o vals h0 h1 h2 h3 =>
     refine .eptr cs' off g o vals (fun j c hj=>?_) (fun j c hj=>?_) (fun j c hj=>?_) (fun j c hj=>?_)
     ·obtain ⟨c0,e1,e2⟩:=hget j c hj
      exact (ih c0 c _ (h3 j c0 e1) e2).2.1 (h0 j c0 e1)
     ·obtain ⟨c0,e1,e2⟩:=hget j c hj
      exact Nat.lt_of_lt_of_le (h1 j c0 e1) (Env.cut_pr hc n g)
     ·obtain ⟨c0,e1,e2⟩:=hget j c hj
      exact h2 j c0 e1
     ·obtain ⟨c0,e1,e2⟩:=hget j c hj
      exact (ih c0 c _ (h3 j c0 e1) e2).1
   ·rename_i ag sz b off len
    split at h
    ·rename_i cs hcs
     split at h
     ·rename_i hcond
      obtain ⟨hle,hag⟩:=hcond
      rw[Option.map_eq_some_iff] at h
      obtain ⟨rows,he,rfl⟩:=h
      obtain ⟨hlen,hget⟩:=mapM_get he
      rw[chunk_len] at hlen
      refine ⟨?_,fun e=>rfl,fun cs0 e=>by cases e⟩
      cases hV with
      | msE _ _ _ _ A hb hA =>
       have hr0:rows=[]:=List.eq_nil_of_length_eq_zero (by omega)
       subst hr0
       cases A with
       | none=>exact .slNil sz false none
       | some A =>
        obtain ⟨g,o',sp⟩:=A
        have:sp=none:=hA _ rfl
        subst this
        exact .sl sz false [] g o' 0 (fun _ _=>Go.undef) (by simp) (by simp) (by simp) (by simp) (by simp) (by simp) (by simp)
      | ms _ _ _ _ _ cap hb hcap hcpp =>
       have hb':n≤b:=by
        simp only[AV.canonB,decide_eq_true_eq] at hcan
        omega
       obtain ⟨cur,e,c2,c5,c3,c4⟩:=hc.box b cs (hc.n▸hb) hcs
       have hpr:(E.cut n).pr (E.μ b)=cur.size:=Env.cut_box hb' hb c4 c2
       have hcl:=c3.len
       have hrow:Row E cs ((cur.toList.drop (E.off b)).take cs.length).toArray:=by
        refine ⟨by simp; omega,c3.one,fun i c x hc' hx=>?_⟩
        have hlt:=(List.getElem?_eq_some_iff.1 hc').1
        simp only[List.getElem?_toArray,List.getElem?_take_of_lt hlt,List.getElem?_drop] at hx
        exact c3.v i c x hc' (by simpa using hx)
       have:=V.rows (E:=E.cut n) (sz:=sz) (fl:=false) (rows:=rows) (g:=E.μ b) (o:=E.off b+off) (cap:=cap)
        (fun i=>if ag then .agg ((((cur.toList.drop (E.off b)).take cs.length).drop (off+i*sz)).take sz).toArray else cur.getD (E.off b+off+i) Go.undef) ?_ (by omega) (by simp)
       ·rw[hlen] at this; exact this
       ·intro i r hr
        have hi:i<len:=by have:=(List.getElem?_eq_some_iff.1 hr).1; omega
        obtain ⟨r0,e1,e2⟩:=hget i r hr
        rw[chunk_get sz ag len _ i hi] at e1
        have hbd:(i+1)*sz≤len*sz:=Nat.mul_le_mul_right _ hi
        rw[Nat.succ_mul] at hbd
        cases ag with
        | true =>
         simp only[if_true,Option.some.injEq,List.drop_drop] at e1
         subst e1
         have hR:=(hrow.drop (off+i*sz)).take sz
         obtain ⟨f1,_,f3⟩:=ih _ r _ hR.agg e2
         obtain ⟨cs',rfl,hl'⟩:=f3 _ rfl
         refine ⟨f1,.inr ⟨cs',rfl⟩,?_,?_⟩
         ·show cs'.length=sz
          rw[hl']; simp; omega
         ·intro j u hj
          simp only[if_true,Value.cells,List.getElem?_toArray] at hj
          rw[List.getElem?_take] at hj
          split at hj
          ·rename_i hjs
           rw[List.getElem?_drop,List.getElem?_take_of_lt (by omega),List.getElem?_drop] at hj
           refine ⟨?_,by rw[hpr]; omega⟩
           rw[show E.off b+off+i*sz+j=E.off b+(off+i*sz+j) by omega]
           simp only[Env.cut,World.cell?,c2,Option.isSome_none,Bool.false_eq_true,if_false]
           simpa using hj
          ·cases hj
        | false =>
         have hs1:sz=1:=hag.resolve_left (by simp)
         subst hs1
         simp only[Bool.false_eq_true,if_false,Option.some.injEq,List.drop_drop,Nat.mul_one] at e1
         have hlt:off+i<cs.length:=by omega
         have hc0:cs[off+i]?=some r0:=by
          rw[← e1,List.getElem?_eq_getElem hlt,List.drop_eq_getElem_cons hlt]; rfl
         have hu:cur[E.off b+off+i]?=some (cur.getD (E.off b+off+i) Go.undef):=by simp[Array.getD,show E.off b+off+i<cur.size by omega]
         have hVr:=c3.v _ _ _ hc0 (by rw[← Nat.add_assoc]; exact hu)
         have hone:=c3.one _ _ hc0
         obtain ⟨f1,f2,_⟩:=ih _ r _ hVr e2
         have h1':=f2 hone
         refine ⟨f1,.inl h1',by rw[AV.cells_one h1']; rfl,?_⟩
         intro j u hj
         simp only[Bool.false_eq_true,if_false] at hj
         rw[cells_one (hVr.one hone)] at hj
         cases j with
         | zero =>
          simp only[List.getElem?_toArray,List.getElem?_cons_zero,Option.some.injEq] at hj
          refine ⟨?_,by rw[hpr]; omega⟩
          rw[← hj]
          simp only[Env.cut,World.cell?,c2,Option.isSome_none,Bool.false_eq_true,if_false,Nat.mul_one,Nat.add_zero]
          exact hu
         | succ j=>simp at hj
     ·cases h
    ·cases h
   ·rename_i b off
    split at h
    ·rename_i cs hcs
     rw[Option.map_eq_some_iff] at h
     obtain ⟨cs',he,rfl⟩:=h
     obtain ⟨hlen,hget⟩:=mapM_get he
     refine ⟨?_,fun e=>rfl,fun cs0 e=>by cases e⟩
     cases hV with
     | ptr _ _ hb =>
      have hb':n≤b:=by
       simp only[AV.canonB,decide_eq_true_eq] at hcan
       omega
      obtain ⟨cur,e,c2,c5,c3,c4⟩:=hc.box b cs (hc.n▸hb) hcs
      have hpr:(E.cut n).pr (E.μ b)=cur.size:=Env.cut_box hb' hb c4 c2
      have hcl:=c3.len
      have key:∀ (j:Nat) c,cs'[j]?=some c→∃ c0,cs[j]?=some c0∧fin s n k c0=some c∧E.off b+j<cur.size∧cur[E.off b+j]?=some (cur.getD (E.off b+j) Go.undef):=by
       intro j c hj
       obtain ⟨c0,e1,e2⟩:=hget j c hj
       have hlt:=(List.getElem?_eq_some_iff.1 e1).1
       exact ⟨c0,e1,e2,by omega,by simp[Array.getD,show E.off b+j<cur.size by omega]⟩
      have:=V.eptr (E:=E.cut n) cs' off (E.μ b) (E.off b) (fun j=>cur.getD (E.off b+j) Go.undef) (fun j c hj=>?_) (fun j c hj=>?_) (fun j c hj=>?_) (fun j c hj=>?_)
      ·exact this
      ·obtain ⟨c0,e1,e2,e3,e4⟩:=key j c hj
       exact (ih c0 c _ (c3.v j c0 _ e1 e4) e2).2.1 (c3.one j c0 e1)
      ·obtain ⟨c0,e1,e2,e3,e4⟩:=key j c hj
       rw[hpr]; omega
      ·obtain ⟨c0,e1,e2,e3,e4⟩:=key j c hj
       simp only[Env.cut,World.cell?,c2,Option.isSome_none,Bool.false_eq_true,if_false]
       exact e4
      ·obtain ⟨c0,e1,e2,e3,e4⟩:=key j c hj
       exact (ih c0 c _ (c3.v j c0 _ e1 e4) e2).1
    ·cases h
   ·cases h

end Ae
namespace Ae
open Go

theorem V.pure {E:Env} {a:AV} {v:Value} (h:V E a v):a.pureB E.n=true:=by
 induction h with
 | undef v=>rfl
 | bool b=>rfl
 | int k n=>rfl
 | str s=>rfl
 | nilp=>rfl
 | ptr b off h=>simpa[AV.pureB] using h
 | eptr cells off g o vals h0 h1 h2 h3 ih =>
  simp only[AV.pureB]
  rw[pureL_iff]
  intro c hc
  obtain ⟨j,hj⟩:=List.getElem?_of_mem hc
  exact ih j c hj
 | slNil sz f A=>rfl
 | sl sz f els g o cap vals hc hf hz h0 h1 h2 h3 ih =>
  simp only[AV.pureB]
  rw[pureL_iff]
  intro el hel
  obtain ⟨i,hi⟩:=List.getElem?_of_mem hel
  cases hone:el.one with
  | true=>exact ih i el 0 el hi (by rw[AV.cells_one hone]; rfl)
  | false =>
   cases el with
   | agg cs =>
    simp only[AV.pureB]
    rw[pureL_iff]
    intro c hc
    obtain ⟨j,hj⟩:=List.getElem?_of_mem hc
    exact ih i _ j c hi hj
   | _=>have:=h0 i _ 0 _ hi rfl; rw[hone] at this; cases this
 | ms ag sz b off len cap h hc hp=>simpa[AV.pureB] using h
 | msE ag sz b off A h hA=>simpa[AV.pureB] using h
 | agg cs vs hl h0 h ih =>
  simp only[AV.pureB]
  rw[pureL_iff]
  intro c hc
  obtain ⟨j,hj⟩:=List.getElem?_of_mem hc
  have:=(List.getElem?_eq_some_iff.1 hj).1
  exact ih j c _ hj (Array.getElem?_eq_getElem (by omega))
 | tup cs vs hl h ih =>
  simp only[AV.pureB]
  rw[pureL_iff]
  intro c hc
  obtain ⟨j,hj⟩:=List.getElem?_of_mem hc
  have:=(List.getElem?_eq_some_iff.1 hj).1
  exact ih j c _ hj (Array.getElem?_eq_getElem (by omega))
 | fn g cs vs hl h ih =>
  simp only[AV.pureB]
  rw[pureL_iff]
  intro c hc
  obtain ⟨j,hj⟩:=List.getElem?_of_mem hc
  have:=(List.getElem?_eq_some_iff.1 hj).1
  exact ih j c _ hj (Array.getElem?_eq_getElem (by omega))
 | nilfn=>rfl
 | pend sz g=>rfl

theorem Core.pb {E:Env} {s:St} (h:Core E s):PB s.n s:=by
 intro b cs hb hcs
 obtain ⟨cur,e,h2,h5,h3,h4⟩:=h.box b cs hb hcs
 rw[pureL_iff]
 intro c hc
 obtain ⟨j,hj⟩:=List.getElem?_of_mem hc
 have hlt:=(List.getElem?_eq_some_iff.1 hj).1
 rw[← h.n]
 exact (h3.v j c _ hj (Array.getElem?_eq_getElem (by have:=h3.len; omega))).pure

def retFr (v:AV) (ow:Bool) (s:St):Fr:=⟨fun t=>if t=0 then v else .undef,fun t=>decide (t=0)&&ow,s⟩

def Ret (E:Env) (s:St) (v:AV) (ow:Bool) (s':St) (y:Value) (w':World):Prop:=∃ E',E'.w=w'∧Inv E s 1 E' (retFr v ow s') ⟨#[y],[]⟩

section
variable {E0 E E':Env} {s0 s s':St} {nt:Nat} {f:Fr} {a:Act} {v:AV} {ow:Bool} {y:Value}

theorem ret_sp {g:Nat} (h:ow=true) (hg:spare v y=some g):TmpSp (retFr v ow s') ⟨#[y],[]⟩ 0 g:=⟨by simp[retFr,h],by simpa[retFr] using hg⟩

theorem ret_inv {t g:Nat} (h:TmpSp (retFr v ow s') ⟨#[y],[]⟩ t g):t=0∧ow=true∧spare v y=some g:=by
 obtain ⟨h1,h2⟩:=h
 simp only[retFr,Bool.and_eq_true,decide_eq_true_eq] at h1
 obtain ⟨rfl,h1⟩:=h1
 exact ⟨rfl,h1,by simpa[retFr] using h2⟩

theorem Inv.wr (h:Inv E0 s0 nt E f a) {g:Nat} (hg:g<E0.w.heap.size) (hw:¬ Wr E0 s0 g):¬ Wr E f.s g:=by
 rintro (⟨b,h1,h2,h3⟩ | ⟨b,i,h1⟩)
 ·by_cases hb:b<s0.n
  ·refine hw (.inl ⟨b,h.ro▸h1,hb,?_⟩)
   rw[h3]; exact h.le.μ b (h.n0▸hb)
  ·rcases h.bx b (by omega) h2 with h' | ⟨b0,k1,k2,k3⟩
   ·omega
   ·exact hw (.inl ⟨b0,k1,k2,h3.trans k3⟩)
 ·rcases h.oC b i g h1 with h2 | ⟨b',i',h2⟩
  ·omega
  ·exact hw (.inr ⟨b',i',h2⟩)

theorem Inv.ret (h:Inv E0 s0 nt E f a) (R:Inv E f.s 1 E' (retFr v ow s') ⟨#[y],[]⟩) {d:Option Nat} (hd:∀ i,d=some i→i<nt):Inv E0 s0 nt E' { f.put d v ow with s:=s' } (a.put d y):=by
 have hkeep:∀ t g,TmpSp f a t g→E'.w.heap[g]?=E.w.heap[g]?∧E'.pr g=E.pr g∧∀ b,b<E'.n→E'.μ b≠g:=by
  intro t g ht
  have hlt:=h.tlt ht
  have hspr:=h.held t ht.1 g ht.2
  have hnw:¬ Wr E f.s g:=by
   rintro (⟨b,h1,h2,h3⟩ | ⟨b,i,h1⟩)
   ·exact hspr.box b (h.core.n▸h2) h3.symm
   ·exact h.dc t b i g ht h1
  obtain ⟨k1,k2⟩:=R.fr g hlt hnw
  refine ⟨k1,k2,fun b hb=>?_⟩
  by_cases hb':b<E.n
  ·rw[R.le.μ b hb']; exact hspr.box b hb'
  ·have hn:=R.core.n
   rcases R.bx b (by rw[← h.core.n]; omega) (by rw[← hn]; exact hb) with h' | ⟨b0,k1,k2,k3⟩
   ·omega
   ·rw[k3]; exact hspr.box b0 (h.core.n▸k2)
 have h1:Inv E0 s0 nt E' { f with s:=s' } a :=
  { core:=R.core
    le:=h.le.trans R.le
    os:=R.os.trans h.os
    tape:=R.tape.trans h.tape
    out:=R.out.trans h.out
    size:=Nat.le_trans h.size R.size
    fr:=fun g hg hw=>by
      obtain ⟨k1,k2⟩:=R.fr g (Nat.lt_of_lt_of_le hg h.size) (h.wr hg hw)
      obtain ⟨l1,l2⟩:=h.fr g hg hw
      exact ⟨k1.trans l1,k2.trans l2⟩
    bx:=fun b hb hb'=>by
      by_cases hb1:b<f.s.n
      · rw[R.le.μ b (h.core.n▸hb1)]; exact h.bx b hb hb1
      · rcases R.bx b (by omega) hb' with h' | ⟨b0,k1,k2,k3⟩
        · exact .inl (Nat.le_trans h.size h')
        · by_cases hb0:b0<s0.n
          · exact .inr ⟨b0,h.ro▸k1,hb0,k3.trans (h.le.μ b0 (h.n0▸hb0))⟩
          · rw[k3]; exact h.bx b0 (by omega) k2
    v:=fun t=>(h.v t).le R.le
    held:=fun t ht g hg=>by
      obtain ⟨k1,k2,k3⟩:=hkeep t g ⟨ht,hg⟩
      exact (h.held t ht g hg).keep k1 k2 k3
    dt:=h.dt
    dc:=fun t b i g k1 k2=>by
      have:=h.tlt (t:=t) (g:=g) k1
      rcases R.oC b i g k2 with k3 | ⟨b',i',k3⟩
      · omega
      · exact h.dc t b' i' g k1 k3
    oT:=h.oT
    oC:=fun b i g k=>by
      rcases R.oC b i g k with k3 | ⟨b',i',k3⟩
      · exact .inl (Nat.le_trans h.size k3)
      · exact h.oC b' i' g k3
    ro:=R.ro.trans h.ro
    lo:=R.lo.trans h.lo
    n:=Nat.le_trans h.n R.n
    n0:=h.n0
    lon:=h.lon
    pb:=fun k hk hp=>R.pb k (by rw[h.lo]; exact hk) (h.pb k hk hp)
    nt:=h.nt }
 rw[push_put]
 refine h1.put hd (by have:=R.v 0; simpa[retFr] using this) (fun how=>⟨by have:=R.held 0 (by simp[retFr,how]); simpa[retFr] using this,fun g hg=>?_⟩)
 have hsp:=ret_sp (s':=s') how hg
 have hor:=R.oT 0 g hsp
 refine ⟨fun t _ ht=>?_,fun b i hc=>R.dc 0 b i g hsp hc,?_⟩
 ·have:=h.tlt (t:=t) (g:=g) ht
  rcases hor with k | ⟨b,i,k⟩
  ·omega
  ·exact h.dc t b i g ht k
 ·rcases hor with k | ⟨b,i,k⟩
  ·exact .inl (Nat.le_trans h.size k)
  ·exact h.oC b i g k

theorem Inv.retStill (h:Inv E0 s0 nt E f a) (R:Inv E f.s.still 1 E' (retFr v ow s') ⟨#[y],[]⟩) (hp:v.pureB f.s.n=true) {d:Option Nat} (hd:∀ i,d=some i→i<nt) :
  Inv E0 s0 nt { E' with n:=E.n } (f.put d v ow) (a.put d y):=by
 have hcs:∀ b i g,¬ CellSp E f.s.still b i g:=by
  rintro b i g ⟨c,v,⟨_,h2,_⟩,_⟩
  cases h2
 have hnw:∀ g,¬ Wr E f.s.still g:=by
  rintro g (⟨b,h1,h2,_⟩ | ⟨b,i,h1⟩)
  ·have h1':f.s.n≤b:=h1
   have h2':b<f.s.n:=h2
   omega
  ·exact hcs b i g h1
 have key:∀ g,g<E.w.heap.size→E'.w.heap[g]?=E.w.heap[g]?∧E'.pr g=E.pr g:=fun g hg=>R.fr g hg (hnw g)
 have h1:Inv E0 s0 nt { E' with n:=E.n } f a:=by
  refine h.step (E':={ E' with n:=E.n }) ⟨Nat.le_refl _,fun b hb=>R.le.μ b hb,R.le.pr,R.le.cell,R.le.cp⟩ rfl (fun b hb=>R.le.μ b hb) R.size R.core.new R.os R.tape R.out
   (fun b hb=>key _ (h.core.boxlt hb)) (fun b i g hs=>key _ (h.core.lt hs)) (fun t g hs=>key _ (h.tlt hs)) (fun g hg _=>key _ (Nat.lt_of_lt_of_le hg h.size))
 have hVy:V E' v y:=by have:=R.v 0; simpa[retFr] using this
 have hn:E.n≤E'.n:=R.le.n
 refine h1.put hd (V.cut (E:=E') (E':={ E' with n:=E.n }) (n:=E.n) (Nat.le_refl _) (fun _ _=>rfl) (fun _=>Nat.le_refl _) (fun _ _ _=>rfl) (fun _ _=>rfl) hVy (by rw[h.core.n]; exact hp)) (fun how=>⟨?_,fun g hg=>?_⟩)
 ·intro g hg
  have hs:Spr E' v y g:=by have:=R.held 0 (by simp[retFr,how]); exact (by simpa[retFr] using this:Held E' v y) g hg
  exact hs.keep (E':={ E' with n:=E.n }) rfl rfl (fun b hb=>hs.box b (Nat.lt_of_lt_of_le hb hn))
 ·have hsp:=ret_sp (s':=s') how hg
  have hge:E.w.heap.size≤g:=by
   rcases R.oT 0 g hsp with k | ⟨b,i,k⟩
   ·exact k
   ·exact absurd k (hcs b i g)
  refine ⟨fun t _ ht=>?_,fun b i hc=>?_,.inl (Nat.le_trans h.size hge)⟩
  ·have:=h.tlt ht; omega
  ·have:=h.core.lt (cellSp_congr (E:=E) (E':={ E' with n:=E.n }) (fun b hb=>⟨R.le.μ b (h.core.n▸hb),(key _ (h.core.boxlt hb)).1⟩) hc (fun b hb=>R.le.cp b (h.core.n▸hb)))
   omega

theorem Inv.leaveKeep (h:Inv E s nt E' f a) (hv:V E' v y) (how:ow=true→Held E' v y∧∀ g,spare v y=some g→∃ t,TmpSp f a t g):Inv E s 1 E' (retFr v ow f.s) ⟨#[y],[]⟩ :=
 { core:=h.core,le:=h.le,os:=h.os,tape:=h.tape,out:=h.out,size:=h.size,fr:=h.fr,bx:=h.bx
   v:=fun t=>by
     by_cases ht:t=0
     · subst ht; simpa[retFr] using hv
     · simp only[retFr,if_neg ht]; exact .undef _
   held:=fun t ht=>by
     simp only[retFr,Bool.and_eq_true,decide_eq_true_eq] at ht
     obtain ⟨rfl,ht⟩:=ht
     simpa[retFr] using (how ht).1
   dt:=fun t t' g h1 h2=>(ret_inv h1).1.trans (ret_inv h2).1.symm
   dc:=fun t b i g h1 h2=>by
     obtain ⟨_,k1,k2⟩:=ret_inv h1
     obtain ⟨t',ht'⟩:=(how k1).2 g k2
     exact h.dc t' b i g ht' h2
   oT:=fun t g h1=>by
     obtain ⟨_,k1,k2⟩:=ret_inv h1
     obtain ⟨t',ht'⟩:=(how k1).2 g k2
     exact h.oT t' g ht'
   oC:=h.oC,ro:=h.ro,lo:=h.lo,n:=h.n,n0:=h.n0,lon:=h.lon,pb:=h.pb,nt:=Nat.le_refl _ }

theorem Inv.leave {k:Nat} {v':AV} (h:Inv E { s with lo:=s.n } nt E' f a) (hlo:s.lo≤s.n) (hcE:Core E s) (hv:V E' v y) (hf:fin f.s s.n k v=some v')
  (how:ow=true→(∃ sz els,v=.sl sz false els)∧Held E' v y∧∀ g,spare v y=some g→∃ t,TmpSp f a t g):Inv E s 1 (E'.cut s.n) (retFr v' ow (s.back f.s)) ⟨#[y],[]⟩:=by
 have hsn:s.n≤f.s.n:=h.n
 have hn1:=h.core.n
 have hV':=(fin_ok h.core hsn k v v' y hv hf).1
 have hpb:PB s.n f.s:=h.pb s.n (Nat.le_refl _) hcE.pb
 have hcell:∀ b i c x,CellAt (E'.cut s.n) (s.back f.s) b i c x→CellAt E' f.s b i c x:=by
  rintro b i c x ⟨h1,h2,h3,h4⟩
  have h1':b<s.n:=h1
  have h2':(if b<s.n then f.s.ow b else s.ow b) i=true:=h2
  have h3':∃ cs,(if b<s.n then f.s.h b else s.h b)=some cs∧cs[i]?=some c:=h3
  rw[if_pos h1'] at h2' h3'
  exact ⟨by omega,h2',h3',h4⟩
 have hcs:∀ b i g,CellSp (E'.cut s.n) (s.back f.s) b i g→CellSp E' f.s b i g:=fun b i g ⟨c,x,h1,h2⟩=>⟨c,x,hcell _ _ _ _ h1,h2⟩
 have hkeep:∀ {x z g},Spr E' x z g→Spr (E'.cut s.n) x z g:=by
  intro x z g hs
  exact hs.keep rfl (Env.cut_other hs.box) (fun b hb=>hs.box b (by rw[hn1]; exact Nat.lt_of_lt_of_le hb hsn))
 have hprb:∀ g,(∀ b,s.n≤b→b<f.s.n→E'.μ b≠g)→(E'.cut s.n).pr g=E'.pr g:=by
  intro g hg
  unfold Env.cut
  simp only
  rw[if_neg]
  rintro ⟨b,h1,h2,h3⟩
  exact hg b h1 (hn1▸h2) h3
 have hshape:ow=true→∃ sz els els',v=.sl sz false els∧v'=.sl sz false els'∧els'.length=els.length:=by
  intro ho
  obtain ⟨⟨sz,els,rfl⟩,_⟩:=how ho
  cases k with
  | zero=>simp[fin] at hf
  | succ k =>
   unfold fin at hf
   split at hf
   ·cases hf; exact ⟨sz,els,els,rfl,rfl,rfl⟩
   ·simp only at hf
    rw[Option.map_eq_some_iff] at hf
    obtain ⟨els',he,rfl⟩:=hf
    exact ⟨sz,els,els',rfl,rfl,(mapM_get he).1⟩
 have hheld:ow=true→Held (E'.cut s.n) v' y∧∀ g,spare v' y=some g→spare v y=some g:=by
  intro ho
  obtain ⟨sz,els,els',rfl,rfl,hl⟩:=hshape ho
  have hs:∀ g,spare (.sl sz false els') y=some g→spare (.sl sz false els) y=some g:=by
   intro g hg
   cases y<;>simp[spare] at hg ⊢
   rename_i p n c
   cases p<;>simp at hg ⊢
   exact hg
  refine ⟨fun g hg=>?_,hs⟩
  have h1:=hkeep ((how ho).2.1 g (hs g hg))
  cases h1 with
  | sl _ _ _ _ _ _ _ cur e hl1 hz hc hg' hs' hp hb=>exact .sl sz false els' _ _ _ _ cur e (by omega) hz hc hg' hs' hp hb
 exact
  { core :=
      { n:=rfl
        new:=fun g hg=>by
          have hg':E'.w.heap.size≤g:=hg
          rw[hprb g (fun b _ hb e=>by have:=h.core.boxlt hb; omega)]
          exact h.core.new g hg'
        box:=fun b cs hb hcs1=>by
          have hb':b<s.n:=hb
          have hcs2:(if b<s.n then f.s.h b else s.h b)=some cs:=hcs1
          rw[if_pos hb'] at hcs2
          obtain ⟨cur,e,h2,h5,h3,h4⟩:=h.core.box b cs (by omega) hcs2
          refine ⟨cur,e,h2,h5,⟨h3.len,h3.one,fun i c x hc hx=>?_⟩,?_⟩
          · exact (h3.v i c x hc hx).cutE h.core (pureL_get (hpb b cs hb' hcs2) hc)
          · rw[show (E'.cut s.n).μ b=E'.μ b from rfl,hprb _ (fun b' h6 h7 e'=>by rw[h.core.inj b b' (by omega) h7 e'.symm] at hcs2; cases hcs2)]
            exact h4
        blt:=fun b hb=>h.core.blt b (Nat.lt_of_lt_of_le hb hsn)
        inj:=fun b b' hb hb' e=>by
          have hb2:b'<s.n:=hb'
          show (if b<s.n then f.s.h b else s.h b)=none
          rw[if_pos (by omega)]
          exact h.core.inj b b' hb (Nat.lt_of_lt_of_le hb2 hsn) e
        held:=fun b i c x hc g hg=>hkeep (h.core.held b i c x (hcell _ _ _ _ hc) g hg)
        dj:=fun b i b' i' g h1 h2=>h.core.dj b i b' i' g (hcs _ _ _ h1) (hcs _ _ _ h2) }
    le:=⟨Nat.le_of_eq hcE.n,fun b hb=>h.le.μ b hb,fun g=>Nat.le_trans (h.le.pr g) (Env.cut_pr h.core _ g),fun g o ho=>h.le.cell g o ho,h.le.cp⟩
    os:=h.os
    tape:=h.tape
    out:=h.out
    size:=h.size
    fr:=fun g hg hw=>by
      obtain ⟨k1,k2⟩:=h.fr g hg hw
      refine ⟨k1,(hprb g ?_).trans k2⟩
      intro b h5 h6 e
      rcases h.bx b h5 h6 with h' | ⟨b0,l1,l2,l3⟩
      · omega
      · exact hw (.inl ⟨b0,l1,l2,e▸l3⟩)
    bx:=fun b hb hb'=>by
      have hb1:b<s.n:=hb'
      omega
    v:=fun t=>by
      by_cases ht:t=0
      · subst ht; simpa[retFr] using hV'
      · simp only[retFr,if_neg ht]; exact .undef _
    held:=fun t ht=>by
      simp only[retFr,Bool.and_eq_true,decide_eq_true_eq] at ht
      obtain ⟨rfl,ht⟩:=ht
      simpa[retFr] using (hheld ht).1
    dt:=fun t t' g h1 h2=>(ret_inv h1).1.trans (ret_inv h2).1.symm
    dc:=fun t b i g h1 h2=>by
      obtain ⟨_,k1,k2⟩:=ret_inv h1
      obtain ⟨t',ht'⟩:=(how k1).2.2 g ((hheld k1).2 g k2)
      exact h.dc t' b i g ht' (hcs b i g h2)
    oT:=fun t g h1=>by
      obtain ⟨_,k1,k2⟩:=ret_inv h1
      obtain ⟨t',ht'⟩:=(how k1).2.2 g ((hheld k1).2 g k2)
      exact h.oT t' g ht'
    oC:=fun b i g h1=>h.oC b i g (hcs b i g h1)
    ro:=rfl
    lo:=rfl
    n:=Nat.le_refl _
    n0:=hcE.n
    lon:=hlo
    pb:=fun k' hk hp b cs hb hcs'=>by
      have hb':b<s.n:=by omega
      have h1:(if b<s.n then f.s.h b else s.h b)=some cs:=hcs'
      rw[if_pos hb'] at h1
      exact h.pb k' (show k'≤s.n by omega) hp b cs hb h1
    nt:=Nat.le_refl _ }

end
end Ae
namespace Ae
open Go

def Reach (P:Program) (g:Nat) (vs:Array Value) (w:World) (R:Value→World→Prop):Prop :=
 ((callFunc g vs).run P w=.ok (.enter g vs) w∧Calls P g vs w fun e w'=>∃ y,e=.returned y∧R y w') ∨
 ∃ y w',(callFunc g vs).run P w=.ok (.value y) w'∧R y w'

def VA (E:Env) (args:List AV) (vs:Array Value):Prop:=args.length=vs.size∧∀ (i:Nat) c v,args[i]?=some c→vs[i]?=some v→V E c v

def TabE (T:List (Nat × List Value)) (E:Env) (s:St):Prop:=∀ g vs,(g,vs)∈T→g<E.w.heap.size∧¬ Wr E s g∧∃ t k,E.w.heap[g]?=some (.cells vs.toArray t k)
theorem TabE.inv {T:List (Nat × List Value)} {E0 E:Env} {s0:St} {nt:Nat} {f:Fr} {a:Act} (h:TabE T E0 s0) (hI:Inv E0 s0 nt E f a):TabE T E f.s:=fun g vs hm=>by
 obtain ⟨h1,h2,t,k,h3⟩:=h g vs hm
 exact ⟨Nat.lt_of_lt_of_le h1 hI.size,hI.wr h1 h2,t,k,(hI.fr g h1 h2).1.trans h3⟩

def CallOK (P:Program) (T:List (Nat × List Value)) (call:CallFn):Prop:=∀ g args s v ow s',call g args s=some (v,ow,s')→∀ (E:Env) (vs:Array Value),TabE T E s→Core E s→s.lo≤s.n→VA E args vs→Reach P g vs E.w (Ret E s v ow s')

section
variable {P:Program} {C:Cfg} {E0 E:Env} {s0:St} {nt:Nat} {f f':Fr} {a:Act} {I:FI} {o:Oper}

theorem callee_ok (h:Inv E0 s0 nt E f a) {g:Nat} {args:List AV} (hc:callee? o f.tm=some (g,args)):∃ vs,VA E args vs∧∀ w,(execOp a.eval o).run P w=(callFunc g vs).run P w:=by
 unfold callee? at hc
 split at hc
 ·rename_i fo ops _ hop
  have hV:=evalO_ok h.v fo
  split at hc
  ·rename_i g' cap hfo
   cases hc
   rw[hfo] at hV
   generalize hF:a.eval fo=F at hV
   cases hV with
   | fn _ _ cvs hl hv =>
    refine ⟨ops.map a.eval++cvs,⟨by simp[hl],?_⟩,?_⟩
    ·intro i c v hc' hv'
     by_cases hi:i<ops.size
     ·rw[List.getElem?_append_left (by simpa using hi)] at hc'
      rw[Array.getElem?_append_left (by simpa using hi)] at hv'
      rw[List.getElem?_map] at hc'
      rw[Array.getElem?_map] at hv'
      have hx:ops[i]?=some ops[i]:=Array.getElem?_eq_getElem hi
      have hx':ops.toList[i]?=some ops[i]:=by simp
      rw[hx'] at hc'; rw[hx] at hv'
      cases hc'; cases hv'
      exact evalO_ok h.v _
     ·rw[List.getElem?_append_right (by simp; omega)] at hc'
      rw[Array.getElem?_append_right (by simp; omega)] at hv'
      simp only[List.length_map,Array.length_toList] at hc'
      simp only[Array.size_map] at hv'
      exact hv _ c v hc' hv'
    ·intro w
     unfold execOp
     simp[hop,resolve,hF,Deferred.ofValue,invoke]
  ·cases hc
 ·cases hc

def Then (E0:Env) (s0:St) (nt:Nat) (a0:Act) (f':Fr) (Q:Act→World→Prop):Prop:=∀ E' a',Inv E0 s0 nt E' f' a'→a'.defers=a0.defers→Q a' E'.w

theorem defers_put (a:Act) (d:Option Nat) (v:Value):(a.put d v).defers=a.defers:=by cases d<;>rfl

theorem wp_of_done {K:Act→World→Prop} {Q:Exit→Act→World→Prop} (h:OpDone P E0 s0 nt E a o f') (hk:Then E0 s0 nt a f' K):o.wp P a E.w K Q:=by
 obtain ⟨E',nx,y,hr,hy,hI⟩:=h
 unfold Oper.wp
 rw[hr]
 rcases hy with rfl | ⟨rfl,rfl⟩
 ·exact hk E' _ hI (defers_put _ _ _)
 ·exact hk E' _ hI (defers_put _ _ _)

theorem wp_of_reach {K:Act→World→Prop} {Q:Exit→Act→World→Prop} {g:Nat} {vs:Array Value} {w:World} {R:Value→World→Prop} (he:(execOp a.eval o).run P w=(callFunc g vs).run P w)
  (h:Reach P g vs w R) (hk:∀ y w',R y w'→K (a.put o.dst y) w'):o.wp P a w K Q:=by
 unfold Oper.wp
 rw[he]
 rcases h with ⟨h1,h2⟩ | ⟨y,w',h1,h2⟩
 ·rw[h1]
  refine Calls.mono h2 ?_
  rintro e w' ⟨y,rfl,hR⟩
  exact hk y w' hR
 ·rw[h1]
  exact hk y w' h2

theorem wanted_ok (h:Inv E0 s0 nt E f a) (all:Array Oper) {b:Bool} (hall:∀ (j:Nat) o d,all[j]?=some o→o.dst=some d→d<nt) (hw:wantedA o all f.tm=some b):Region.wanted o (yielded all a.tmps)=b:=by
 unfold wantedA at hw
 unfold Region.wanted
 split at hw
 ·rename_i hg; cases hw; simp[hg]
 ·rename_i j w hg
  simp only[hg]
  split at hw
  ·rename_i d hd
   unfold yielded
   rw[hd]
   simp only[Option.bind_some]
   have hV:=h.v d
   have hdlt:d<nt:=by
    rw[Option.bind_eq_some_iff] at hd
    obtain ⟨oj,h1,h2⟩:=hd
    exact hall j oj d h1 h2
   have hlt:d<a.tmps.size:=Nat.lt_of_lt_of_le hdlt h.nt
   have hget:a.tmps[d]?=some (a.tmps.getD d undef):=by simp[Array.getD,hlt]
   rw[hget]
   generalize a.tmps.getD d undef=X at hV
   split at hw
   ·rename_i c hc
    rw[hc] at hV
    cases hV
    simp only[Option.some.injEq] at hw
    rw[← hw]
    cases c<;>cases w<;>rfl
   ·rename_i vs hc
    rw[hc] at hV
    cases hV
    cases hw
    rfl
   ·cases hw
  ·cases hw

theorem ops_ok (hty:TysOk P C) {call:Bool→CallFn} (hcall:∀ al,CallOK P C.tab (call al)) (h0:TabE C.tab E0 s0) {all:Array Oper} (hall:∀ (j:Nat) o d,all[j]?=some o→o.dst=some d→d<nt) {a0:Act}:∀ (l:List Oper) (E:Env) (f f':Fr) (a:Act),
  (∀ o∈l,∀ d,o.dst=some d→d<nt)→opsF C I call false all l f=some f'→Inv E0 s0 nt E f a→a.defers=a0.defers →
  wpList P all (fun e a' w'=>e=.normal∧a'.defers=a0.defers∧∃ E',E'.w=w'∧Inv E0 s0 nt E' f' a') l a E.w:=by
 intro l
 induction l with
 | nil =>
  intro E f f' a _ h hI hd
  cases h
  exact ⟨rfl,hd,E,rfl,hI⟩
 | cons o l ih =>
  intro E f f' a hl h hI hd
  have hdst:=hl o (List.mem_cons_self ..)
  have hl':∀ o∈l,∀ d,o.dst=some d→d<nt:=fun x hx=>hl x (List.mem_cons_of_mem _ hx)
  unfold opsF at h
  refine wpList_step fun K hK=>?_
  cases hw:wantedA o all f.tm with
  | none=>rw[hw] at h; cases h
  | some b =>
   rw[hw] at h
   have hwant:=wanted_ok hI all hall hw
   cases b with
   | false =>
    simp only at h
    rw[if_neg (by simp[hwant])]
    refine hK _ _ ?_
    have hI':Inv E0 s0 nt E (f.put o.dst (.tup []) false) (a.put o.dst undef):=hI.put0 hdst (.tup [] #[] rfl (by simp))
    exact ih E _ f' _ hl' h hI' ((defers_put _ _ _).trans hd)
   | true =>
    simp only at h
    rw[if_pos hwant]
    cases hc:callee? o f.tm with
    | some p =>
     obtain ⟨g,args⟩:=p
     rw[hc] at h
     simp only[Bool.false_eq_true,if_false] at h
     cases hr:call (alias I o) g args f.s with
     | none=>rw[hr] at h; cases h
     | some p =>
      obtain ⟨v,ow,s'⟩:=p
      rw[hr] at h
      simp only at h
      obtain ⟨vs,hva,hex⟩:=callee_ok (P:=P) hI hc
      have hre:=hcall (alias I o) g args f.s v ow s' hr E vs (h0.inv hI) hI.core (by rw[hI.lo]; exact Nat.le_trans hI.lon hI.n) hva
      refine wp_of_reach (hex E.w) hre ?_
      rintro y w' ⟨E',rfl,R⟩
      refine hK _ _ ?_
      exact ih E' _ f' _ hl' h (hI.ret R hdst) ((defers_put _ _ _).trans hd)
    | none =>
     rw[hc] at h
     simp only at h
     cases hf:opF C I o f with
     | none=>rw[hf] at h; cases h
     | some f1 =>
      rw[hf] at h
      simp only at h
      refine wp_of_done (opF_ok hty hI hdst hf) ?_
      intro E' a' hI' hd'
      exact hK _ _ (ih E' f1 f' a' hl' h hI' (hd'.trans hd))

def resK (tmps:Array Value):ResultVar→Sem Value
 | .tmp t=>pure (tmps.getD t undef)
 | .cell p t=>do loadVar t (← asAddr (tmps.getD p undef))

theorem results_eq (fn:Func) (tmps:Array Value):results fn tmps=(do let vs ← fn.results.mapM (resK tmps); pure (if h:vs.size=1 then vs[0] else .tuple vs)):=by
 unfold results
 congr 1

theorem resOne_ok (hty:TysOk P C) (h:Inv E0 s0 nt E f a) {kp:Bool} {r:ResultVar} {v:AV} {ow:Bool} (hr:resOne C kp f r=some (v,ow)) :
  ∃ y,(resK a.tmps r).run P E.w=.ok y E.w∧V E v y ∧
   (ow=true→(∃ sz els,v=.sl sz false els)∧Held E v y∧∀ g,spare v y=some g→∃ t,TmpSp f a t g):=by
 cases r with
 | tmp t =>
  refine ⟨a.tmps.getD t undef,rfl,?_⟩
  have hV:=h.v t
  unfold resOne at hr
  by_cases hkp:kp=true
  ·simp only[hkp,if_true,Option.some.injEq] at hr
   cases hr
   exact ⟨hV,fun how=>by cases how⟩
  simp only[if_neg hkp,Option.some.injEq] at hr
  split at hr
  ·rename_i sz fl els htm
   cases hr
   rw[htm] at hV
   refine ⟨hV.slSz (.inl rfl) (by simp),fun how=>⟨⟨sz,els,rfl⟩,?_⟩⟩
   have hsp:∀ g,spare (.sl sz false els) (a.tmps.getD t undef)=some g→f.os t=true∧spare (f.tm t) (a.tmps.getD t undef)=some g:=by
    intro g hg
    have hg':spare (f.tm t) (a.tmps.getD t undef)=some g:=by
     rw[htm]
     generalize a.tmps.getD t undef=Y at hg ⊢
     cases Y<;>simp[spare] at hg ⊢
     rename_i p n c
     cases p<;>simp at hg ⊢
     exact hg
    refine ⟨?_,hg'⟩
    cases hos:f.os t with
    | true=>rfl
    | false =>
     exfalso
     rw[hos,Bool.false_or] at how
     subst how
     generalize a.tmps.getD t undef=Y at hg hV
     cases hV with
     | slNil=>rename_i A; cases A<;>simp[spare] at hg
     | sl _ _ _ g' o cap vals hc hf =>
      have:=hf rfl
      simp only[spare] at hg
      rw[if_neg (by omega)] at hg
      cases hg
   refine ⟨fun g hg=>?_,fun g hg=>⟨t,(hsp g hg).1,(hsp g hg).2⟩⟩
   have h1:=h.held t (hsp g hg).1 g (hsp g hg).2
   rw[htm] at h1
   generalize a.tmps.getD t undef=Y at h1
   cases h1 with
   | sl _ _ _ _ _ _ _ cur e hl hz hc hg' hs' hp hb=>exact .sl sz false els _ _ _ _ cur e hl hz hc hg' hs' hp hb
  ·cases hr
   exact ⟨hV,fun how=>by cases how⟩
 | cell p t =>
  simp only[resOne] at hr
  have hcell:∀ ad z,a.tmps.getD p undef=.pointer (some ad)→(loadVar t ad).run P E.w=.ok z E.w→(resK a.tmps (.cell p t)).run P E.w=.ok z E.w:=by
   intro ad z h1 h2
   simp only[resK,h1,asAddr,Sem.run_bind,Sem.run_pure,Result.andThen_ok,h2]
  split at hr
  ·rename_i ti b off hT hp
   have hV:=h.v p
   rw[hp] at hV
   split at hr
   ·rename_i cs hcs
    rw[Option.map_eq_some_iff] at hr
    obtain ⟨v',hpart,he⟩:=hr
    cases he
    generalize hY:a.tmps.getD p undef=Y at hV
    cases hV with
    | ptr _ _ hb =>
     rw[h.core.n] at hb
     obtain ⟨cur,e,h2,h5,h3,h4⟩:=h.core.box b cs hb hcs
     obtain ⟨z,hz,hzV⟩:=load_ok (P:=P) (E:=E) (g:=E.μ b) (o:=E.off b) (hty _ _ hT) hpart h3.one (fun j c hj=>by
      have hlt:E.off b+j<cur.size:=by have:=(List.getElem?_eq_some_iff.1 hj).1; have:=h3.len; omega
      have hg:cur[E.off b+j]?=some cur[E.off b+j]:=Array.getElem?_eq_getElem hlt
      exact ⟨cur[E.off b+j],by simp[World.cell?,h2,hg],h3.v j c _ hj hg⟩)
     exact ⟨z,hcell _ _ hY hz,hzV,fun how=>by cases how⟩
   ·cases hr
  ·rename_i ti cs off hT hp
   have hV:=h.v p
   rw[hp] at hV
   rw[Option.map_eq_some_iff] at hr
   obtain ⟨v',hpart,he⟩:=hr
   cases he
   generalize hY:a.tmps.getD p undef=Y at hV
   cases hV with
   | eptr _ _ g o' vals h0 h1 h2 h3 =>
    obtain ⟨z,hz,hzV⟩:=load_ok (P:=P) (E:=E) (hty _ _ hT) hpart h0 (fun j c hj=>⟨vals j,h2 j c hj,h3 j c hj⟩)
    exact ⟨z,hcell _ _ hY hz,hzV,fun how=>by cases how⟩
  ·cases hr

theorem mapM_same {α β:Type} {P:Program} {w:World} {k:α→Sem β} {Q:α→β→Prop}:∀ (l:List α),(∀ x∈l,∃ y,(k x).run P w=.ok y w∧Q x y) →
  ∃ ys,(l.mapM k).run P w=.ok ys w∧ys.length=l.length∧∀ (i:Nat) x y,l[i]?=some x→ys[i]?=some y→Q x y
 | [],_=>⟨[],by simp,rfl,by simp⟩
 | x::l,h=>by
  obtain ⟨y,h1,h2⟩:=h x (by simp)
  obtain ⟨ys,k1,k2,k3⟩:=mapM_same l (fun z hz=>h z (by simp[hz]))
  refine ⟨y::ys,by simp[h1,k1],by simp[k2],?_⟩
  intro i a b ha hb
  cases i with
  | zero=>simp at ha hb; subst ha; subst hb; exact h2
  | succ i=>exact k3 i a b (by simpa using ha) (by simpa using hb)

theorem results_ok (hty:TysOk P C) (h:Inv E0 s0 nt E f a) {J:FI} {fn:Func} (hres:fn.results.toList=J.res) {v:AV} {ow:Bool} (hr:resA C J f=some (v,ow)) :
  ∃ y,(results fn a.tmps).run P E.w=.ok y E.w∧V E v y∧(ow=true→(∃ sz els,v=.sl sz false els)∧Held E v y∧∀ g,spare v y=some g→∃ t,TmpSp f a t g):=by
 have hfr:fn.results=J.res.toArray:=by rw[← hres]
 unfold resA at hr
 rw[results_eq,hfr]
 split at hr
 ·rename_i r hJ
  obtain ⟨y,h1,h2,h3⟩:=resOne_ok (P:=P) hty h hr
  refine ⟨y,?_,h2,h3⟩
  rw[hJ]
  rw[List.mapM_toArray]
  simp only[List.mapM_cons,List.mapM_nil,Sem.run_bind,Sem.run_map,Sem.run_pure,Result.andThen_ok]
  rw[h1]
  simp
 ·rename_i hJ
  rw[Option.map_eq_some_iff] at hr
  obtain ⟨vs,hvs,he⟩:=hr
  cases he
  obtain ⟨hlen,hget⟩:=mapM_get hvs
  obtain ⟨ys,k1,k2,k3⟩:=mapM_same (P:=P) (w:=E.w) (k:=resK a.tmps)
   (Q:=fun r y=>∀ v,(resOne C J.keep f r).map (·.1)=some v→V E v y) J.res (fun r hr=>by
    obtain ⟨i,hi⟩:=List.getElem?_of_mem hr
    obtain ⟨v,hv1,hv2⟩:=mapM_fwd hvs hi
    rw[Option.map_eq_some_iff] at hv2
    obtain ⟨⟨v1,o1⟩,h5,h6⟩:=hv2
    obtain ⟨y,l1,l2,_⟩:=resOne_ok (P:=P) hty h h5
    refine ⟨y,l1,fun v' hv'=>?_⟩
    rw[h5] at hv'
    cases hv'
    exact l2)
  refine ⟨.tuple ys.toArray,?_,?_,fun how=>by cases how⟩
  ·rw[List.mapM_toArray]
   have hne:ys.toArray.size≠1:=by
    intro e
    have e':J.res.length=1:=by rw[← k2]; simpa using e
    match hr:J.res,e' with
    | [r],_=>exact hJ r hr
   simp only[Sem.run_bind,Sem.run_map]
   rw[k1]
   simp only[Result.andThen_ok,Sem.run_pure]
   rw[dif_neg hne]
  ·refine .tup vs ys.toArray (by simp[hlen,k2]) ?_
   intro i c x hc hx
   obtain ⟨r,hr1,hr2⟩:=hget i c hc
   exact k3 i r x hr1 (by simpa using hx) c hr2

theorem Inv.enter {s:St} (hc:Core E s) (hlo:s.lo≤s.n) {args:List AV} {vs:Array Value} (hva:VA E args vs) {nt:Nat}:Inv E s nt E ⟨enterTm args,fun _=>false,s⟩ ⟨vs++Array.replicate (nt - vs.size) undef,[]⟩ :=
 { core:=hc,le:=.refl E,os:=rfl,tape:=rfl,out:=rfl,size:=Nat.le_refl _,fr:=fun _ _ _=>⟨rfl,rfl⟩,bx:=fun b h1 h2=>by have h2':b<s.n:=h2; omega
   v:=fun t=>by
     simp only[enterTm,List.getD_eq_getElem?_getD,Array.getD_eq_getD_getElem?]
     by_cases ht:t<vs.size
     · have h1:args[t]?=some (args[t]'(by rw[hva.1]; exact ht)):=List.getElem?_eq_getElem _
       have h2:vs[t]?=some vs[t]:=Array.getElem?_eq_getElem ht
       rw[Array.getElem?_append_left ht,h1,h2]
       exact hva.2 t _ _ h1 h2
     · rw[Array.getElem?_append_right (by omega),List.getElem?_eq_none (by rw[hva.1]; omega)]
       have:((Array.replicate (nt - vs.size) undef)[t - vs.size]?).getD undef=undef:=by
         rw[Array.getElem?_replicate]
         split<;>rfl
       rw[this]
       exact .tup [] #[] rfl (by simp)
   held:=fun t ht=>by cases ht
   dt:=fun t t' g h1 _=>by cases h1.1
   dc:=fun t b i g h1 _=>by cases h1.1
   oT:=fun t g h1=>by cases h1.1
   oC:=fun b i g h1=>.inr ⟨b,i,h1⟩
   ro:=rfl,lo:=rfl,n:=Nat.le_refl _,n0:=hc.n,lon:=hlo,pb:=fun _ _ hp=>hp
   nt:=by simp; omega }

end
end Ae
namespace Ae
open Go

theorem Reach.mono {P:Program} {g:Nat} {vs:Array Value} {w:World} {R R':Value→World→Prop} (h:Reach P g vs w R) (k:∀ y w',R y w'→R' y w'):Reach P g vs w R':=by
 rcases h with ⟨h1,h2⟩ | ⟨y,w',h1,h2⟩
 ·refine .inl ⟨h1,fun cs=>?_⟩
  obtain ⟨e,w',x,hq,rest⟩:=h2 cs
  obtain ⟨y,he,hr⟩:=hq
  exact ⟨e,w',x,⟨y,he,k _ _ hr⟩,rest⟩
 ·exact .inr ⟨y,w',h1,k _ _ h2⟩

open Classical in
noncomputable def Env.blind (E:Env):Env:={ E.cut 0 with n:=E.n }

theorem Env.blind_le {E:Env} {s:St} (hc:Core E s):E.le E.blind :=
 ⟨Nat.le_refl _,fun _ _=>rfl,fun g=>Env.cut_pr hc 0 g,fun _ _ _=>rfl,fun _ _=>rfl⟩

theorem Env.cut_blind {E:Env}:(E.cut 0).le E.blind:=⟨Nat.zero_le _,fun _ _=>rfl,fun _=>Nat.le_refl _,fun _ _ _=>rfl,fun _ _=>rfl⟩

theorem blind_core {E:Env} {s:St} (hc:Core E s):Core E.blind s.blind where
 n:=hc.n
 new:=fun g hg=>by
  show (E.cut 0).pr g=0
  rw[Env.cut_other (fun b hb e=>by have:=hc.blt b (hc.n▸hb); have h2:E.w.heap.size≤g:=hg; omega)]
  exact hc.new g hg
 box:=fun b cs _ h=>by cases h
 blt:=fun b hb=>hc.blt b hb
 inj:=fun b b' _ _ _=>rfl
 held:=fun b i c v h=>by obtain ⟨_,h2,_⟩:=h; cases h2
 dj:=fun b i b' i' g h _=>by obtain ⟨c,v,⟨_,h2,_⟩,_⟩:=h; cases h2

theorem blind_wr {E:Env} {s:St} {g:Nat}:¬ Wr E s.blind g:=by
 rintro (⟨b,h1,h2,_⟩ | ⟨b,i,c,v,⟨_,h2,_⟩,_⟩)
 ·have h1':s.n≤b:=h1
  have h2':b<s.n:=h2
  omega
 ·cases h2

theorem VA.fin {E:Env} {s:St} (hc:Core E s) {args args':List AV} {vs:Array Value} (h:VA E args vs) (ha:args.mapM (fin s 0 FINK)=some args'):VA E.blind args' vs:=by
 obtain ⟨h1,h2⟩:=mapM_get ha
 refine ⟨h1.trans h.1,fun i c v hi hv=>?_⟩
 obtain ⟨x,hx,hf⟩:=h2 i c hi
 exact (fin_ok hc (Nat.zero_le _) FINK x c v (h.2 i x v hx hv) hf).1.le Env.cut_blind

mutual
theorem flat_ok {E E':Env} {n:Nat} (hn:E.n≤E'.n) (hμ:∀ b,n≤b→b<E.n→E'.μ b=E.μ b) (hcp:∀ b,n≤b→b<E.n→E'.cp b=E.cp b):∀ {a:AV} {v:Value},a.flatB n=true→V E a v→V E' a v
 | .undef,_,_,_=>.undef _
 | .bool _,_,_,h=>by cases h; exact .bool _
 | .int _ _,_,_,h=>by cases h; exact .int _ _
 | .str _,_,_,h=>by cases h; exact .str _
 | .nilp,_,_,h=>by cases h; exact .nilp
 | .nilfn,_,_,h=>by cases h; exact .nilfn
 | .ptr b off,_,hf,h=>by
  simp only[AV.flatB,decide_eq_true_eq] at hf
  cases h with
  | ptr _ _ hb=>rw[← hμ b hf hb,show E.off b=E'.off b by unfold Env.off; rw[hcp b hf hb]]; exact .ptr b off (Nat.lt_of_lt_of_le hb hn)
 | .ms ag sz b off len,_,hf,h=>by
  simp only[AV.flatB,decide_eq_true_eq] at hf
  cases h with
  | ms _ _ _ _ _ cap hb h1 h2 =>
   have ho:E'.off b=E.off b:=by unfold Env.off; rw[hcp b hf hb]
   rw[← hμ b hf hb,← ho]; exact .ms ag sz b off len cap (Nat.lt_of_lt_of_le hb hn) h1 (by rw[ho,show E'.sz b=E.sz b by unfold Env.sz; rw[hcp b hf hb]]; exact h2)
  | msE _ _ _ _ A hb hA=>exact .msE ag sz b off A (Nat.lt_of_lt_of_le hb hn) hA
 | .eptr _ _,_,hf,_=>by simp[AV.flatB] at hf
 | .pend _,_,hf,_=>by simp[AV.flatB] at hf
 | .sl sz f els,_,hf,h=>by
  cases els with
  | cons a l=>simp[AV.flatB] at hf
  | nil =>
   cases h with
   | slNil=>exact .slNil sz f _
   | sl _ _ _ g o cap vals k1 k2 k3 k4 k5 k6 k7=>exact .sl sz f [] g o cap vals k1 k2 (by simp) (by simp) (by simp) (by simp) (by simp)
 | .agg cs,_,hf,h=>by
  simp only[AV.flatB] at hf
  cases h with
  | agg _ vs hl h0 hv=>exact .agg cs vs hl h0 (flats_ok hn hμ hcp hf hv)
 | .tup cs,_,hf,h=>by
  simp only[AV.flatB] at hf
  cases h with
  | tup _ vs hl hv=>exact .tup cs vs hl (flats_ok hn hμ hcp hf hv)
 | .fn g cs,_,hf,h=>by
  simp only[AV.flatB] at hf
  cases h with
  | fn _ _ vs hl hv=>exact .fn g cs vs hl (flats_ok hn hμ hcp hf hv)
theorem flats_ok {E E':Env} {n:Nat} (hn:E.n≤E'.n) (hμ:∀ b,n≤b→b<E.n→E'.μ b=E.μ b) (hcp:∀ b,n≤b→b<E.n→E'.cp b=E.cp b):∀ {cs:List AV} {vs:Array Value},AV.flatL n cs=true →
  (∀ (i:Nat) c v,cs[i]?=some c→vs[i]?=some v→V E c v)→∀ (i:Nat) c v,cs[i]?=some c→vs[i]?=some v→V E' c v
 | [],_,_,_=>fun i c v hi=>by simp at hi
 | a::cs,vs,hf,hv=>fun i c v hi hx=>by
  simp only[AV.flatL,Bool.and_eq_true] at hf
  cases i with
  | zero =>
   simp at hi
   subst hi
   exact flat_ok hn hμ hcp hf.1 (hv 0 _ v rfl hx)
  | succ i =>
   refine flats_ok (vs:=vs.extract 1 vs.size) hn hμ hcp hf.2 (fun j c v hj hw=>hv (j+1) c v (by simpa using hj) ?_) i c v (by simpa using hi) ?_
   ·rw[Array.getElem?_extract] at hw
    split at hw
    ·rw[Nat.add_comm]; exact hw
    ·cases hw
   ·rw[Array.getElem?_extract]
    have:=(Array.getElem?_eq_some_iff.1 hx).1
    rw[if_pos (by simp; omega),Nat.add_comm]; exact hx
end

theorem flatB_get {n:Nat}:∀ {cs:List AV},AV.flatL n cs=true→∀ {i:Nat} {c:AV},cs[i]?=some c→c.flatB n=true
 | [],_,i,c,hi=>by simp at hi
 | a::cs,h,i,c,hi=>by
  simp only[AV.flatL,Bool.and_eq_true] at h
  cases i with
  | zero=>simp at hi; subst hi; exact h.1
  | succ i=>exact flatB_get h.2 (by simpa using hi)

open Classical in
noncomputable def Env.unlend (E E2:Env) (n:Nat):Env:={ w:=E2.w,pr:=fun g=>if g<E.w.heap.size then E.pr g else E2.pr g,μ:=E2.μ,n:=n,cp:=E2.cp }

theorem lend_ret {E:Env} {s s1 s2:St} {v:AV} {ow:Bool} {y:Value} {w':World} (hc:Core E s) (hlo:s.lo≤s.n) (R:Ret E.blind s.blind v ow s1 y w') (hf:v.flatB s.n=true)
  (hs2:s2=s.join s1∨(s2=s∧s1.n=s.n)):Ret E s v false s2 y w':=by
 obtain ⟨E2,rfl,R⟩:=R
 have hen:=hc.n
 have hn:s.n≤s1.n:=R.n
 have h2n:s2.n=s1.n:=by
  rcases hs2 with rfl | ⟨rfl,h⟩
  ·rfl
  ·exact h.symm
 have hold:∀ b,b<s.n→s2.h b=s.h b∧s2.ow b=s.ow b:=by
  intro b hb'
  rcases hs2 with rfl | ⟨rfl,_⟩
  ·simp[St.join,hb']
  ·exact ⟨rfl,rfl⟩
 have hnew:∀ b,s.n≤b→b<s2.n→s2.h b=(s1.h b).filter (AV.flatL s.n)∧s2.ow b=s1.ow b:=by
  intro b h1 h2
  rcases hs2 with rfl | ⟨rfl,h⟩
  ·simp[St.join,show ¬ b<s.n by omega]
  ·omega
 have hro:s2.ro=s.ro∧s2.lo=s.lo:=by rcases hs2 with rfl | ⟨rfl,_⟩<;>exact ⟨rfl,rfl⟩
 have hE2n:E2.n=s1.n:=R.core.n
 have hsz:E.w.heap.size≤E2.w.heap.size:=R.size
 have hμ:∀ b,b<s.n→E2.μ b=E.μ b:=fun b hb'=>R.le.μ b (by rw[← hen] at hb'; exact hb')
 have hcp:∀ b,b<s.n→E2.cp b=E.cp b:=fun b hb'=>R.le.cp b (by rw[← hen] at hb'; exact hb')
 have hheap:∀ g,g<E.w.heap.size→E2.w.heap[g]?=E.w.heap[g]?:=fun g hg=>(R.fr g hg blind_wr).1
 have hbig:∀ b,s.n≤b→b<s1.n→E.w.heap.size≤E2.μ b:=by
  intro b h1 h2
  rcases R.bx b h1 h2 with h | ⟨b0,k1,k2,_⟩
  ·exact h
  ·have k1':s.n≤b0:=k1
   have k2':b0<s.n:=k2
   omega
 have hprn:∀ g,E.w.heap.size≤g→E.pr g=0:=hc.new
 have hle:E.le (E.unlend E2 s2.n):=by
  refine ⟨by show E.n≤s2.n; omega,fun b hb'=>hμ b (hen▸hb'),fun g=>?_,fun g o ho=>?_,fun b hb'=>hcp b (hen▸hb')⟩
  ·simp only[Env.unlend]
   split
   ·exact Nat.le_refl _
   ·rw[hprn g (by omega)]; exact Nat.zero_le _
  ·have hg:g<E.w.heap.size:=by
    rcases Nat.lt_or_ge g E.w.heap.size with h | h
    ·exact h
    ·rw[hprn g h] at ho; omega
   exact cell_heap (hheap g hg)
 have hfl:∀ {a:AV} {x:Value},a.flatB s.n=true→V E2 a x→V (E.unlend E2 s2.n) a x:=fun h1 h2=>flat_ok (E:=E2) (E':=E.unlend E2 s2.n) (by show E2.n≤s2.n; omega) (fun _ _ _=>rfl) (fun _ _ _=>rfl) h1 h2
 have hcell:∀ b i c x,CellAt (E.unlend E2 s2.n) s2 b i c x→CellAt E s b i c x∨(s.n≤b∧CellAt E2 s1 b i c x):=by
  rintro b i c x ⟨h1,h2,⟨cs,h3,h3'⟩,h4⟩
  rcases Nat.lt_or_ge b s.n with hb' | hb'
  ·rw[(hold b hb').2] at h2
   rw[(hold b hb').1] at h3
   refine .inl ⟨hb',h2,⟨cs,h3,h3'⟩,?_⟩
   rw[← h4]
   show _=E2.w.cell? ⟨E2.μ b,E2.off b+i,none⟩
   rw[hμ b hb',show E2.off b=E.off b by unfold Env.off; rw[hcp b hb']]
   exact (cell_heap (hheap _ (hc.blt b hb'))).symm
  ·rw[(hnew b hb' h1).2] at h2
   rw[(hnew b hb' h1).1,Option.filter_eq_some_iff] at h3
   exact .inr ⟨hb',by omega,h2,⟨cs,h3.1,h3'⟩,h4⟩
 have hncs:∀ b i g,¬ CellSp E.blind s.blind b i g:=by
  rintro b i g ⟨c,x,⟨_,h2,_⟩,_⟩
  cases h2
 have hfresh:∀ b i g,CellSp E2 s1 b i g→E.w.heap.size≤g:=by
  intro b i g h
  rcases R.oC b i g h with h | ⟨b',i',h⟩
  ·exact h
  ·exact absurd h (hncs _ _ _)
 have hcs:∀ b i g,CellSp (E.unlend E2 s2.n) s2 b i g→CellSp E s b i g∨(s.n≤b∧CellSp E2 s1 b i g):=fun b i g ⟨c,x,h1,h2⟩=>by
  rcases hcell _ _ _ _ h1 with h | ⟨h,h'⟩
  ·exact .inl ⟨c,x,h,h2⟩
  ·exact .inr ⟨h,c,x,h',h2⟩
 have hkeep:∀ {x z g},Spr E x z g→Spr (E.unlend E2 s2.n) x z g:=by
  intro x z g hs
  have hg:=hs.lt
  refine hs.keep (hheap g hg) (by simp only[Env.unlend]; rw[if_pos hg]) (fun b hb'=>?_)
  have hb2:b<s2.n:=hb'
  show E2.μ b≠g
  rcases Nat.lt_or_ge b s.n with h | h
  ·rw[hμ b h]; exact hs.box b (hen▸h)
  ·have:=hbig b h (by omega); omega
 refine ⟨E.unlend E2 s2.n,rfl,?_⟩
 exact
  { core :=
      { n:=rfl
        new:=fun g hg=>by
          have hg':E2.w.heap.size≤g:=hg
          simp only[Env.unlend]
          rw[if_neg (by omega)]
          exact R.core.new g hg'
        box:=fun b cs hb' hh=>by
          have hb2:b<s2.n:=hb'
          have hh':s2.h b=some cs:=hh
          rcases Nat.lt_or_ge b s.n with h | h
          · rw[(hold b h).1] at hh'
            obtain ⟨cur,e,k1,k2,k3,k4⟩:=hc.box b cs h hh'
            refine ⟨cur,e,?_,?_,?_,?_⟩
            · show E2.w.heap[E2.μ b]?=_
              rw[hμ b h,hheap _ (hc.blt b h)]; exact k1
            · show _=E2.sz b
              unfold Env.sz; rw[hcp b h]; exact k2
            · have:=k3.le hle
              rw[← show E2.off b=E.off b by unfold Env.off; rw[hcp b h]] at this
              exact this
            · show (E.unlend E2 s2.n).pr (E2.μ b)=0
              rw[hμ b h]
              simp only[Env.unlend]
              rw[if_pos (hc.blt b h)]; exact k4
          · have hb1:b<s1.n:=by omega
            rw[(hnew b h hb2).1,Option.filter_eq_some_iff] at hh'
            obtain ⟨hh',hfc⟩:=hh'
            obtain ⟨cur,e,k1,k2,k3,k4⟩:=R.core.box b cs hb1 hh'
            refine ⟨cur,e,k1,k2,⟨k3.len,k3.one,fun i c x hi hx=>hfl (flatB_get hfc hi) (k3.v i c x hi hx)⟩,?_⟩
            show (E.unlend E2 s2.n).pr (E2.μ b)=0
            simp only[Env.unlend]
            have:=hbig b h hb1
            rw[if_neg (by omega)]; exact k4
        blt:=fun b hb'=>R.core.blt b (by have hb2:b<s2.n:=hb'; show b<s1.n; omega)
        inj:=fun b b' hlt hb' e=>by
          have hb2:b'<s2.n:=hb'
          have e':E2.μ b=E2.μ b':=e
          rcases Nat.lt_or_ge b' s.n with h | h
          · have hbb:b<s.n:=by omega
            show s2.h b=none
            rw[(hold b hbb).1]
            rw[hμ b hbb,hμ b' h] at e'
            exact hc.inj b b' hlt h e'
          · rcases Nat.lt_or_ge b s.n with h' | h'
            · have:=hbig b' h (by omega)
              have:=hc.blt b h'
              rw[hμ b h'] at e'
              omega
            · show s2.h b=none
              rw[(hnew b h' (by omega)).1,show s1.h b=none from R.core.inj b b' hlt (by show b'<s1.n; omega) e']
              rfl
        held:=fun b i c x hx g hg=>by
          rcases hcell _ _ _ _ hx with h | ⟨hb',h⟩
          · exact hkeep (hc.held b i c x h g hg)
          · have hs:Spr E2 c x g:=R.core.held b i c x h g hg
            have hg2:=hfresh b i g ⟨c,x,h,hg⟩
            refine hs.keep (E':=E.unlend E2 s2.n) rfl (by simp only[Env.unlend]; rw[if_neg (by omega)]) (fun b' hb2=>hs.box b' ?_)
            have hb3:b'<s2.n:=hb2
            omega
        dj:=fun b i b' i' g h1 h2=>by
          rcases hcs _ _ _ h1 with k1 | ⟨_,k1⟩<;>rcases hcs _ _ _ h2 with k2 | ⟨_,k2⟩
          · exact hc.dj b i b' i' g k1 k2
          · have:=hfresh _ _ _ k2; have:=hc.lt k1; omega
          · have:=hfresh _ _ _ k1; have:=hc.lt k2; omega
          · exact R.core.dj b i b' i' g k1 k2 }
    le:=hle
    os:=R.os
    tape:=R.tape
    out:=R.out
    size:=hsz
    fr:=fun g hg _=>⟨hheap g hg,by simp only[Env.unlend]; rw[if_pos hg]⟩
    bx:=fun b h1 h2=>.inl (hbig b h1 (by have h3:b<s2.n:=h2; omega))
    v:=fun t=>by
      have:=R.v t
      by_cases ht:t=0
      · subst ht
        simp only[retFr,if_pos] at this ⊢
        exact hfl hf this
      · simp only[retFr,if_neg ht]; exact .undef _
    held:=fun t ht=>by simp[retFr] at ht
    dt:=fun t t' g h1 _=>by have:=h1.1; simp[retFr] at this
    dc:=fun t b i g h1 _=>by have:=h1.1; simp[retFr] at this
    oT:=fun t g h1=>by have:=h1.1; simp[retFr] at this
    oC:=fun b i g h1=>by
      rcases hcs _ _ _ h1 with h | ⟨_,h⟩
      · exact .inr ⟨b,i,h⟩
      · exact .inl (hfresh _ _ _ h)
    ro:=hro.1
    lo:=hro.2
    n:=by show s.n≤s2.n; omega
    n0:=hc.n
    lon:=hlo
    pb:=fun k hk hp b cs hbk hcs'=>by
      have:b<s.n:=by omega
      exact hp b cs hbk (by rw[← (hold b this).1]; exact hcs')
    nt:=Nat.le_refl _ }

theorem give_ret {E:Env} {s s1:St} {v:AV} {ow:Bool} {y:Value} {w':World} (hc:Core E s) (hlo:s.lo≤s.n) (h0:s.ro=0) (R:Ret E.blind s.blind v ow s1 y w'):Ret E s v ow { s1 with ro:=s.ro,lo:=s.lo } y w':=by
 obtain ⟨E2,rfl,R⟩:=R
 have hle:=(Env.blind_le hc).trans R.le
 have hpr:∀ g,¬ Wr E s g→E.blind.pr g=E.pr g:=by
  intro g hw
  show (E.cut 0).pr g=E.pr g
  refine Env.cut_other (fun b hb e=>hw (.inl ⟨b,by omega,by have:=hc.n; omega,e.symm⟩))
 have hncs:∀ b i g,¬ CellSp E.blind s.blind b i g:=by
  rintro b i g ⟨c,x,⟨_,h2,_⟩,_⟩
  cases h2
 refine ⟨E2,rfl,?_⟩
 exact
  { core:=⟨R.core.n,R.core.new,R.core.box,R.core.blt,R.core.inj,R.core.held,R.core.dj⟩
    le:=hle
    os:=R.os
    tape:=R.tape
    out:=R.out
    size:=R.size
    fr:=fun g hg hw=>by
      obtain ⟨k1,k2⟩:=R.fr g hg blind_wr
      exact ⟨k1,k2.trans (hpr g hw)⟩
    bx:=fun b h1 h2=>by
      rcases R.bx b h1 h2 with h | ⟨b0,k1,k2,_⟩
      · exact .inl h
      · have k1':s.n≤b0:=k1
        have k2':b0<s.n:=k2
        omega
    v:=R.v
    held:=R.held
    dt:=R.dt
    dc:=R.dc
    oT:=fun t g h1=>by
      rcases R.oT t g h1 with h | ⟨b,i,h⟩
      · exact .inl h
      · exact absurd h (hncs _ _ _)
    oC:=fun b i g h1=>by
      rcases R.oC b i g h1 with h | ⟨b',i',h⟩
      · exact .inl h
      · exact absurd h (hncs _ _ _)
    ro:=rfl
    lo:=rfl
    n:=R.n
    n0:=hc.n
    lon:=hlo
    pb:=fun k hk _=>R.pb k (by show k≤s.n; omega) (fun b cs _ h=>by cases h)
    nt:=Nat.le_refl _ }

theorem lend_ok {P:Program} {C:Cfg} {al:Bool} {call:CallFn} (h:CallOK P C.tab call) (hk:∀ g J args s v ow s1,C.ext g=none→tbl C al g=some J→J.keep=false→call g args s=some (v,ow,s1)→s1.n=s.n):CallOK P C.tab (lendC C al call):=by
 intro g args s v ow s' hr E vs h0 hc hlo hva
 unfold lendC at hr
 cases hφ:C.ext g with
 | some φ=>rw[hφ] at hr; exact h g args s v ow s' hr E vs h0 hc hlo hva
 | none =>
  rw[hφ] at hr
  simp only at hr
  cases hJ:tbl C al g with
  | none=>rw[hJ] at hr; cases hr
  | some J =>
   rw[hJ] at hr
   simp only at hr
   split at hr
   ·exact h g args s v ow s' hr E vs h0 hc hlo hva
   ·split at hr
    ·cases hr
    ·rename_i args' ha
     cases hcall:call g args' s.blind with
     | none=>rw[hcall] at hr; cases hr
     | some p =>
      obtain ⟨v0,o0,s1⟩:=p
      rw[hcall] at hr
      simp only at hr
      have R:=h g args' s.blind v0 o0 s1 hcall E.blind vs (fun g vs hm=>⟨(h0 g vs hm).1,blind_wr,(h0 g vs hm).2.2⟩) (blind_core hc) (Nat.le_refl _) (hva.fin hc ha)
      split at hr
      ·split at hr
       ·rename_i hcond
        simp only[Option.some.injEq,Prod.mk.injEq] at hr
        obtain ⟨rfl,rfl,rfl⟩:=hr
        refine R.mono fun y w' hR=>lend_ret hc hlo hR hcond ?_
        cases hkp:J.keep with
        | true=>left; rw[if_pos rfl]
        | false=>right; exact ⟨by rw[if_neg (by simp)],hk g J args' s.blind v0 o0 s1 hφ hJ hkp hcall⟩
       ·cases hr
      ·split at hr
       ·rename_i hro
        simp only[Option.some.injEq,Prod.mk.injEq] at hr
        obtain ⟨rfl,rfl,rfl⟩:=hr
        exact R.mono fun y w' hR=>give_ret hc hlo hro hR
       ·cases hr
end Ae
namespace Ae
open Go

def dstOk (nt:Nat) (ops:Array Oper):Bool:=ops.toList.all fun o=>match o.dst with | some d=>decide (d<nt) | none=>true

theorem dstOk_spec {nt:Nat} {ops:Array Oper} (h:dstOk nt ops=true):∀ o∈ops.toList,∀ d,o.dst=some d→d<nt:=by
 intro o ho d hd
 have:=List.all_eq_true.1 h o ho
 simpa[hd] using this

def DrawOK (P:Program) (C:Cfg) (dk:FI→Array Oper→Bool):Prop :=
 ∀ (I:FI) (ops:Array Oper) (id:Nat),dstOk I.nt ops=true→dk I ops=true→∀ (call:Bool→CallFn),(∀ al,CallOK P C.tab (call al))→∀ (E0:Env) (s0:St) (E:Env) (f f':Fr) (a:Act),TabE C.tab E0 s0→opsF C I call true ops ops.toList f=some f'→Inv E0 s0 I.nt E f a →
  (Code.region id ops true).wp P (fun e a' w'=>e=.normal∧a'.defers=a.defers∧∃ E',E'.w=w'∧Inv E0 s0 I.nt E' f' a') a E.w

def codeOk (dk:FI→Array Oper→Bool) (I:FI):Code→Bool
 | .seq a b=>codeOk dk I a&&codeOk dk I b
 | .cond _ a b=>codeOk dk I a&&codeOk dk I b
 | .block _ c=>codeOk dk I c
 | .loop c=>codeOk dk I c
 | .region _ ops draw=>dstOk I.nt ops&&(!draw||dk I ops)
 | _=>true

def Item.ok (dk:FI→Array Oper→Bool) (I:FI):Item→Bool
 | .code c=>codeOk dk I c
 | .inLoop c=>codeOk dk I c
 | .inBlock _=>true

def Item.m:Item→Go.Item
 | .code c=>.code c
 | .inLoop c=>.inLoop c
 | .inBlock id=>.inBlock id

theorem exitTo_ok {id:Nat}:∀ {t t':List Item},exitTo id t=some t'→Go.exitTo id (t.map Item.m)=some (t'.map Item.m)∧∀ x∈t',x∈t
 | [],_,h=>by simp[exitTo] at h
 | .code c::t,t',h=>by
  simp only[exitTo] at h
  obtain ⟨h1,h2⟩:=exitTo_ok h
  exact ⟨h1,fun x hx=>List.mem_cons_of_mem _ (h2 x hx)⟩
 | .inLoop c::t,t',h=>by
  simp only[exitTo] at h
  obtain ⟨h1,h2⟩:=exitTo_ok h
  exact ⟨h1,fun x hx=>List.mem_cons_of_mem _ (h2 x hx)⟩
 | .inBlock i::t,t',h=>by
  simp only[exitTo] at h
  split at h
  ·rename_i e
   cases h
   subst e
   exact ⟨by simp[Item.m,Go.exitTo],fun x hx=>List.mem_cons_of_mem _ hx⟩
  ·rename_i e
   obtain ⟨h1,h2⟩:=exitTo_ok h
   refine ⟨?_,fun x hx=>List.mem_cons_of_mem _ (h2 x hx)⟩
   have:(i == id)=false:=by simpa using e
   simp only[List.map_cons,Item.m,Go.exitTo,this]
   exact h1

structure FnOk (P:Program) (dk:FI→Array Oper→Bool) (g:Nat) (J:FI):Prop where
 ex : ∃ fn, P.funcs[g]? = some fn ∧ fn.body = some J.body ∧ fn.ntmps = J.nt ∧ fn.results.toList = J.res ∧ fn.name ≠ "runtime.NumGoroutine"
 code:codeOk dk J J.body=true

structure CfgOk (P:Program) (C:Cfg) (dk:FI→Array Oper→Bool):Prop where
 ty:TysOk P C
 fn:∀ al g J,tbl C al g=some J→FnOk P dk g J
 ext:∀ g φ,C.ext g=some φ→∀ args s v ow s1,φ args s=some (v,ow,s1)→∀ (E:Env) (vs:Array Value),TabE C.tab E s→Core E s→s.lo≤s.n→VA E args vs→Reach P g vs E.w (Ret E s v ow s1)

theorem ext0 {P:Program} {T:List (Nat × List Value)} {g:Nat} {φ:List AV→Option (AV × Bool)} (h:∀ args v ow,φ args=some (v,ow)→∀ (E:Env) (s:St) (vs:Array Value),Core E s→s.lo≤s.n→VA E args vs→Reach P g vs E.w (Ret E s v ow s)) :
  ∀ args s v ow s1,pureX φ args s=some (v,ow,s1)→∀ (E:Env) (vs:Array Value),TabE T E s→Core E s→s.lo≤s.n→VA E args vs→Reach P g vs E.w (Ret E s v ow s1):=fun args s v ow s1 h1 E vs _ hc hl hv=>by
 unfold pureX at h1
 rw[Option.map_eq_some_iff] at h1
 obtain ⟨⟨v1,o1⟩,h1,h2⟩:=h1
 cases h2
 exact h args _ _ h1 E s vs hc hl hv

section
variable {P:Program} {C:Cfg} {dk:FI→Array Oper→Bool}

def RunOK (P:Program) (C:Cfg) (dk:FI→Array Oper→Bool) (n:Nat):Prop :=
 ∀ (I:FI) (t:List Item) (f f':Fr),run C n I t f=some f'→(∀ x∈t,x.ok dk I=true)→∀ (E0:Env) (s0:St) (E:Env) (a:Act),TabE C.tab E0 s0→Inv E0 s0 I.nt E f a →
  ∀ (b:Frame) (cs:List Frame),∃ E' a' todo,Inv E0 s0 I.nt E' f' a'∧a'.defers=a.defers∧Steps P (lone (b.at a (t.map Item.m)) cs E.w) (lone { b.at a' todo with mode:=.returning } cs E'.w)

theorem callN_n {n:Nat} {al:Bool} {g:Nat} {J:FI} {args:List AV} {s:St} {v:AV} {ow:Bool} {s1:St} (h0:C.ext g=none) (h1:tbl C al g=some J) (h2:J.keep=false) (h:callN C n al g args s=some (v,ow,s1)):s1.n=s.n:=by
 unfold callN at h
 simp only[h0,h1,h2,Bool.false_eq_true,if_false] at h
 split at h
 ·cases h
 ·split at h
  ·cases h
  ·rw[Option.map_eq_some_iff] at h
   obtain ⟨v',_,he⟩:=h
   cases he
   rfl

theorem callN_ok (hC:CfgOk P C dk) {n:Nat} (hn:RunOK P C dk n) (al:Bool):CallOK P C.tab (callN C n al):=by
 intro g args s v ow s' h E vs htb hcore hlo hva
 unfold callN at h
 cases hφ:C.ext g with
 | some φ =>
  rw[hφ] at h
  simp only at h
  exact hC.ext g φ hφ args _ _ _ _ h E vs htb hcore hlo hva
 | none =>
  rw[hφ] at h
  simp only at h
  cases hJ:tbl C al g with
  | none=>rw[hJ] at h; cases h
  | some J =>
   rw[hJ] at h
   simp only at h
   obtain ⟨⟨fn,hfn,hbody,hnt,hres,hname⟩,hcode⟩:=hC.fn al g J hJ
   cases hr:run C n J [.code J.body] ⟨enterTm args,fun _=>false,if J.keep then s else { s with lo:=s.n }⟩ with
   | none=>rw[hr] at h; cases h
   | some f1 =>
    rw[hr] at h
    simp only at h
    cases hra:resA C J f1 with
    | none=>rw[hra] at h; cases h
    | some p =>
     obtain ⟨v0,o0⟩:=p
     rw[hra] at h
     simp only at h
     left
     refine ⟨?_,?_⟩
     ·simp[callFunc,hfn,hbody,hname]
     ·have key : ∀ (s0 : St), s0 = (if J.keep then s else { s with lo := s.n }) → Core E s0 → s0.lo ≤ s0.n → ∀ cs, ∃ E' a' todo, Inv E s0 J.nt E' f1 a' ∧ a'.defers = [] ∧
           Steps P (lone (Frame.enter P g vs .normal) cs E.w) (lone { ({ (default:Frame) with fn:=g,kind:=.normal }:Frame).at a' todo with mode:=.returning } cs E'.w):=by
       intro s0 hs0 hc0 hlo0 cs
       have htb0:TabE C.tab E s0:=by rw[hs0]; split<;>exact htb
       have hI:=Inv.enter (nt:=J.nt) hc0 hlo0 hva
       have henter:Frame.enter P g vs .normal=({ (default:Frame) with fn:=g,kind:=.normal }:Frame).at ⟨vs++Array.replicate (J.nt - vs.size) undef,[]⟩ ([Item.code J.body].map Item.m):=by
        simp[Frame.enter,Frame.at,hfn,hbody,hnt,Item.m]
       obtain ⟨E',a',todo,h1,h2,h3⟩:=hn J [.code J.body] _ f1 (by rw[hs0]; exact hr) (by simp[Item.ok,hcode]) E s0 E _ htb0 hI { (default:Frame) with fn:=g,kind:=.normal } cs
       exact ⟨E',a',todo,h1,h2,by rw[henter]; exact h3⟩
      by_cases hk:J.keep=true
      ·rw[if_pos hk] at h key
       cases h
       intro cs
       obtain ⟨E',a',todo,h1,h2,h3⟩:=key s rfl hcore hlo cs
       obtain ⟨y,r1,r2,r3⟩:=results_ok (P:=P) hC.ty h1 hres hra
       refine ⟨.returned y,E'.w,_,⟨y,rfl,E',rfl,h1.leaveKeep r2 (fun ho=>⟨(r3 ho).2.1,(r3 ho).2.2⟩)⟩,h3,rfl,rfl,h2,rfl,fn,hfn,r1⟩
      ·rw[if_neg hk] at h key
       rw[Option.map_eq_some_iff] at h
       obtain ⟨v',hf,he⟩:=h
       cases he
       intro cs
       obtain ⟨E',a',todo,h1,h2,h3⟩:=key { s with lo:=s.n } rfl ⟨hcore.n,hcore.new,hcore.box,hcore.blt,hcore.inj,hcore.held,hcore.dj⟩ (Nat.le_refl _) cs
       obtain ⟨y,r1,r2,r3⟩:=results_ok (P:=P) hC.ty h1 hres hra
       refine ⟨.returned y,E'.w,_,⟨y,rfl,E'.cut s.n,rfl,h1.leave hlo hcore r2 hf r3⟩,h3,rfl,rfl,h2,rfl,fn,hfn,r1⟩

theorem callF_ok (hC:CfgOk P C dk) {n:Nat} (hn:RunOK P C dk n) (al:Bool):CallOK P C.tab (callF C n al) :=
 lend_ok (callN_ok hC hn al) (fun _ _ _ _ _ _ _ h0 h1 h2 h=>callN_n h0 h1 h2 h)

theorem arr_all {nt:Nat} {ops:Array Oper} (h:∀ o∈ops.toList,∀ d,o.dst=some d→d<nt):∀ (j:Nat) o d,ops[j]?=some o→o.dst=some d→d<nt :=
 fun j o d hj hd=>h o (List.mem_of_getElem? (by simpa using hj:ops.toList[j]?=some o)) d hd

theorem Inv.frz {E0 E:Env} {s0:St} {nt d:Nat} {f f1:Fr} {a:Act} (h:Inv E0 s0 nt E f a) (hz:frz d f=some f1):∃ E1:Env,E1.w=E.w∧Inv E0 s0 nt E1 f1 a:=by
 unfold Ae.frz at hz
 by_cases hro:f.s.ro≤f.s.lo
 case neg=>rw[if_neg hro] at hz; cases hz
 rw[if_pos hro,Option.map_eq_some_iff] at hz
 obtain ⟨v',hf,rfl⟩:=hz
 have hn1:=h.core.n
 have hlon:f.s.lo≤f.s.n:=by rw[h.lo]; exact Nat.le_trans h.lon h.n
 have hcut:(E.cut f.s.lo).le { E.cut f.s.lo with n:=E.n }:=⟨by show f.s.lo≤E.n; omega,fun _ _=>rfl,fun _=>Nat.le_refl _,fun _ _ _=>rfl,fun _ _=>rfl⟩
 have hle:E.le { E.cut f.s.lo with n:=E.n }:=⟨Nat.le_refl _,fun _ _=>rfl,fun g=>Env.cut_pr h.core _ g,fun _ _ _=>rfl,fun _ _=>rfl⟩
 have hprb:∀ g,(∀ b,f.s.lo≤b→b<f.s.n→E.μ b≠g)→(E.cut f.s.lo).pr g=E.pr g:=by
  intro g hg
  unfold Env.cut
  simp only
  rw[if_neg]
  rintro ⟨b,h1,h2,h3⟩
  exact hg b h1 (hn1▸h2) h3
 have hspr:∀ {x z g},Spr E x z g→Spr { E.cut f.s.lo with n:=E.n } x z g:=by
  intro x z g hs
  exact hs.keep rfl (Env.cut_other hs.box) (fun b hb=>hs.box b hb)
 have hcell:∀ {b i c x},CellAt { E.cut f.s.lo with n:=E.n } { f.s with h:=fun b=>if b<f.s.lo then f.s.h b else none,ow:=fun b=>if b<f.s.lo then f.s.ow b else fun _=>false } b i c x→CellAt E f.s b i c x:=by
  rintro b i c x ⟨h1,h2,⟨cs,h3,h4⟩,h5⟩
  simp only at h2 h3
  by_cases hb:b<f.s.lo
  ·rw[if_pos hb] at h2 h3
   exact ⟨h1,h2,⟨cs,h3,h4⟩,h5⟩
  ·rw[if_neg hb] at h3; cases h3
 have hcs:∀ {b i g},CellSp { E.cut f.s.lo with n:=E.n } { f.s with h:=fun b=>if b<f.s.lo then f.s.h b else none,ow:=fun b=>if b<f.s.lo then f.s.ow b else fun _=>false } b i g→CellSp E f.s b i g:=fun ⟨c,x,h1,h2⟩=>⟨c,x,hcell h1,h2⟩
 have htmp:∀ {t g},TmpSp ⟨upd f.tm d v',upd f.os d false,{ f.s with h:=fun b=>if b<f.s.lo then f.s.h b else none,ow:=fun b=>if b<f.s.lo then f.s.ow b else fun _=>false }⟩ a t g→TmpSp f a t g:=by
  rintro t g ⟨h1,h2⟩
  simp only[upd] at h1 h2
  by_cases ht:t=d
  ·rw[if_pos ht] at h1; cases h1
  ·rw[if_neg ht] at h1 h2
   exact ⟨h1,h2⟩
 refine ⟨{ E.cut f.s.lo with n:=E.n },rfl,?_⟩
 exact
  { core :=
      { n:=hn1
        new:=fun g hg=>by
          have hg':E.w.heap.size≤g:=hg
          show (E.cut f.s.lo).pr g=0
          rw[hprb g (fun b _ hb e=>by have:=h.core.blt b hb; omega)]
          exact h.core.new g hg'
        box:=fun b cs hb hcs1=>by
          have hb':b<f.s.n:=hb
          simp only at hcs1
          by_cases hbl:b<f.s.lo
          · rw[if_pos hbl] at hcs1
            obtain ⟨cur,e,h2,h5,h3,h4⟩:=h.core.box b cs hb' hcs1
            refine ⟨cur,e,h2,h5,⟨h3.len,h3.one,fun i c x hc hx=>(h3.v i c x hc hx).le hle⟩,?_⟩
            show (E.cut f.s.lo).pr (E.μ b)=0
            rw[hprb _ (fun b' h1 h2' e'=>?_)]
            · exact h4
            · have:=h.core.inj b b' (by omega) h2' e'.symm
              rw[this] at hcs1; cases hcs1
          · rw[if_neg hbl] at hcs1; cases hcs1
        blt:=fun b hb=>h.core.blt b hb
        inj:=fun b b' h1 h2 e=>by
          show (if b<f.s.lo then f.s.h b else none)=none
          split
          · exact h.core.inj b b' h1 h2 e
          · rfl
        held:=fun b i c x hc g hg=>hspr (h.core.held b i c x (hcell hc) g hg)
        dj:=fun b i b' i' g h1 h2=>h.core.dj b i b' i' g (hcs h1) (hcs h2) }
    le:=h.le.trans hle
    os:=h.os,tape:=h.tape,out:=h.out,size:=h.size
    fr:=fun g hg hw=>⟨(h.fr g hg hw).1,by
      show (E.cut f.s.lo).pr g=E0.pr g
      rw[hprb g (fun b h1 h2 e=>?_)]
      · exact (h.fr g hg hw).2
      · by_cases hb:b<s0.n
        · refine hw (.inl ⟨b,by rw[← h.ro]; omega,hb,?_⟩)
          rw[← e]; exact h.le.μ b (h.n0▸hb)
        · rcases h.bx b (by omega) h2 with h' | ⟨b0,k1,k2,k3⟩
          · omega
          · exact hw (.inl ⟨b0,k1,k2,e.symm.trans k3⟩)⟩
    bx:=h.bx
    v:=fun t=>by
      show V _ (upd f.tm d v' t) _
      unfold upd
      split
      · rename_i ht
        subst ht
        exact ((fin_ok h.core hlon FINK _ _ _ (h.v t) hf).1).le hcut
      · exact (h.v t).le hle
    held:=fun t ht g hg=>by
      have ht':upd f.os d false t=true:=ht
      have hg':spare (upd f.tm d v' t) (a.tmps.getD t undef)=some g:=hg
      show Spr _ (upd f.tm d v' t) _ _
      unfold upd at ht' hg' ⊢
      by_cases e:t=d
      · rw[if_pos e] at ht'; cases ht'
      · rw[if_neg e] at ht' hg' ⊢
        exact hspr (h.held t ht' g hg')
    dt:=fun t t' g h1 h2=>h.dt t t' g (htmp h1) (htmp h2)
    dc:=fun t b i g h1 h2=>h.dc t b i g (htmp h1) (hcs h2)
    oT:=fun t g h1=>h.oT t g (htmp h1)
    oC:=fun b i g h1=>h.oC b i g (hcs h1)
    ro:=h.ro,lo:=h.lo,n:=h.n,n0:=h.n0,lon:=h.lon
    pb:=fun k hk hp b cs hb hcs1=>by
      have hcs2:(if b<f.s.lo then f.s.h b else none)=some cs:=hcs1
      split at hcs2
      · exact h.pb k hk hp b cs hb hcs2
      · cases hcs2
    nt:=h.nt }

theorem Inv.thaw {E0 E:Env} {s0:St} {nt:Nat} {I:FI} {c:Code} {f f1:Fr} {a:Act} (h:Inv E0 s0 nt E f a) (hz:thaw I c f=some f1):∃ E1:Env,E1.w=E.w∧Inv E0 s0 nt E1 f1 a:=by
 unfold Ae.thaw at hz
 split at hz
 ·cases hz; exact ⟨E,rfl,h⟩
 ·exact h.frz hz

theorem run_ok (hC:CfgOk P C dk) (hD:DrawOK P C dk):∀ n,RunOK P C dk n:=by
 intro n
 induction n with
 | zero=>intro I t f f' h; simp[run] at h
 | succ n ih =>
  intro I t f f' h hok E0 s0 E a htb hI b cs
  cases t with
  | nil =>
   cases h
   exact ⟨E,a,[],hI,rfl,.one step_end⟩
  | cons i t =>
   have hokt:∀ x∈t,x.ok dk I=true:=fun x hx=>hok x (List.mem_cons_of_mem _ hx)
   have hoki:=hok i (List.mem_cons_self ..)
   have go:∀ (t':List Item),run C n I t' f=some f'→(∀ x∈t',x.ok dk I=true)→step P (lone (b.at a ((i::t).map Item.m)) cs E.w)=.next (lone (b.at a (t'.map Item.m)) cs E.w) →
     ∃ E' a' todo,Inv E0 s0 I.nt E' f' a'∧a'.defers=a.defers∧Steps P (lone (b.at a ((i::t).map Item.m)) cs E.w) (lone { b.at a' todo with mode:=.returning } cs E'.w):=by
    intro t' h' hok' hs
    obtain ⟨E',a',todo,h1,h2,h3⟩:=ih I t' f f' h' hok' E0 s0 E a htb hI b cs
    exact ⟨E',a',todo,h1,h2,.head hs h3⟩
   cases i with
   | inLoop c =>
    simp only[run] at h
    cases hz:thaw I c f with
    | none=>rw[hz] at h; cases h
    | some f1 =>
     rw[hz] at h
     obtain ⟨E1,hw,hI1⟩:=hI.thaw hz
     obtain ⟨E',a',todo,h1,h2,h3⟩:=ih I (.code c::.inLoop c::t) f1 f' h (by
      intro x hx
      rcases List.mem_cons.1 hx with rfl | hx
      ·exact hoki
      ·rcases List.mem_cons.1 hx with rfl | hx
       ·exact hoki
       ·exact hokt x hx) E0 s0 E1 a htb hI1 b cs
     rw[hw] at h3
     exact ⟨E',a',todo,h1,h2,.head step_inLoop h3⟩
   | inBlock id=>exact go _ h hokt step_inBlock
   | code c =>
    cases c with
    | skip=>exact go _ h hokt step_skip
    | ret =>
     cases h
     exact ⟨E,a,_,hI,rfl,.one step_ret⟩
    | seq x y =>
     simp only[Item.ok,codeOk,Bool.and_eq_true] at hoki
     refine go _ h ?_ step_seq
     intro z hz
     rcases List.mem_cons.1 hz with rfl | hz
     ·exact hoki.1
     ·rcases List.mem_cons.1 hz with rfl | hz
      ·exact hoki.2
      ·exact hokt z hz
    | cond x p q =>
     simp only[Item.ok,codeOk,Bool.and_eq_true] at hoki
     simp only[run] at h
     have hV:=evalO_ok hI.v x
     cases hx:evalO f.tm x with
     | bool c =>
      rw[hx] at h hV
      generalize hX:a.eval x=X at hV
      cases hV
      cases c with
      | true =>
       refine go _ h ?_ (step_cond hX)
       intro z hz
       rcases List.mem_cons.1 hz with rfl | hz
       ·exact hoki.1
       ·exact hokt z hz
      | false =>
       refine go _ h ?_ (step_cond hX)
       intro z hz
       rcases List.mem_cons.1 hz with rfl | hz
       ·exact hoki.2
       ·exact hokt z hz
     | _=>rw[hx] at h; cases h
    | block id c =>
     refine go _ h ?_ step_block
     intro z hz
     rcases List.mem_cons.1 hz with rfl | hz
     ·exact hoki
     ·rcases List.mem_cons.1 hz with rfl | hz
      ·rfl
      ·exact hokt z hz
    | loop c =>
     refine go _ h ?_ step_loop
     intro z hz
     rcases List.mem_cons.1 hz with rfl | hz
     ·exact hoki
     ·rcases List.mem_cons.1 hz with rfl | hz
      ·exact hoki
      ·exact hokt z hz
    | exit id =>
     simp only[run] at h
     cases hx:exitTo id t with
     | none=>rw[hx] at h; cases h
     | some t' =>
      rw[hx] at h
      obtain ⟨h1,h2⟩:=exitTo_ok hx
      exact go _ h (fun z hz=>hokt z (h2 z hz)) (step_exit h1)
    | region id ops draw =>
     simp only[Item.ok,codeOk,Bool.and_eq_true] at hoki
     rw[run_region] at h
     cases ho:opsF C I (callF C n) draw ops ops.toList f with
     | none=>rw[ho] at h; cases h
     | some f1 =>
      rw[ho] at h
      simp only at h
      have hcall:=callF_ok hC ih
      have hd:=dstOk_spec hoki.1
      have hwp:(Code.region id ops draw).wp P (fun e a' w'=>e=.normal∧a'.defers=a.defers∧∃ E',E'.w=w'∧Inv E0 s0 I.nt E' f1 a') a E.w:=by
       cases draw with
       | false=>exact wp_region_list (ops_ok hC.ty hcall htb (arr_all hd) ops.toList E f f1 a hd ho hI rfl)
       | true=>exact hD I ops id hoki.1 (by simpa using hoki.2) (callF C n) hcall E0 s0 E f f1 a htb ho hI
      obtain ⟨e,a1,w1,⟨rfl,hd1,E1,rfl,hI1⟩,harr⟩:=hwp b (t.map Item.m) cs
      obtain ⟨E',a',todo,h1,h2,h3⟩:=ih I t f1 f' h hokt E0 s0 E1 a1 htb hI1 b cs
      exact ⟨E',a',todo,h1,h2.trans hd1,Steps.trans harr h3⟩
    | _=>cases h

end
end Ae
namespace Ae
open Go

def tmpsOf (xs:List Operand):List Nat:=xs.filterMap fun | .tmp t=>some t | _=>none
def gdst (all:Array Oper) (o:Oper):List Nat:=match o.guard with | some (j,_)=>((all[j]?).bind (·.dst)).toList | none=>[]
def oR (all:Array Oper) (o:Oper):List Nat:=tmpsOf o.op.operands.toList++gdst all o
def oA (I:FI) (o:Oper):List Nat :=
 match o.op with
 | .assign x=>tmpsOf [x]
 | .move x=>if I.mv.contains (o.dst.getD 0) then tmpsOf [x] else []
 | .slice _ x _ none none=>if I.mv.contains (o.dst.getD 0) then tmpsOf [x] else []
 | .store _ p x=>tmpsOf [p,x]
 | .call { callee:=.builtin .append,args,.. }=>tmpsOf args.toList
 | _=>[]
def oWt (o:Oper):List Nat:=o.dst.toList++(match o.op with | .store _ p _=>tmpsOf [p] | _=>[])
def oWo (I:FI) (o:Oper):List Nat:=o.dst.toList++oA I o
def oRh (I:FI) (o:Oper):Bool :=
 match o.op with
 | .load ..=>!I.im.contains (o.dst.getD 0)
 | .store _ p _=>!stPd I p
 | .makeSlice ..=>true
 | .call { callee:=.value _,.. }=>true
 | .buildSlice ..=>o.dst.any fun d=>I.dy.contains d
 | .slice ..=>o.dst.any fun d=>I.dy.contains d
 | .call { callee:=.builtin .append,.. }=>o.dst.any fun d=>I.dy.contains d
 | .alloc _ | .box _ _=>decide (o.dst.bind (lookBk I.bk)=some 1)
 | _=>false
def oWh (I:FI) (o:Oper):Bool :=
 match o.op with
 | .store _ p _=>!stPd I p
 | .makeSlice ..=>true
 | .call { callee:=.value _,.. }=>eff I o
 | .buildSlice ..=>o.dst.any fun d=>I.dy.contains d
 | .slice ..=>o.dst.any fun d=>I.dy.contains d
 | .call { callee:=.builtin .append,.. }=>o.dst.any fun d=>I.dy.contains d
 | .alloc _ | .box _ _=>decide (o.dst.bind (lookBk I.bk)=some 1)
 | _=>false
def oO (I:FI) (o:Oper):Bool :=
 match o.op with
 | .store _ p _=>!stPd I p
 | .makeSlice ..=>true
 | .load ..=>I.mv.contains (o.dst.getD 0)&&!I.im.contains (o.dst.getD 0)
 | .call { callee:=.value _,.. }=>eff I o
 | .buildSlice ..=>o.dst.any fun d=>I.dy.contains d
 | .slice ..=>o.dst.any fun d=>I.dy.contains d
 | .call { callee:=.builtin .append,.. }=>o.dst.any fun d=>I.dy.contains d
 | .alloc _ | .box _ _=>decide (o.dst.bind (lookBk I.bk)=some 1)
 | _=>false

theorem wh_rh {I:FI} {o:Oper} (h:oWh I o=true):oRh I o=true:=by
 unfold oWh at h
 unfold oRh
 split at h<;>simp_all
theorem wh_oo {I:FI} {o:Oper} (h:oWh I o=true):oO I o=true:=by
 unfold oWh at h
 unfold oO
 split at h<;>simp_all

def St.H (s:St):Nat × (Nat→Option (List AV)) × Nat × Nat:=(s.n,s.h,s.ro,s.lo)
theorem St.hext {s s':St} (h:s.H=s'.H) (k:s.ow=s'.ow):s=s':=by
 cases s; cases s'
 simp only[St.H,Prod.mk.injEq] at h
 obtain ⟨h1,h2,h3,h4⟩:=h
 simp only at h1 h2 h3 h4 k
 subst h1 h2 h3 h4 k
 rfl
theorem St.H_still {s s':St} (h:s.H=s'.H):s.still=s'.still:=by
 simp only[St.H,Prod.mk.injEq] at h
 obtain ⟨h1,h2,h3,h4⟩:=h
 simp only[St.still,h1,h2,h4]
theorem St.H_n {s s':St} (h:s.H=s'.H):s.n=s'.n:=by simp only[St.H,Prod.mk.injEq] at h; exact h.1
theorem St.H_h {s s':St} (h:s.H=s'.H):s.h=s'.h:=by simp only[St.H,Prod.mk.injEq] at h; exact h.2.1

structure Ag (R A:List Nat) (rh oo:Bool) (f g:Fr):Prop where
 tm:∀ t∈R,g.tm t=f.tm t
 os:∀ t∈A,g.os t=f.os t
 h:rh=true→g.s.H=f.s.H
 o:oo=true→g.s.ow=f.s.ow

structure Frm (Wt Wo:List Nat) (wh oo:Bool) (f f':Fr):Prop where
 tm:∀ t,t∉Wt→f'.tm t=f.tm t
 os:∀ t,t∉Wo→f'.os t=f.os t
 h:wh=false→f'.s.H=f.s.H
 o:oo=false→f'.s.ow=f.s.ow
 n:f.s.n≤f'.s.n

structure Sam (Wt Wo:List Nat) (wh oo:Bool) (f' g':Fr):Prop where
 tm:∀ t∈Wt,g'.tm t=f'.tm t
 os:∀ t∈Wo,g'.os t=f'.os t
 h:wh=true→g'.s.H=f'.s.H
 o:oo=true→g'.s.ow=f'.s.ow

section
variable {C:Cfg} {I:FI} {o:Oper} {f f' g:Fr}

theorem evalO_congr {tm tm':Nat→AV} {xs:List Operand} (h:∀ t∈tmpsOf xs,tm' t=tm t) {x:Operand} (hx:x∈xs):evalO tm' x=evalO tm x:=by
 cases x with
 | tmp t=>exact h t (List.mem_filterMap.2 ⟨.tmp t,hx,rfl⟩)
 | const v =>
  cases v with
  | pointer p=>cases p<;>rfl
  | slice p n c =>
   cases p with
   | none =>
    cases n with
    | zero=>cases c<;>rfl
    | succ n=>rfl
   | some p=>rfl
  | _=>rfl
 | global g=>rfl
 | func f=>rfl

theorem pureOp_congr {tm tm':Nat→AV} (h:∀ x∈o.op.operands.toList,evalO tm' x=evalO tm x):pureOp C o tm'=pureOp C o tm:=by
 unfold pureOp
 cases ho:o.op<;>simp only[ho,Op.operands] at h⊢
 case move x=>rw[h x (by simp)]
 case assign x=>rw[h x (by simp)]
 case pick c a b=>rw[h c (by simp),h a (by simp),h b (by simp)]
 case build t parts =>
  congr 1
  apply List.map_congr_left
  intro p hp
  rw[h p.2 (by simp only[List.mem_map]; exact ⟨p,hp,rfl⟩)]
 case nilCheck x=>rw[h x (by simp)]
 case binOp op t x y b=>rw[h x (by simp),h y (by simp)]
 case unOp op t x=>rw[h x (by simp)]
 case convert s d x=>rw[h x (by simp)]
 case makeFunc fn first captured =>
  cases fn with
  | func g =>
   simp only
   split
   ·congr 2
    apply List.map_congr_left
    intro p hp
    exact h p (by simp only[Array.toList_append,List.mem_append]; exact .inr hp)
   ·rfl
  | _=>rfl
 case slice t x lo hi mx =>
  rw[h x (by simp)]
  have e1:lo.map (evalO tm')=lo.map (evalO tm):=by cases lo with
   | none=>rfl
   | some y=>simp only[Option.map_some]; rw[h y (by simp)]
  have e2:hi.map (evalO tm')=hi.map (evalO tm):=by cases hi with
   | none=>rfl
   | some y=>simp only[Option.map_some]; rw[h y (by simp)]
  have e3:mx.map (evalO tm')=mx.map (evalO tm):=by cases mx with
   | none=>rfl
   | some y=>simp only[Option.map_some]; rw[h y (by simp)]
  rw[e1,e2,e3]
 case fieldAddr s x i=>rw[h x (by simp)]
 case field s x i=>rw[h x (by simp)]
 case indexAddr t x i=>rw[h x (by simp),h i (by simp)]
 case index t x i=>rw[h x (by simp),h i (by simp)]
 case extract x i=>rw[h x (by simp)]
 case call c =>
  cases c with
  | mk callee args argTypes =>
   cases callee with
   | builtin b =>
    by_cases hm:b=.max
    ·subst hm
     simp only
     have e:args.toList.map (evalO tm')=args.toList.map (evalO tm):=by
      apply List.map_congr_left
      intro x hx
      exact h x (by simp only[Call.operands,Array.empty_append]; exact hx)
     rw[e]
    cases b<;>try rfl
    case max=>exact absurd rfl hm
    simp only
    have e:args[0]?.map (evalO tm')=args[0]?.map (evalO tm):=by
     cases hx:args[0]? with
     | none=>rfl
     | some x =>
      simp only[Option.map_some]
      rw[h x (by simp only[Call.operands,Array.empty_append]; exact Array.mem_toList_iff.2 (Array.mem_of_getElem? hx))]
    rw[e]
   | _=>rfl

theorem makeOp_congr {tm tm':Nat→AV} (h:∀ x∈o.op.operands.toList,evalO tm' x=evalO tm x):makeOp C I o tm'=makeOp C I o tm:=by
 unfold makeOp
 cases ho:o.op<;>simp only[ho,Op.operands] at h⊢
 case buildSlice t len parts =>
  have e:(parts.toList.map fun p=>(p.1,evalO tm' p.2))=parts.toList.map fun p=>(p.1,evalO tm p.2):=by
   apply List.map_congr_left
   intro p hp
   rw[h p.2 (by simp only[List.mem_map]; exact ⟨p,hp,rfl⟩)]
  rw[e]
 case box t x=>rw[h x (by simp)]

theorem callee_congr {tm tm':Nat→AV} (h:∀ x∈o.op.operands.toList,evalO tm' x=evalO tm x):callee? o tm'=callee? o tm:=by
 unfold callee?
 cases ho:o.op<;>simp only[ho,Op.operands] at h⊢
 case call c =>
  cases c with
  | mk callee args argTypes =>
   cases callee with
   | value f =>
    simp only[Call.operands] at h
    simp only
    rw[h f (by simp)]
    have e:args.toList.map (evalO tm')=args.toList.map (evalO tm):=by
     apply List.map_congr_left
     intro p hp
     exact h p (by simp; right; simpa using hp)
    rw[e]
   | _=>rfl

theorem put_frm {d:Option Nat} {v:AV} {ow:Bool} {Wt Wo:List Nat} {wh oo:Bool} (h1:∀ i,d=some i→i∈Wt) (h2:∀ i,d=some i→i∈Wo):Frm Wt Wo wh oo f (f.put d v ow):=by
 cases d with
 | none=>exact ⟨fun _ _=>rfl,fun _ _=>rfl,fun _=>rfl,fun _=>rfl,Nat.le_refl _⟩
 | some d =>
  refine ⟨fun t ht=>?_,fun t ht=>?_,fun _=>rfl,fun _=>rfl,Nat.le_refl _⟩
  ·have e:t≠d:=fun e=>ht (e▸h1 d rfl)
   simp[Fr.put,upd,e]
  ·have e:t≠d:=fun e=>ht (e▸h2 d rfl)
   simp[Fr.put,upd,e]

theorem dst_Wt (i:Nat) (h:o.dst=some i):i∈oWt o:=List.mem_append_left _ (by simp[h])
theorem dst_Wo (i:Nat) (h:o.dst=some i):i∈oWo I o:=List.mem_append_left _ (by simp[h])

theorem Frm.of_s {Wt Wo:List Nat} {s:St} (h:Frm Wt Wo true true f f') (hn:f.s.n≤s.n:=by exact Nat.le_succ _):Frm Wt Wo true true f { f' with s:=s }:=⟨h.tm,h.os,fun e=>(by cases e),fun e=>(by cases e),hn⟩
theorem Frm.of_o {Wt Wo:List Nat} {wh:Bool} {s:St} (h:Frm Wt Wo wh true f f') (hH:s.H=f'.s.H):Frm Wt Wo wh true f { f' with s:=s }:=⟨h.tm,h.os,fun e=>hH.trans (h.h e),fun e=>(by cases e),(St.H_n hH)▸h.n⟩

theorem drop_frm {d:Option Nat} {v:AV} {ow:Bool} {os':Nat→Bool} {Wt Wo:List Nat} {wh oo:Bool} (h0:∀ t,t∉Wo→os' t=f.os t) (h1:∀ i,d=some i→i∈Wt) (h2:∀ i,d=some i→i∈Wo):Frm Wt Wo wh oo f (({ f with os:=os' }:Fr).put d v ow):=by
 have:=put_frm (f:={ f with os:=os' }) (v:=v) (ow:=ow) (wh:=wh) (oo:=oo) h1 h2
 exact ⟨this.tm,fun t ht=>(this.os t ht).trans (h0 t ht),this.h,this.o,this.n⟩

theorem clearO_out {os:Nat→Bool} {x:Operand} {A:List Nat} (h:∀ t,x=.tmp t→t∈A) (t:Nat) (ht:t∉A):clearO os x t=os t:=by
 cases x with
 | tmp t' =>
  have:t≠t':=fun e=>ht (e▸h t' rfl)
  simp[clearO,upd,this]
 | _=>rfl

theorem mem_tmpsOf {xs:List Operand} {t:Nat} (h:Operand.tmp t∈xs):t∈tmpsOf xs:=List.mem_filterMap.2 ⟨.tmp t,h,rfl⟩

theorem cutV_dy {r} (h:cutV C I o f.tm f.s=some r):oWh I o=true∧oRh I o=true∧oO I o=true:=by
 unfold cutV at h
 split at h
 ·rename_i t x lo hi ho
  split at h
  ·rename_i hd
   simp only[oWh,oRh,oO,ho]
   exact ⟨hd,hd,hd⟩
  ·cases h
 ·cases h
theorem cutM_frm (h:cutM C I o f=some f'):Frm (oWt o) (oWo I o) (oWh I o) (oO I o) f f':=by
 unfold cutM at h
 rw[Option.map_eq_some_iff] at h
 obtain ⟨r,hr,rfl⟩:=h
 obtain ⟨h1,h2,h3⟩:=cutV_dy hr
 have h4:=put_frm (f:=f) (v:=.ms r.2.1 r.2.2.1 f.s.n 0 r.2.2.2.1) (ow:=false) (wh:=true) (oo:=true) (dst_Wt (o:=o)) (dst_Wo (I:=I))
 rw[h1,h3]
 refine ⟨h4.tm,h4.os,?_,?_,Nat.le_succ _⟩
 ·intro e; cases e
 ·intro e; cases e
theorem cutV_congr (he:∀ x∈o.op.operands.toList,evalO g.tm x=evalO f.tm x) (hs:oWh I o=true→g.s.H=f.s.H):cutV C I o g.tm g.s=cutV C I o f.tm f.s:=by
 unfold cutV
 split
 ·rename_i t x lo hi ho
  by_cases hd:(o.dst.any fun d=>I.dy.contains d)=true
  ·rw[if_pos hd,if_pos hd]
   have hH:=hs (by simp only[oWh,ho]; exact hd)
   simp only[St.H,Prod.mk.injEq] at hH
   have e1:evalO g.tm x=evalO f.tm x:=he x (by simp[ho,Op.operands])
   have e2:lo.map (evalO g.tm)=lo.map (evalO f.tm):=by
    cases lo with
    | none=>rfl
    | some y=>exact congrArg some (he y (by simp[ho,Op.operands]))
   have e3:hi.map (evalO g.tm)=hi.map (evalO f.tm):=by
    cases hi with
    | none=>rfl
    | some y=>exact congrArg some (he y (by simp[ho,Op.operands]))
   rw[e1,e2,e3,hH.2.1,hH.2.2.1]
  ·rw[if_neg hd,if_neg hd]
 ·rfl

theorem opF_frm (h:opF C I o f=some f'):Frm (oWt o) (oWo I o) (oWh I o) (oO I o) f f':=by
 unfold opF at h
 cases h1:moveOp C I o f with
 | some f1 =>
  rw[h1] at h
  cases h
  unfold moveOp at h1
  split at h1
  ·rename_i ty t lo ho
   split at h1
   ·rename_i hmv
    rw[Option.map_eq_some_iff] at h1
    obtain ⟨v,_,rfl⟩:=h1
    refine drop_frm (fun t' ht'=>?_) dst_Wt dst_Wo
    have:t'≠t:=fun e=>ht' (by subst e; exact List.mem_append_right _ (by simp only[oA,ho]; rw[if_pos hmv]; simp[tmpsOf]))
    simp[upd,this]
   ·exact cutM_frm h1
  ·rename_i t ho
   cases h1
   refine drop_frm (fun t' ht'=>?_) dst_Wt dst_Wo
   have:t'≠t:=fun e=>ht' (by subst e; exact List.mem_append_right _ (by simp[oA,ho,tmpsOf]))
   simp[upd,this]
  ·rename_i t ho
   split at h1
   ·rename_i hmv
    cases h1
    refine drop_frm (fun t' ht'=>?_) dst_Wt dst_Wo
    have:t'≠t:=fun e=>ht' (by subst e; exact List.mem_append_right _ (by simp only[oA,ho]; rw[if_pos hmv]; simp[tmpsOf]))
    simp[upd,this]
   ·cases h1
  ·exact cutM_frm h1
 | none =>
  rw[h1] at h
  simp only at h
  cases h2:pureOp C o f.tm with
  | some v=>rw[h2] at h; cases h; exact put_frm dst_Wt dst_Wo
  | none =>
   rw[h2] at h
   simp only at h
   cases h3:makeOp C I o f.tm with
   | some v=>rw[h3] at h; cases h; exact put_frm dst_Wt dst_Wo
   | none =>
    rw[h3] at h
    simp only at h
    unfold memOp at h
    split at h
    ·rename_i t ho
     split at h
     ·split at h
      ·rename_i hb
       have hws:oWh I o=true:=by simp[oWh,ho,hb]
       rw[wh_oo hws,hws]
       split at h
       ·cases h; exact (put_frm dst_Wt dst_Wo).of_s
       ·cases h
      ·split at h
       ·rename_i d hd
        split at h
        ·cases h; exact put_frm (fun i hi=>dst_Wt i (hd.trans hi)) (fun i hi=>dst_Wo i (hd.trans hi))
        ·cases h
       ·cases h
     ·cases h
    ·rename_i t x ho
     dsimp only at h
     split at h
     ·split at h
      ·rename_i hb
       have hws:oWh I o=true:=by simp[oWh,ho,hb]
       rw[wh_oo hws,hws]
       split at h
       ·cases h; exact (put_frm dst_Wt dst_Wo).of_s
       ·cases h
      ·cases h
     ·cases h
    ·rename_i t x ho
     split at h
     ·cases h
     ·split at h
      ·split at h
       ·rename_i hcs
        have him:=(imH_some hcs).1
        rw[Option.bind_eq_some_iff] at h
        obtain ⟨v,hp,h⟩:=h
        split at h
        ·rename_i hmv
         simp only[Bool.and_eq_true] at hmv
         have hws:oO I o=true:=by simp only[oO,ho]; rw[him,hmv.1.1]; rfl
         rw[hws]
         split at h
         ·cases h
          exact (put_frm dst_Wt dst_Wo).of_o (by cases o.dst<;>rfl)
         ·cases h
        ·cases h; exact put_frm dst_Wt dst_Wo
       ·cases h
      ·rw[Option.map_eq_some_iff] at h
       obtain ⟨v,hp,rfl⟩:=h
       exact put_frm dst_Wt dst_Wo
      ·cases h
    ·rename_i t p x ho
     dsimp only at h
     have hA:∀ t,x=.tmp t∨p=.tmp t→t∈oWo I o:=by
      intro t ht
      refine List.mem_append_right _ ?_
      simp only[oA,ho]
      refine mem_tmpsOf ?_
      rcases ht with rfl | rfl<;>simp
     split at h
     ·cases h
     ·split at h
      ·split at h
       ·split at h
        ·rename_i cs hcs
         have hws:oWh I o=true:=by simp[oWh,ho,(imS_some hcs).1]
         rw[wh_oo hws,hws]
         split at h
         ·split at h
          ·cases h
           exact ⟨fun _ _=>rfl,fun t ht=>clearO_out (fun t' e=>hA t' (.inl e)) t ht,fun e=>(by cases e),fun e=>(by cases e),Nat.le_refl _⟩
          ·cases h
         ·cases h
        ·cases h
       ·split at h
        ·rename_i d hdd
         split at h
         ·cases h
          refine ⟨fun t ht=>?_,fun t ht=>?_,fun _=>rfl,fun _=>rfl,Nat.le_refl _⟩
          ·have e:t≠d:=fun e=>ht (by subst e; refine List.mem_append_right _ ?_; simp only[ho]; exact mem_tmpsOf (by simp))
           simp[upd,e]
          ·have e:t≠d:=fun e=>ht (by subst e; exact hA _ (.inr rfl))
           simp[upd,e]
         ·cases h
        ·cases h
       ·cases h
      ·cases h
    ·rename_i t ln cp ho
     have hws:oWh I o=true:=by simp[oWh,ho]
     rw[wh_oo hws,hws]
     split at h
     ·split at h
      ·split at h
       ·split at h
        ·cases h; exact (put_frm dst_Wt dst_Wo).of_s
        ·split at h
         ·cases h; exact put_frm dst_Wt dst_Wo
         ·cases h
       ·cases h
      ·cases h
     ·cases h
    ·rename_i t ln parts ho
     split at h
     ·rename_i hdy
      have hws:oWh I o=true:=by simp only[oWh,ho]; exact hdy
      rw[wh_oo hws,hws]
      split at h
      ·split at h
       ·split at h
        ·split at h
         ·cases h; exact (put_frm dst_Wt dst_Wo).of_s
         ·cases h
        ·cases h
       ·cases h
      ·cases h
     ·cases h
    ·rename_i args argTypes ho
     split at h
     ·rename_i x y st yt hargs _
      split at h
      ·split at h
       ·split at h
        ·split at h
         ·split at h
          ·split at h
           ·rename_i hdy
            have hws:oWh I o=true:=by simp only[oWh,ho]; exact hdy
            rw[wh_oo hws,hws]
            split at h
            ·cases h; exact (put_frm dst_Wt dst_Wo).of_s
            ·split at h
             ·cases h; exact put_frm dst_Wt dst_Wo
             ·cases h
           ·cases h
            refine drop_frm (fun t ht=>clearO_out (fun t' e=>?_) t ht) dst_Wt dst_Wo
            refine List.mem_append_right _ ?_
            simp only[oA,ho]
            exact mem_tmpsOf (by rw[hargs,← e]; simp)
          ·cases h
         ·cases h
        ·cases h
       ·split at h
        ·rename_i hdy
         have hws:oWh I o=true:=by simp only[oWh,ho]; exact hdy
         rw[wh_oo hws,hws]
         unfold appM at h
         split at h
         ·split at h
          ·split at h
           ·split at h
            ·cases h; exact (put_frm dst_Wt dst_Wo).of_s
            ·cases h
           ·cases h
          ·cases h
         ·cases h
        ·cases h
       ·cases h
      ·cases h
     ·cases h
    ·cases h

end
end Ae
namespace Ae
open Go

section
variable {C:Cfg} {I:FI} {o:Oper} {f f' g:Fr}

theorem put_sam {f1 g1:Fr} {d:Option Nat} {v:AV} {ow:Bool} {Wt Wo:List Nat} {wh oo:Bool} (h1:∀ t∈Wt,some t≠d→g1.tm t=f1.tm t) (h2:∀ t∈Wo,some t≠d→g1.os t=f1.os t) (h3:wh=true→g1.s.H=f1.s.H) (h4:oo=true→g1.s.ow=f1.s.ow) :
  Sam Wt Wo wh oo (f1.put d v ow) (g1.put d v ow):=by
 cases d with
 | none=>exact ⟨fun t ht=>h1 t ht (by simp),fun t ht=>h2 t ht (by simp),h3,h4⟩
 | some d =>
  refine ⟨fun t ht=>?_,fun t ht=>?_,h3,h4⟩
  ·by_cases e:t=d
   ·simp[Fr.put,upd,e]
   ·simp only[Fr.put,upd,if_neg e]; exact h1 t ht (by simpa using e)
  ·by_cases e:t=d
   ·simp[Fr.put,upd,e]
   ·simp only[Fr.put,upd,if_neg e]; exact h2 t ht (by simpa using e)

theorem Sam.of_s {Wt Wo:List Nat} {wh oo:Bool} {s:St} (h:Sam Wt Wo false false f g):Sam Wt Wo wh oo { f with s:=s } { g with s:=s }:=⟨h.tm,h.os,fun _=>rfl,fun _=>rfl⟩

theorem not_dst {t:Nat} {l:List Nat} (h:t∈o.dst.toList++l) (hd:some t≠o.dst):t∈l:=by
 rcases List.mem_append.1 h with h | h
 ·exfalso
  apply hd
  cases ho:o.dst with
  | none=>rw[ho] at h; cases h
  | some d =>
   rw[ho] at h
   simp at h
   rw[h]
 ·exact h

theorem put_same (hop:∀ t p x,o.op≠.store t p x) {v:AV} {ow:Bool} {wh oo:Bool} (hA:∀ t∈oA I o,g.os t=f.os t) (hs:wh=true→g.s.H=f.s.H) (ho:oo=true→g.s.ow=f.s.ow):Sam (oWt o) (oWo I o) wh oo (f.put o.dst v ow) (g.put o.dst v ow):=by
 refine put_sam (fun t ht hd=>?_) (fun t ht hd=>hA t (not_dst ht hd)) hs ho
 have:=not_dst ht hd
 split at this
 ·rename_i p _ he; exact absurd he (hop _ _ _)
 ·cases this

theorem moveOp_none (he:∀ x∈o.op.operands.toList,evalO g.tm x=evalO f.tm x) (hs:oWh I o=true→g.s.H=f.s.H) (h:moveOp C I o f=none):moveOp C I o g=none:=by
 unfold moveOp at h⊢
 rw[pureOp_congr he]
 split at h
 ·split at h
  ·rename_i hmv
   rw[if_pos hmv]
   rw[Option.map_eq_none_iff] at h⊢
   exact h
  ·rename_i hmv
   rw[if_neg hmv]
   unfold cutM at h⊢
   rw[Option.map_eq_none_iff] at h⊢
   rw[cutV_congr he hs]; exact h
 ·cases h
 ·split at h
  ·cases h
  ·rename_i hmv
   rw[if_neg hmv]
 ·unfold cutM at h⊢
  rw[Option.map_eq_none_iff] at h⊢
  rw[cutV_congr he hs]; exact h

theorem clearO_same {os os':Nat→Bool} {x:Operand} {t:Nat} (h:os' t=os t):clearO os' x t=clearO os x t:=by
 cases x with
 | tmp t' =>
  simp only[clearO,upd]
  split
  ·rfl
  ·exact h
 | _=>exact h

theorem memOp_loc (he:∀ x∈o.op.operands.toList,evalO g.tm x=evalO f.tm x) (hA:∀ t∈oA I o,g.os t=f.os t) (hsh:oRh I o=true→g.s.H=f.s.H) (hso:oO I o=true→g.s.ow=f.s.ow) (h:memOp C I o f=some f') :
  ∃ g',memOp C I o g=some g'∧Sam (oWt o) (oWo I o) (oWh I o) (oO I o) f' g':=by
 have hs:oWh I o=true→g.s=f.s:=fun e=>St.hext (hsh (wh_rh e)) (hso (wh_oo e))
 unfold memOp at h
 split at h
 ·rename_i t ho
  have hns:∀ t p x,o.op≠.store t p x:=by simp[ho]
  split at h
  ·rename_i ti hT
   split at h
   ·rename_i hb
    have hg:=hs (by simp[oWh,ho,hb])
    split at h
    ·rename_i hl
     cases h
     refine ⟨{ (g.put o.dst (.ptr g.s.n 0) false) with s:=g.s.push ti.zero.cells },by unfold memOp; simp only[ho,hT,hb,if_true,hl],?_⟩
     rw[hg]
     exact (put_same hns hA (fun e=>by cases e) (fun e=>by cases e)).of_s
    ·cases h
   ·rename_i hb
    split at h
    ·rename_i d hd
     split at h
     ·rename_i hc
      cases h
      rw[← hd]
      have hws:oWh I o=false:=by simp[oWh,ho]; rw[hd] at hb ⊢; exact hb
      have hws2:oO I o=false:=by simp[oO,ho]; rw[hd] at hb ⊢; exact hb
      refine ⟨g.put o.dst (.pend ti.size) true,by unfold memOp; simp only[ho,hT,hd] at hb ⊢; rw[if_neg hb,if_pos hc],?_⟩
      rw[hws,hws2]
      exact put_same hns hA (fun e=>by cases e) (fun e=>by cases e)
     ·cases h
    ·cases h
  ·cases h
 ·rename_i t x ho
  have hns:∀ t p x,o.op≠.store t p x:=by simp[ho]
  dsimp only at h
  split at h
  ·rename_i ti hT
   split at h
   ·rename_i hb
    have hg:=hs (by simp[oWh,ho,hb])
    have hx:=he x (by simp[ho,Op.operands])
    split at h
    ·rename_i hl
     cases h
     refine ⟨{ (g.put o.dst (.ptr g.s.n 0) false) with s:=g.s.push (evalO g.tm x).cells },by unfold memOp; simp only[ho,hT,hb,if_true,hx]; rw[if_pos hl],?_⟩
     rw[hg,hx]
     exact (put_same hns hA (fun e=>by cases e) (fun e=>by cases e)).of_s
    ·cases h
   ·cases h
  ·cases h
 ·rename_i t x ho
  have hns:∀ t p x,o.op≠.store t p x:=by simp[ho]
  have hnw:oWh I o=true→g.s.H=f.s.H:=fun e=>by simp[oWh,ho] at e
  have hx:=he x (by simp[ho,Op.operands])
  split at h
  ·cases h
  ·rename_i ti hT
   split at h
   ·rename_i b off hp
    split at h
    ·rename_i cs hcs
     obtain ⟨him,hcs⟩:=imH_some hcs
     have hgH:=hsh (by simp only[oRh,ho]; rw[him]; rfl)
     have hgc:imH I o g.s b=some cs:=by unfold imH; rw[if_neg (by rw[him]; simp),St.H_h hgH]; exact hcs
     rw[Option.bind_eq_some_iff] at h
     obtain ⟨v,hpart,h⟩:=h
     split at h
     ·rename_i hmv
      split at h
      ·rename_i how
       cases h
       have hg:g.s=f.s:=St.hext hgH (hso (by simp only[Bool.and_eq_true] at hmv; simp only[oO,ho]; rw[him,hmv.1.1]; rfl))
       refine ⟨{ (g.put o.dst v true) with s:={ f.s with ow:=upd f.s.ow b (upd (f.s.ow b) off false) } },by unfold memOp; simp only[ho,hT,hx,hp,hgc,hpart,Option.bind_some]; rw[if_pos hmv]; simp only[hg]; rw[if_pos how],?_⟩
       exact (put_same hns hA (fun e=>by cases e) (fun e=>by cases e)).of_s
      ·cases h
     ·rename_i hmv
      cases h
      refine ⟨g.put o.dst v false,by unfold memOp; simp only[ho,hT,hx,hp,hgc,hpart,Option.bind_some]; rw[if_neg hmv],?_⟩
      exact put_same hns hA hnw hso
    ·cases h
   ·rename_i cs off hp
    rw[Option.map_eq_some_iff] at h
    obtain ⟨v,hpart,rfl⟩:=h
    exact ⟨g.put o.dst v false,by unfold memOp; simp only[ho,hT,hx,hp,hpart,Option.map_some],put_same hns hA hnw hso⟩
   ·cases h
 ·rename_i t p x ho
  dsimp only at h
  have hx:=he x (by simp[ho,Op.operands])
  have hp':=he p (by simp[ho,Op.operands])
  have hosx:∀ t,x=.tmp t→g.os t=f.os t:=fun t e=>hA t (by simp only[oA,ho]; exact mem_tmpsOf (by simp[e]))
  have hosp:∀ t,p=.tmp t→g.os t=f.os t:=fun t e=>hA t (by simp only[oA,ho]; exact mem_tmpsOf (by simp[e]))
  split at h
  ·cases h
  ·rename_i ti hT
   split at h
   ·rename_i hc
    have hdn:o.dst=none:=by simp only[Bool.and_eq_true,Option.isNone_iff_eq_none] at hc; exact hc.1.2
    split at h
    ·rename_i b off hp
     split at h
     ·rename_i cs hcs
      have hg:=hs (by simp[oWh,ho,(imS_some hcs).1])
      split at h
      ·rename_i hro
       split at h
       ·rename_i hlo
        cases h
        refine ⟨_,by unfold memOp; simp only[ho,hT,hx,hp',hp,hg,hcs]; rw[if_pos hc,if_pos hro,if_pos hlo],?_⟩
        refine ⟨fun t ht=>?_,fun t ht=>?_,fun _=>congrArg St.H ?_,fun _=>congrArg St.ow ?_⟩
        ·have ht':t∈tmpsOf [p]:=by simpa[oWt,hdn,ho] using ht
         cases p with
         | tmp t' =>
          simp[tmpsOf] at ht'
          subst ht'
          exact hp'
         | _=>simp[tmpsOf] at ht'
        ·refine clearO_same (hA t ?_)
         simpa[oWo,hdn] using ht
        ·show St.setBox _ _ _ _=St.setBox _ _ _ _
         congr 1
         funext i
         cases x with
         | tmp t=>simp only[hosx t rfl]
         | _=>rfl
        ·show St.setBox _ _ _ _=St.setBox _ _ _ _
         congr 1
         funext i
         cases x with
         | tmp t=>simp only[hosx t rfl]
         | _=>rfl
       ·cases h
      ·cases h
     ·cases h
    ·rename_i sz hp
     split at h
     ·rename_i d
      split at h
      ·rename_i hc2
       cases h
       refine ⟨{ g with tm:=upd g.tm d (.eptr (evalO f.tm x).cells 0),os:=upd g.os d false },by unfold memOp; simp only[ho,hT,hx,hp',hp]; rw[if_pos hc]; simp only[hosp d rfl]; rw[if_pos hc2],?_⟩
       refine ⟨fun t ht=>?_,fun t ht=>?_,fun e=>congrArg St.H (hs (by simpa[oWh,oRh,oO,ho] using e)),fun e=>congrArg St.ow (hs (by simpa[oWh,oRh,oO,ho] using e))⟩
       ·have ht':t=d:=by simpa[oWt,hdn,ho,tmpsOf] using ht
        simp[upd,ht']
       ·simp only[upd]
        split
        ·rfl
        ·refine hA t ?_
         simpa[oWo,hdn] using ht
      ·cases h
     ·cases h
    ·cases h
   ·cases h
 ·rename_i t ln cp ho
  have hns:∀ t p x,o.op≠.store t p x:=by simp[ho]
  have hg:=hs (by simp[oWh,ho])
  have hl:=he ln (by simp[ho,Op.operands])
  have hc:=he cp (by simp[ho,Op.operands])
  split at h
  ·rename_i e _ _ _ hT
   split at h
   ·rename_i ei l c hE hle hce
    split at h
    ·rename_i hcond
     split at h
     ·rename_i hlc
      cases h
      refine ⟨{ (g.put o.dst (.ms ei.isAgg ei.size g.s.n 0 l.toNat) false) with s:=g.s.push (List.replicate l.toNat ei.zero.cells).flatten },by unfold memOp; simp only[ho,hT,hE,hl,hc,hle,hce]; rw[if_pos hcond,if_pos hlc],?_⟩
      rw[hg]
      exact (put_same hns hA (fun e=>by cases e) (fun e=>by cases e)).of_s
     ·rename_i hlc
      split at h
      ·rename_i hlc2
       cases h
       refine ⟨g.put o.dst (.sl ei.size false []) true,by unfold memOp; simp only[ho,hT,hE,hl,hc,hle,hce]; rw[if_pos hcond,if_neg hlc,if_pos hlc2],?_⟩
       exact put_same hns hA (fun _=>congrArg St.H hg) (fun _=>congrArg St.ow hg)
      ·cases h
    ·cases h
   ·cases h
  ·cases h
 ·rename_i t ln parts ho
  have hns:∀ t p x,o.op≠.store t p x:=by simp[ho]
  split at h
  ·rename_i hdy
   have hg:=hs (by simp only[oWh,ho]; exact hdy)
   have hp:(parts.toList.map fun p=>(p.1,evalO g.tm p.2))=parts.toList.map fun p=>(p.1,evalO f.tm p.2):=by
    apply List.map_congr_left
    intro p hp
    rw[he p.2 (by simp only[ho,Op.operands,List.mem_map,Array.toList_map]; exact ⟨p,hp,rfl⟩)]
   split at h
   ·rename_i e _ _ _ hT
    split at h
    ·rename_i ei hE
     split at h
     ·rename_i hlim
      split at h
      ·rename_i els hels
       cases h
       refine ⟨{ (g.put o.dst (.ms ei.isAgg ei.size g.s.n 0 ln) false) with s:=g.s.push (flatA els) },by unfold memOp; simp only[ho,hT,hE,hp,hels]; rw[if_pos hdy,if_pos hlim],?_⟩
       rw[hg]
       exact (put_same hns hA (fun e=>by cases e) (fun e=>by cases e)).of_s
      ·cases h
     ·cases h
    ·cases h
   ·cases h
  ·cases h
 ·rename_i args argTypes ho
  have hns:∀ t p x,o.op≠.store t p x:=by simp[ho]
  split at h
  ·rename_i x y st yt hargs hats
   have hx:=he x (by simp[ho,Op.operands,Call.operands,hargs])
   have hy:=he y (by simp[ho,Op.operands,Call.operands,hargs])
   have hosx:∀ t,x=.tmp t→g.os t=f.os t:=fun t e=>hA t (by simp only[oA,ho]; exact mem_tmpsOf (by rw[hargs,← e]; simp))
   have hmay:∀ v,mayApp g x v=mayApp f x v:=by
    intro v
    unfold mayApp
    split<;>try rfl
    cases x with
    | tmp t=>simp only[hosx t rfl]
    | _=>rfl
   split at h
   ·rename_i e _ _ _ hT
    split at h
    ·rename_i ei sz xs hE hm
     split at h
     ·rename_i ys hys
      split at h
      ·rename_i hc
       split at h
       ·rename_i hlim
        split at h
        ·rename_i hdy
         have hg:=hs (by simp only[oWh,ho]; exact hdy)
         split at h
         ·rename_i hfull
          cases h
          refine ⟨{ (g.put o.dst (.ms ei.isAgg ei.size g.s.n 0 (xs.length+ys.length)) false) with s:=g.s.push (flatA (xs++ys)) },by unfold memOp; simp only[ho,hargs,hats,hT,hE,hx,hy,hmay,hm,hys]; rw[if_pos hc,if_pos hlim,if_pos hdy,if_pos hfull],?_⟩
          rw[hg]
          exact (put_same hns hA (fun e=>by cases e) (fun e=>by cases e)).of_s
         ·rename_i hnf
          split at h
          ·rename_i hfe
           cases h
           refine ⟨g.put o.dst (.sl ei.size true []) false,by unfold memOp; simp only[ho,hargs,hats,hT,hE,hx,hy,hmay,hm,hys]; rw[if_pos hc,if_pos hlim,if_pos hdy,if_neg hnf,if_pos hfe],?_⟩
           exact put_same hns hA (fun _=>by rw[hg]) (fun _=>by rw[hg])
          ·cases h
        ·rename_i hdy
         cases h
         refine ⟨({ g with os:=clearO g.os x }:Fr).put o.dst (.sl ei.size false (xs++ys)) true,by unfold memOp; simp only[ho,hargs,hats,hT,hE,hx,hy,hmay,hm,hys]; rw[if_pos hc,if_pos hlim,if_neg hdy],?_⟩
         have hws:oWh I o=false:=by simp only[oWh,ho]; simpa using hdy
         have hws2:oO I o=false:=by simp only[oO,ho]; simpa using hdy
         rw[hws,hws2]
         exact put_same (f:={ f with os:=clearO f.os x }) (g:={ g with os:=clearO g.os x }) hns (fun t ht=>clearO_same (hA t ht)) (fun e=>by cases e) (fun e=>by cases e)
       ·cases h
      ·cases h
     ·cases h
    ·rename_i ei hE hm
     split at h
     ·rename_i hdy
      have hg:=hs (by simp only[oWh,ho]; exact hdy)
      unfold appM at h
      split at h
      ·rename_i ag sz b off len hxe
       split at h
       ·rename_i ys hys
        split at h
        ·rename_i cs hcs
         split at h
         ·rename_i hc
          cases h
          have hm':mayApp f x (.ms ag sz b off len)=none:=rfl
          refine ⟨{ (g.put o.dst (.ms ag sz g.s.n 0 (len+ys.length)) false) with s:=(g.s.kill b).push (cs.take (len*sz)++flatA ys) },by unfold memOp; simp only[ho,hargs,hats,hT,hE,hx,hy,hmay,hm]; rw[if_pos hdy]; unfold appM; simp only[hxe,hys,hg,hcs]; rw[if_pos hc],?_⟩
          rw[hg]
          exact (put_same hns hA (fun e=>by cases e) (fun e=>by cases e)).of_s
         ·cases h
        ·cases h
       ·cases h
      ·cases h
     ·cases h
    ·cases h
   ·cases h
  ·cases h
 ·cases h

theorem cutM_loc (he:∀ x∈o.op.operands.toList,evalO g.tm x=evalO f.tm x) (hA:∀ t∈oA I o,g.os t=f.os t) (hsh:oRh I o=true→g.s.H=f.s.H) (hso:oO I o=true→g.s.ow=f.s.ow) (h:cutM C I o f=some f') :
  ∃ g',cutM C I o g=some g'∧Sam (oWt o) (oWo I o) (oWh I o) (oO I o) f' g':=by
 unfold cutM at h⊢
 rw[Option.map_eq_some_iff] at h
 obtain ⟨r,hr,rfl⟩:=h
 obtain ⟨h1,h2,h3⟩:=cutV_dy hr
 have hns:∀ t p x,o.op≠.store t p x:=by
  intro t p x e
  unfold cutV at hr
  rw[e] at hr
  cases hr
 have hg:g.s=f.s:=St.hext (hsh h2) (hso h3)
 refine ⟨{ (g.put o.dst (.ms r.2.1 r.2.2.1 g.s.n 0 r.2.2.2.1) false) with s:=(g.s.kill r.1).push r.2.2.2.2 },by rw[cutV_congr he (fun e=>hsh (wh_rh e)),hr]; rfl,?_⟩
 rw[hg]
 exact (put_same hns hA (fun e=>by cases e) (fun e=>by cases e)).of_s

theorem opF_loc (he:∀ x∈o.op.operands.toList,evalO g.tm x=evalO f.tm x) (hA:∀ t∈oA I o,g.os t=f.os t) (hsh:oRh I o=true→g.s.H=f.s.H) (hso:oO I o=true→g.s.ow=f.s.ow) (h:opF C I o f=some f') :
  ∃ g',opF C I o g=some g'∧Sam (oWt o) (oWo I o) (oWh I o) (oO I o) f' g':=by
 unfold opF at h⊢
 cases h1:moveOp C I o f with
 | some f1 =>
  rw[h1] at h
  cases h
  unfold moveOp at h1
  split at h1
  ·rename_i ty t lo ho
   split at h1
   ·rename_i hmv
    rw[Option.map_eq_some_iff] at h1
    obtain ⟨v,hv,rfl⟩:=h1
    have hot:=hA t (by simp only[oA,ho]; rw[if_pos hmv]; simp[tmpsOf])
    refine ⟨({ g with os:=upd g.os t false }:Fr).put o.dst v (g.os t),by simp only[moveOp,ho]; rw[if_pos hmv,pureOp_congr he,hv]; rfl,?_⟩
    rw[hot]
    refine put_same (f:={ f with os:=upd f.os t false }) (g:={ g with os:=upd g.os t false }) (by simp[ho]) (fun t' ht'=>?_) (fun e=>hsh (wh_rh e)) hso
    simp only[upd]; split
    ·rfl
    ·exact hA t' ht'
   ·rename_i hmv
    obtain ⟨g',e1,e2⟩:=cutM_loc he hA hsh hso h1
    exact ⟨g',by simp only[moveOp,ho]; rw[if_neg hmv,e1],e2⟩
  ·rename_i t ho
   cases h1
   have ht:=he (.tmp t) (by simp[ho,Op.operands])
   have ht':g.tm t=f.tm t:=ht
   have hot:=hA t (by simp[oA,ho,tmpsOf])
   refine ⟨({ g with os:=upd g.os t false }:Fr).put o.dst (g.tm t) (g.os t),by simp only[moveOp,ho],?_⟩
   rw[ht',hot]
   refine put_same (f:={ f with os:=upd f.os t false }) (g:={ g with os:=upd g.os t false }) (by simp[ho]) (fun t' ht'=>?_) (fun e=>hsh (wh_rh e)) hso
   simp only[upd]; split
   ·rfl
   ·exact hA t' ht'
  ·rename_i t ho
   split at h1
   ·rename_i hmv
    cases h1
    have ht':g.tm t=f.tm t:=he (.tmp t) (by simp[ho,Op.operands])
    have hot:=hA t (by simp only[oA,ho]; rw[if_pos hmv]; simp[tmpsOf])
    refine ⟨({ g with os:=upd g.os t false }:Fr).put o.dst (g.tm t) (g.os t),by simp only[moveOp,ho]; rw[if_pos hmv],?_⟩
    rw[ht',hot]
    refine put_same (f:={ f with os:=upd f.os t false }) (g:={ g with os:=upd g.os t false }) (by simp[ho]) (fun t' ht'=>?_) (fun e=>hsh (wh_rh e)) hso
    simp only[upd]; split
    ·rfl
    ·exact hA t' ht'
   ·cases h1
  ·rename_i n1 n2 n3
   obtain ⟨g',e1,e2⟩:=cutM_loc he hA hsh hso h1
   refine ⟨g',?_,e2⟩
   have:moveOp C I o g=cutM C I o g:=by
    unfold moveOp
    split
    ·rename_i ho; exact absurd ho (n1 _ _ _)
    ·rename_i ho; exact absurd ho (n2 _)
    ·rename_i ho; exact absurd ho (n3 _)
    ·rfl
   rw[this,e1]
 | none =>
  rw[h1] at h
  rw[moveOp_none he (fun e=>hsh (wh_rh e)) h1]
  simp only at h⊢
  rw[pureOp_congr he]
  cases h2:pureOp C o f.tm with
  | some v =>
   rw[h2] at h; cases h
   refine ⟨g.put o.dst v false,rfl,put_same ?_ hA (fun e=>hsh (wh_rh e)) hso⟩
   intro t p x ho
   simp[pureOp,ho] at h2
  | none =>
   rw[h2] at h
   simp only at h⊢
   rw[makeOp_congr he]
   cases h3:makeOp C I o f.tm with
   | some v =>
    rw[h3] at h; cases h
    refine ⟨g.put o.dst v false,rfl,put_same ?_ hA (fun e=>hsh (wh_rh e)) hso⟩
    intro t p x ho
    simp[makeOp,ho] at h3
   | none =>
    rw[h3] at h
    exact memOp_loc he hA hsh hso h

end
end Ae
namespace Ae
open Go

def disj (a b:List Nat):Bool:=a.all fun t=>!b.contains t

theorem disj_spec {a b:List Nat} (h:disj a b=true):∀ t∈a,t∉b:=by
 intro t ht hb
 have:=List.all_eq_true.1 h t ht
 simp[hb] at this

def isLd (o:Oper):Bool:=match o.op with | .load ..=>true | _=>false
def isDy (I:FI) (o:Oper):Bool :=
 match o.op with
 | .call { callee:=.builtin .append,.. }=>o.dst.any fun d=>I.dy.contains d
 | _=>false

def swapOk (I:FI) (all:Array Oper) (oj oi:Oper):Bool :=
 disj (oWt oi) (oR all oj++oWt oj)&&disj (oWt oj) (oR all oi)&&disj (oWo I oi) (oWo I oj) &&
  ((!(oWh I oi&&oRh I oj)&&!(oWh I oj&&oRh I oi)&&!(oO I oi&&oO I oj))||(isLd oi&&(isLd oj||isDy I oj)))

def bef (ops:Array Oper):Nat→Nat→Nat→Bool
 | 0,_,_=>false
 | k+1,j,i =>
  match ops[i]? with
  | none=>false
  | some o=>o.after.toList.any fun e=>Region.binds .any e&&(e.on == j||bef ops k j e.on)

def drawOk (I:FI) (ops:Array Oper):Bool :=
 (List.range ops.size).all fun i =>
  match ops[i]? with
  | none=>true
  | some oi=>(oi.after.toList.all fun e=>!Region.binds .any e||decide (e.on<i)) &&
    (List.range i).all fun j =>
     match ops[j]? with
     | none=>true
     | some oj=>bef ops ops.size j i||swapOk I ops oj oi

section
variable {P:Program} {C:Cfg} {I:FI} {call:Bool→CallFn} {all:Array Oper} {o oi oj:Oper} {f f' g:Fr}

def stepF (C:Cfg) (I:FI) (call:Bool→CallFn) (all:Array Oper) (o:Oper) (f:Fr):Option Fr :=
 match wantedA o all f.tm with
 | some true =>
  match callee? o f.tm with
  | some (g,args) =>
   if eff I o then
    match call (alias I o) g args f.s with
    | some (v,ow,s')=>if f.s.n≤s'.n then some { f.put o.dst v ow with s:=s' } else none
    | none=>none
   else
   match call (alias I o) g args f.s.still with
   | some (v,ow,_)=>if v.pureB f.s.n then some (f.put o.dst v ow) else none
   | none=>none
  | none=>opF C I o f
 | some false=>some (f.put o.dst (.tup []) false)
 | none=>none

theorem opsF_cons (l:List Oper) (f:Fr):opsF C I call true all (o::l) f=(stepF C I call all o f).bind (opsF C I call true all l):=by
 rw[opsF]
 unfold stepF
 cases hw:wantedA o all f.tm with
 | none=>rfl
 | some b =>
  cases b with
  | false=>rfl
  | true =>
   cases hc:callee? o f.tm with
   | some p =>
    obtain ⟨g,args⟩:=p
    simp only[if_true]
    by_cases he:eff I o=true
    ·simp only[he,if_true]
     cases hr:call (alias I o) g args f.s with
     | none=>rfl
     | some p =>
      obtain ⟨v,ow,s'⟩:=p
      simp only
      by_cases hp:f.s.n≤s'.n
      ·rw[if_pos hp,if_pos hp]; rfl
      ·rw[if_neg hp,if_neg hp]; rfl
    rw[if_neg he,if_neg he]
    cases hr:call (alias I o) g args f.s.still with
    | none=>rfl
    | some p =>
     obtain ⟨v,ow,s'⟩:=p
     simp only
     by_cases hp:v.pureB f.s.n=true
     ·rw[if_pos hp,if_pos hp]; rfl
     ·rw[if_neg hp,if_neg hp]; rfl
   | none =>
    simp only
    cases ho:opF C I o f with
    | none=>rfl
    | some f1=>rfl

theorem opsF_append (l1 l2:List Oper):∀ (f:Fr),opsF C I call true all (l1++l2) f=(opsF C I call true all l1 f).bind (opsF C I call true all l2):=by
 induction l1 with
 | nil=>intro f; rfl
 | cons o l ih =>
  intro f
  rw[List.cons_append,opsF_cons,opsF_cons,Option.bind_assoc]
  congr 1
  funext f1
  exact ih f1

theorem mem_oR {t:Nat} (h:Operand.tmp t∈o.op.operands.toList):t∈oR all o:=List.mem_append_left _ (mem_tmpsOf h)

theorem wt_oR {t:Nat} (h:t∈oWt o) (hd:some t≠o.dst):t∈oR all o:=by
 have:=not_dst h hd
 split at this
 ·rename_i p x ho
  unfold tmpsOf at this
  obtain ⟨y,hy,he⟩:=List.mem_filterMap.1 this
  simp at hy
  subst hy
  cases y with
  | tmp t'=>simp at he; subst he; exact mem_oR (by simp[ho,Op.operands])
  | _=>cases he
 ·cases this

theorem put_same' {v:AV} {ow:Bool} {wh oo:Bool} (hR:∀ t∈oR all o,g.tm t=f.tm t) (hA:∀ t∈oA I o,g.os t=f.os t) (hs:wh=true→g.s.H=f.s.H) (ho:oo=true→g.s.ow=f.s.ow):Sam (oWt o) (oWo I o) wh oo (f.put o.dst v ow) (g.put o.dst v ow) :=
 put_sam (fun t ht hd=>hR t (wt_oR ht hd)) (fun t ht hd=>hA t (not_dst ht hd)) hs ho

theorem wantedA_congr {tm tm':Nat→AV} (h:∀ t∈oR all o,tm' t=tm t):wantedA o all tm'=wantedA o all tm:=by
 unfold wantedA
 split
 ·rfl
 ·rename_i j w hg
  split
  ·rename_i d hd
   have:tm' d=tm d:=h d (List.mem_append_right _ (by simp[gdst,hg,hd]))
   rw[this]
  ·rfl

theorem step_frm (h:stepF C I call all o f=some f'):Frm (oWt o) (oWo I o) (oWh I o) (oO I o) f f':=by
 unfold stepF at h
 split at h
 ·split at h
  ·rename_i hcal
   split at h
   ·rename_i he
    have hws:oWh I o=true∧oO I o=true:=by
     unfold callee? at hcal
     split at hcal
     ·rename_i ho; simp[oWh,oO,ho,he]
     ·cases hcal
    rw[hws.1,hws.2]
    split at h
    ·split at h
     ·rename_i hn
      cases h
      exact (put_frm dst_Wt dst_Wo).of_s hn
     ·cases h
    ·cases h
   ·split at h
    ·split at h
     ·cases h; exact put_frm dst_Wt dst_Wo
     ·cases h
    ·cases h
  ·exact opF_frm h
 ·cases h; exact put_frm dst_Wt dst_Wo
 ·cases h

theorem step_loc (ha:Ag (oR all o) (oA I o) (oRh I o) (oO I o) f g) (h:stepF C I call all o f=some f'):∃ g',stepF C I call all o g=some g'∧Sam (oWt o) (oWo I o) (oWh I o) (oO I o) f' g':=by
 have he:∀ x∈o.op.operands.toList,evalO g.tm x=evalO f.tm x:=fun x hx=>evalO_congr (fun t ht=>ha.tm t (List.mem_append_left _ ht)) hx
 unfold stepF at h⊢
 rw[wantedA_congr ha.tm,callee_congr he]
 cases hw:wantedA o all f.tm with
 | none=>rw[hw] at h; cases h
 | some b =>
  rw[hw] at h
  cases b with
  | false =>
   cases h
   exact ⟨_,rfl,put_same' ha.tm ha.os (fun e=>ha.h (wh_rh e)) ha.o⟩
  | true =>
   simp only at h⊢
   cases hc:callee? o f.tm with
   | none =>
    rw[hc] at h
    exact opF_loc he ha.os ha.h ha.o h
   | some p =>
    obtain ⟨g',args⟩:=p
    rw[hc] at h
    simp only at h⊢
    have hs:g.s.H=f.s.H:=ha.h (by
     unfold callee? at hc
     split at hc
     ·rename_i ho; simp[oRh,ho]
     ·cases hc)
    by_cases hef:eff I o=true
    ·have hg:g.s=f.s:=St.hext hs (ha.o (by
      unfold callee? at hc
      split at hc
      ·rename_i ho; simp[oO,ho,hef]
      ·cases hc))
     rw[if_pos hef] at h⊢
     rw[hg]
     cases hcall:call (alias I o) g' args f.s with
     | none=>rw[hcall] at h; cases h
     | some p =>
      obtain ⟨v,ow,s'⟩:=p
      rw[hcall] at h
      simp only at h⊢
      by_cases hp:f.s.n≤s'.n
      ·rw[if_pos hp] at h⊢
       cases h
       exact ⟨_,rfl,(put_same' ha.tm ha.os (fun e=>by cases e) (fun e=>by cases e)).of_s⟩
      ·rw[if_neg hp] at h; cases h
    rw[if_neg hef] at h⊢
    rw[St.H_still hs,St.H_n hs]
    cases hcall:call (alias I o) g' args f.s.still with
    | none=>rw[hcall] at h; cases h
    | some p =>
     obtain ⟨v,ow,s'⟩:=p
     rw[hcall] at h
     simp only at h⊢
     by_cases hp:v.pureB f.s.n=true
     ·rw[if_pos hp] at h⊢
      cases h
      exact ⟨g.put o.dst v ow,rfl,put_same' ha.tm ha.os (fun _=>hs) ha.o⟩
     ·rw[if_neg hp] at h; cases h

theorem oA_Wo {t:Nat} (h:t∈oA I o):t∈oWo I o:=List.mem_append_right _ h

theorem swap_frames {f f1 g1 f2 g2:Fr} {Wj Vj Wi Vi:List Nat} (d1:∀ t∈Wi,t∉Wj) (d3:∀ t∈Vi,t∉Vj)
  (jt:∀ t,t∉Wj→f1.tm t=f.tm t) (jo:∀ t,t∉Vj→f1.os t=f.os t) (it:∀ t,t∉Wi→f2.tm t=f1.tm t) (io:∀ t,t∉Vi→f2.os t=f1.os t)
  (ht:∀ t,t∉Wi→g1.tm t=f.tm t) (ho:∀ t,t∉Vi→g1.os t=f.os t) (kt:∀ t,t∉Wj→g2.tm t=g1.tm t) (ko:∀ t,t∉Vj→g2.os t=g1.os t)
  (st:∀ t∈Wi,g1.tm t=f2.tm t) (so:∀ t∈Vi,g1.os t=f2.os t) (rt:∀ t∈Wj,g2.tm t=f1.tm t) (ro:∀ t∈Vj,g2.os t=f1.os t) (hs:g2.s=f2.s):g2=f2:=by
 have etm:g2.tm=f2.tm:=by
  funext t
  by_cases h1:t∈Wj
  ·rw[rt t h1,it t (fun h=>d1 t h h1)]
  ·rw[kt t h1]
   by_cases h2:t∈Wi
   ·exact st t h2
   ·rw[ht t h2,it t h2,jt t h1]
 have eos:g2.os=f2.os:=by
  funext t
  by_cases h1:t∈Vj
  ·rw[ro t h1,io t (fun h=>d3 t h h1)]
  ·rw[ko t h1]
   by_cases h2:t∈Vi
   ·exact so t h2
   ·rw[ho t h2,io t h2,jo t h1]
 cases g2; cases f2
 simp only at etm eos hs
 rw[etm,eos,hs]

def clr (k:Option (Nat × Nat)) (ow:Nat→Nat→Bool):Nat→Nat→Bool :=
 match k with
 | some (b,i)=>upd ow b (upd (ow b) i false)
 | none=>ow

theorem clr_at (b i:Nat) (ow:Nat→Nat→Bool) (b' i':Nat):clr (some (b,i)) ow b' i'=if b'=b∧i'=i then false else ow b' i':=by
 unfold clr upd
 by_cases h:b'=b
 ·subst h
  by_cases h2:i'=i
  ·simp[h2]
  ·simp[h2]
 ·simp[h]

theorem clr_le {k:Option (Nat × Nat)} {ow:Nat→Nat→Bool} {b i:Nat} (h:clr k ow b i=true):ow b i=true:=by
 cases k with
 | none=>exact h
 | some p =>
  obtain ⟨b',i'⟩:=p
  rw[clr_at] at h
  split at h
  ·cases h
  ·exact h

theorem clr_comm (k k':Option (Nat × Nat)) (ow:Nat→Nat→Bool):clr k (clr k' ow)=clr k' (clr k ow):=by
 cases k with
 | none=>rfl
 | some p =>
  cases k' with
  | none=>rfl
  | some p' =>
   obtain ⟨b,i⟩:=p
   obtain ⟨b',i'⟩:=p'
   funext x y
   simp only[clr_at]
   split<;>split<;>rfl

theorem stepF_ld (h:isLd o=true):stepF C I call all o f=match wantedA o all f.tm with | some true=>memOp C I o f | some false=>some (f.put o.dst (.tup []) false) | none=>none:=by
 unfold isLd at h
 split at h
 ·rename_i t a ho
  unfold stepF
  simp only[callee?,ho]
  have:opF C I o f=memOp C I o f:=by
   unfold opF
   simp only[moveOp,cutM,cutV,Option.map_none,pureOp,makeOp,ho]
  rw[this]
 ·cases h

theorem step_take (hl:isLd o=true) (h:stepF C I call all o f=some f'):∃ k:Option (Nat × Nat),(∀ b i,k=some (b,i)→f.s.ow b i=true∧∃ t∈oR all o,∃ off,f.tm t=.ptr b off)∧f'.s.ow=clr k f.s.ow∧f'.s.H=f.s.H ∧
  ∀ g:Fr,(∀ t∈oR all o,g.tm t=f.tm t)→(∀ t∈oA I o,g.os t=f.os t)→(∀ b cs,(∃ t∈oR all o,∃ off,f.tm t=.ptr b off)→f.s.h b=some cs→g.s.h b=some cs)→(∀ b i,k=some (b,i)→g.s.ow b i=true) →
   ∃ g',stepF C I call all o g=some g'∧g'.s.ow=clr k g.s.ow∧g'.s.H=g.s.H∧(∀ t∈oWt o,g'.tm t=f'.tm t)∧(∀ t∈oWo I o,g'.os t=f'.os t):=by
 rw[stepF_ld hl] at h
 have hput:∀ {g:Fr} {v:AV} {ow:Bool},(∀ t∈oR all o,g.tm t=f.tm t)→(∀ t∈oA I o,g.os t=f.os t)→Sam (oWt o) (oWo I o) false false (f.put o.dst v ow) (g.put o.dst v ow) :=
  fun h1 h2=>put_same' h1 h2 (fun e=>by cases e) (fun e=>by cases e)
 have hps:∀ (g:Fr) (v:AV) (ow:Bool),(g.put o.dst v ow).s=g.s:=fun g v ow=>by cases o.dst<;>rfl
 cases hw:wantedA o all f.tm with
 | none=>rw[hw] at h; cases h
 | some b =>
  rw[hw] at h
  cases b with
  | false =>
   cases h
   refine ⟨none,fun b i e=>(by cases e),by rw[hps]; rfl,by rw[hps],fun g h1 h2 h3 h4=>?_⟩
   refine ⟨g.put o.dst (.tup []) false,?_,by rw[hps]; rfl,by rw[hps],(hput h1 h2).tm,(hput h1 h2).os⟩
   rw[stepF_ld hl,wantedA_congr h1,hw]
  | true =>
   simp only at h
   unfold isLd at hl
   split at hl
   ·rename_i t a ho
    have hl':isLd o=true:=by simp[isLd,ho]
    have hev:∀ g:Fr,(∀ t∈oR all o,g.tm t=f.tm t)→evalO g.tm a=evalO f.tm a:=fun g h1=>evalO_congr (xs:=o.op.operands.toList) (fun t ht=>h1 t (List.mem_append_left _ ht)) (by simp[ho,Op.operands])
    have hat:∀ b off,evalO f.tm a=.ptr b off→∃ t∈oR all o,∃ off,f.tm t=.ptr b off:=by
     intro b off e
     cases a with
     | tmp t=>exact ⟨t,mem_oR (by simp[ho,Op.operands]),off,e⟩
     | const v =>
      exfalso
      cases v with
      | pointer p=>cases p<;>cases e
      | slice p n c =>
       cases p with
       | none =>
        cases n with
        | zero=>cases c<;>cases e
        | succ n=>cases e
       | some p=>cases e
      | _=>cases e
     | global g=>cases e
     | func f=>cases e
    simp only[memOp,ho] at h
    split at h
    ·cases h
    ·rename_i ti hT
     split at h
     ·rename_i b off hp
      split at h
      ·rename_i cs hcs
       obtain ⟨him,hcs⟩:=imH_some hcs
       rw[Option.bind_eq_some_iff] at h
       obtain ⟨v,hpart,h⟩:=h
       split at h
       ·rename_i hmv
        split at h
        ·rename_i how
         cases h
         refine ⟨some (b,off),fun b' i' e=>(by cases e; exact ⟨how,hat _ _ hp⟩),rfl,rfl,fun g h1 h2 h3 h4=>?_⟩
         refine ⟨{ (g.put o.dst v true) with s:={ g.s with ow:=upd g.s.ow b (upd (g.s.ow b) off false) } },?_,rfl,rfl,(hput h1 h2).tm,(hput h1 h2).os⟩
         rw[stepF_ld hl',wantedA_congr h1,hw]
         simp only[memOp,ho,hT,hev g h1,hp,imH_of him (h3 b cs (hat _ _ hp) hcs),hpart,Option.bind_some]
         rw[if_pos hmv,if_pos (h4 b off rfl)]
        ·cases h
       ·rename_i hmv
        cases h
        refine ⟨none,fun b i e=>(by cases e),by rw[hps]; rfl,by rw[hps],fun g h1 h2 h3 h4=>?_⟩
        refine ⟨g.put o.dst v false,?_,by rw[hps]; rfl,by rw[hps],(hput h1 h2).tm,(hput h1 h2).os⟩
        rw[stepF_ld hl',wantedA_congr h1,hw]
        simp only[memOp,ho,hT,hev g h1,hp,imH_of him (h3 b cs (hat _ _ hp) hcs),hpart,Option.bind_some]
        rw[if_neg hmv]
      ·cases h
     ·rename_i cs off hp
      rw[Option.map_eq_some_iff] at h
      obtain ⟨v,hpart,rfl⟩:=h
      refine ⟨none,fun b i e=>(by cases e),by rw[hps]; rfl,by rw[hps],fun g h1 h2 h3 h4=>?_⟩
      refine ⟨g.put o.dst v false,?_,by rw[hps]; rfl,by rw[hps],(hput h1 h2).tm,(hput h1 h2).os⟩
      rw[stepF_ld hl',wantedA_congr h1,hw]
      simp only[memOp,ho,hT,hev g h1,hp,hpart,Option.map_some]
     ·cases h
   ·cases hl

theorem step_dy (hd:isDy I o=true) (h:stepF C I call all o f=some f') :
  (∀ b,b<f.s.n→∀ cs,f'.s.h b=some cs→f.s.h b=some cs)∧∃ p:Bool,(f'.s.ow=bif p then upd f.s.ow f.s.n (fun _=>false) else f.s.ow) ∧
  ∀ g:Fr,(∀ t∈oR all o,g.tm t=f.tm t)→(∀ t∈oA I o,g.os t=f.os t)→g.s.H=f.s.H →
   ∃ g',stepF C I call all o g=some g'∧g'.s.H=f'.s.H∧(g'.s.ow=bif p then upd g.s.ow f.s.n (fun _=>false) else g.s.ow)∧(∀ t∈oWt o,g'.tm t=f'.tm t)∧(∀ t∈oWo I o,g'.os t=f'.os t):=by
 unfold isDy at hd
 split at hd
 ·rename_i args argTypes ho
  have hstep:∀ f:Fr,stepF C I call all o f=match wantedA o all f.tm with | some true=>memOp C I o f | some false=>some (f.put o.dst (.tup []) false) | none=>none:=by
   intro f
   unfold stepF
   simp only[callee?,ho]
   have:opF C I o f=memOp C I o f:=by
    unfold opF
    simp only[moveOp,cutM,cutV,Option.map_none,pureOp,makeOp,ho]
   rw[this]
  have hps:∀ (g:Fr) (v:AV) (ow:Bool),(g.put o.dst v ow).s=g.s:=fun g v ow=>by cases o.dst<;>rfl
  have hput:∀ {g:Fr} {v:AV} {ow:Bool},(∀ t∈oR all o,g.tm t=f.tm t)→(∀ t∈oA I o,g.os t=f.os t)→Sam (oWt o) (oWo I o) false false (f.put o.dst v ow) (g.put o.dst v ow) :=
   fun h1 h2=>put_same' h1 h2 (fun e=>by cases e) (fun e=>by cases e)
  rw[hstep] at h
  cases hw:wantedA o all f.tm with
  | none=>rw[hw] at h; cases h
  | some b =>
   rw[hw] at h
   cases b with
   | false =>
    cases h
    refine ⟨fun b _ cs e=>by rwa [hps] at e,false,by rw[hps]; rfl,fun g h1 h2 h3=>?_⟩
    refine ⟨g.put o.dst (.tup []) false,?_,by rw[hps,hps,h3],by rw[hps]; rfl,(hput h1 h2).tm,(hput h1 h2).os⟩
    rw[hstep,wantedA_congr h1,hw]
   | true =>
    simp only[memOp,ho] at h
    split at h
    ·rename_i x y st yt hargs hats
     have hev:∀ g:Fr,(∀ t∈oR all o,g.tm t=f.tm t)→∀ z∈o.op.operands.toList,evalO g.tm z=evalO f.tm z:=fun g h1 z hz=>evalO_congr (fun t ht=>h1 t (List.mem_append_left _ ht)) hz
     have hx:∀ g:Fr,(∀ t∈oR all o,g.tm t=f.tm t)→evalO g.tm x=evalO f.tm x:=fun g h1=>hev g h1 x (by simp[ho,Op.operands,Call.operands,hargs])
     have hy:∀ g:Fr,(∀ t∈oR all o,g.tm t=f.tm t)→evalO g.tm y=evalO f.tm y:=fun g h1=>hev g h1 y (by simp[ho,Op.operands,Call.operands,hargs])
     have hosx:∀ g:Fr,(∀ t∈oA I o,g.os t=f.os t)→∀ t,x=.tmp t→g.os t=f.os t:=fun g h2 t e=>h2 t (by simp only[oA,ho]; exact mem_tmpsOf (by rw[hargs,← e]; simp))
     have hmay:∀ g:Fr,(∀ t∈oA I o,g.os t=f.os t)→∀ v,mayApp g x v=mayApp f x v:=by
      intro g h2 v
      unfold mayApp
      split<;>try rfl
      cases x with
      | tmp t=>simp only[hosx g h2 t rfl]
      | _=>rfl
     split at h
     ·rename_i e _ _ _ hT
      split at h
      ·rename_i ei sz xs hE hm
       split at h
       ·rename_i ys hys
        split at h
        ·rename_i hc
         split at h
         ·rename_i hlim
          split at h
          ·rename_i hfull
           cases h
           refine ⟨fun b hb cs e=>?_,true,rfl,fun g h1 h2 h3=>?_⟩
           ·have hne:b≠f.s.n:=by omega
            simpa[St.push,upd,hne] using e
           ·refine ⟨{ (g.put o.dst (.ms ei.isAgg ei.size g.s.n 0 (xs.length+ys.length)) false) with s:=g.s.push (flatA (xs++ys)) },?_,?_,?_,?_,?_⟩
            ·rw[hstep,wantedA_congr h1,hw]
             simp only[memOp,ho,hargs,hats,hT,hE,hx g h1,hy g h1,hmay g h2,hm,hys]
             rw[if_pos hc,if_pos hlim,if_pos hd,if_pos hfull]
            ·simp only[St.H,Prod.mk.injEq] at h3 ⊢
             simp only[St.push,h3.1,h3.2.1,h3.2.2.1,h3.2.2.2,and_self]
            ·show upd g.s.ow g.s.n _=upd g.s.ow f.s.n _
             rw[St.H_n h3]
            ·rw[St.H_n h3]; exact (hput h1 h2).tm
            ·rw[St.H_n h3]; exact (hput h1 h2).os
          ·rename_i hnf
           split at h
           ·rename_i hfe
            cases h
            refine ⟨fun b _ cs e=>by rwa [hps] at e,false,by rw[hps]; rfl,fun g h1 h2 h3=>?_⟩
            refine ⟨g.put o.dst (.sl ei.size true []) false,?_,by rw[hps,hps,h3],by rw[hps]; rfl,(hput h1 h2).tm,(hput h1 h2).os⟩
            rw[hstep,wantedA_congr h1,hw]
            simp only[memOp,ho,hargs,hats,hT,hE,hx g h1,hy g h1,hmay g h2,hm,hys]
            rw[if_pos hc,if_pos hlim,if_pos hd,if_neg hnf,if_pos hfe]
           ·cases h
         ·cases h
        ·cases h
       ·cases h
      ·rename_i ei hE hm
       try rw[if_pos hd] at h
       unfold appM at h
       split at h
       ·rename_i ag sz b0 off len hxe
        split at h
        ·rename_i ys hys
         split at h
         ·rename_i cs0 hcs
          split at h
          ·rename_i hc
           cases h
           refine ⟨fun b hb cs e=>?_,true,rfl,fun g h1 h2 h3=>?_⟩
           ·have hne:b≠f.s.n:=by omega
            simp only[St.push,St.kill,upd,if_neg hne] at e
            split at e
            ·cases e
            ·exact e
           ·refine ⟨{ (g.put o.dst (.ms ag sz g.s.n 0 (len+ys.length)) false) with s:=(g.s.kill b0).push (cs0.take (len*sz)++flatA ys) },?_,?_,?_,?_,?_⟩
            ·rw[hstep,wantedA_congr h1,hw]
             simp only[memOp,ho,hargs,hats,hT,hE,hx g h1,hy g h1,hmay g h2,hm]
             rw[if_pos hd]
             unfold appM
             simp only[hxe,hys,St.H_h h3,hcs]
             have hro:g.s.ro=f.s.ro:=by simp only[St.H,Prod.mk.injEq] at h3; exact h3.2.2.1
             rw[hro,if_pos hc]
            ·simp only[St.H,Prod.mk.injEq] at h3 ⊢
             simp only[St.push,St.kill,h3.1,h3.2.1,h3.2.2.1,h3.2.2.2,and_self]
            ·show upd g.s.ow g.s.n _=upd g.s.ow f.s.n _
             rw[St.H_n h3]
            ·rw[St.H_n h3]; exact (hput h1 h2).tm
            ·rw[St.H_n h3]; exact (hput h1 h2).os
          ·cases h
         ·cases h
        ·cases h
       ·cases h
      ·cases h
     ·cases h
    ·cases h
 ·cases hd

theorem step_swap (hk:swapOk I all oj oi=true) (hp:∀ t∈oR all oi,∀ b off,f.tm t=.ptr b off→b<f.s.n) {f1 f2:Fr} (hj:stepF C I call all oj f=some f1) (hi:stepF C I call all oi f1=some f2):∃ g1,stepF C I call all oi f=some g1∧stepF C I call all oj g1=some f2:=by
 simp only[swapOk,Bool.and_eq_true,Bool.or_eq_true,Bool.not_eq_true'] at hk
 obtain ⟨⟨⟨d1,d2⟩,d3⟩,d4⟩:=hk
 have d1:=disj_spec d1
 have d2:=disj_spec d2
 have d3:=disj_spec d3
 have d3':∀ t∈oWo I oj,t∉oWo I oi:=fun t h1 h2=>d3 t h2 h1
 have Fj:=step_frm hj
 have Fi:=step_frm hi
 have hRi:∀ t∈oR all oi,f1.tm t=f.tm t:=fun t ht=>Fj.tm t (fun h=>d2 t h ht)
 have hAi:∀ t∈oA I oi,f1.os t=f.os t:=fun t ht=>Fj.os t (d3 t (oA_Wo ht))
 rcases d4 with ⟨⟨k1,k2⟩,k3⟩ | ⟨k1,k2⟩
 ·have ri:oRh I oi=true→oWh I oj=false:=fun e=>by rw[e,Bool.and_true] at k2; exact k2
  have rj:oRh I oj=true→oWh I oi=false:=fun e=>by rw[e,Bool.and_true] at k1; exact k1
  have qi:oO I oi=true→oO I oj=false:=fun e=>by rw[e,Bool.true_and] at k3; exact k3
  have qj:oO I oj=true→oO I oi=false:=fun e=>by rw[e,Bool.and_true] at k3; exact k3
  obtain ⟨g1,hg1,S1⟩:=step_loc (g:=f) ⟨fun t ht=>(hRi t ht).symm,fun t ht=>(hAi t ht).symm,fun e=>(Fj.h (ri e)).symm,fun e=>(Fj.o (qi e)).symm⟩ hi
  have G1:=step_frm hg1
  have hRj:∀ t∈oR all oj,g1.tm t=f.tm t:=fun t ht=>G1.tm t (fun h=>d1 t h (List.mem_append_left _ ht))
  have hAj:∀ t∈oA I oj,g1.os t=f.os t:=fun t ht=>G1.os t (d3' t (oA_Wo ht))
  obtain ⟨g2,hg2,S2⟩:=step_loc (g:=g1) ⟨hRj,hAj,fun e=>G1.h (rj e),fun e=>G1.o (qj e)⟩ hj
  have G2:=step_frm hg2
  have eH:g2.s.H=f2.s.H:=by
   cases h1:oWh I oj with
   | true =>
    rw[S2.h h1,Fi.h (rj (wh_rh h1))]
   | false =>
    rw[G2.h h1]
    cases h2:oWh I oi with
    | true=>exact S1.h h2
    | false=>rw[G1.h h2,Fi.h h2,Fj.h h1]
  have eo:g2.s.ow=f2.s.ow:=by
   cases h1:oO I oj with
   | true=>rw[S2.o h1,Fi.o (qj h1)]
   | false =>
    rw[G2.o h1]
    cases h2:oO I oi with
    | true=>exact S1.o h2
    | false=>rw[G1.o h2,Fi.o h2,Fj.o h1]
  have e:g2=f2:=swap_frames (fun t h h'=>d1 t h (List.mem_append_right _ h')) d3 Fj.tm Fj.os Fi.tm Fi.os G1.tm G1.os G2.tm G2.os S1.tm S1.os S2.tm S2.os (St.hext eH eo)
  exact ⟨g1,hg1,e▸hg2⟩
 ·obtain ⟨ki,ki1,ki2,ki3,ki4⟩:=step_take k1 hi
  cases kd:isLd oj with
  | true =>
   obtain ⟨kj,kj1,kj2,kj3,kj4⟩:=step_take kd hj
   obtain ⟨g1,hg1,go,gH,gt,gos⟩:=ki4 f (fun t ht=>(hRi t ht).symm) (fun t ht=>(hAi t ht).symm) (fun b cs _ h=>by rw[← St.H_h kj3]; exact h) (fun b i e=>clr_le (by rw[← kj2]; exact (ki1 b i e).1))
   have G1:=step_frm hg1
   have hRj:∀ t∈oR all oj,g1.tm t=f.tm t:=fun t ht=>G1.tm t (fun h=>d1 t h (List.mem_append_left _ ht))
   have hAj:∀ t∈oA I oj,g1.os t=f.os t:=fun t ht=>G1.os t (d3' t (oA_Wo ht))
   obtain ⟨g2,hg2,go2,gH2,gt2,gos2⟩:=kj4 g1 hRj hAj (fun b cs _ h=>by rw[St.H_h gH]; exact h) (fun b i e=>by
    rw[go]
    cases ki with
    | none=>exact (kj1 b i e).1
    | some p =>
     obtain ⟨b',i'⟩:=p
     have h1:=(ki1 b' i' rfl).1
     rw[kj2,e,clr_at] at h1
     rw[clr_at]
     split at h1
     ·cases h1
     ·rename_i hne
      rw[if_neg (fun h=>hne ⟨h.1.symm,h.2.symm⟩)]
      exact (kj1 b i e).1)
   have G2:=step_frm hg2
   have e:g2=f2:=swap_frames (fun t h h'=>d1 t h (List.mem_append_right _ h')) d3 Fj.tm Fj.os Fi.tm Fi.os G1.tm G1.os G2.tm G2.os gt gos gt2 gos2 (St.hext (by rw[gH2,gH,ki3,kj3]) (by rw[go2,go,ki2,kj2,clr_comm]))
   exact ⟨g1,hg1,e▸hg2⟩
  | false =>
   have kd':isDy I oj=true:=by rw[kd] at k2; simpa using k2
   obtain ⟨j1,p,j2,j3⟩:=step_dy kd' hj
   have hlt:∀ b,(∃ t∈oR all oi,∃ off,f1.tm t=.ptr b off)→b<f.s.n:=by
    rintro b ⟨t,ht,off,e⟩
    rw[hRi t ht] at e
    exact hp t ht b off e
   obtain ⟨g1,hg1,go,gH,gt,gos⟩:=ki4 f (fun t ht=>(hRi t ht).symm) (fun t ht=>(hAi t ht).symm) (fun b cs hb h=>j1 b (hlt b hb) cs h) (fun b i e=>by
    obtain ⟨h1,h2⟩:=ki1 b i e
    have:=hlt b h2
    cases p with
    | false=>rw[j2] at h1; exact h1
    | true =>
     rw[j2] at h1
     have hne:b≠f.s.n:=by omega
     simpa[upd,hne] using h1)
   have G1:=step_frm hg1
   have hRj:∀ t∈oR all oj,g1.tm t=f.tm t:=fun t ht=>G1.tm t (fun h=>d1 t h (List.mem_append_left _ ht))
   have hAj:∀ t∈oA I oj,g1.os t=f.os t:=fun t ht=>G1.os t (d3' t (oA_Wo ht))
   obtain ⟨g2,hg2,gH2,go2,gt2,gos2⟩:=j3 g1 hRj hAj gH
   have G2:=step_frm hg2
   have eo:g2.s.ow=f2.s.ow:=by
    rw[go2,go,ki2,j2]
    cases p with
    | false=>rfl
    | true =>
     cases ki with
     | none=>rfl
     | some p =>
      obtain ⟨b',i'⟩:=p
      have:=hlt b' (ki1 b' i' rfl).2
      have hne:b'≠f.s.n:=by omega
      funext x y
      show upd (clr (some (b',i')) f.s.ow) f.s.n (fun _=>false) x y=clr (some (b',i')) (upd f.s.ow f.s.n (fun _=>false)) x y
      unfold clr upd
      by_cases hx:x=f.s.n
      ·subst hx; simp[Ne.symm hne]
      ·by_cases hx2:x=b'
       ·subst hx2; simp[hx]
       ·simp[hx,hx2]
   have e:g2=f2:=swap_frames (fun t h h'=>d1 t h (List.mem_append_right _ h')) d3 Fj.tm Fj.os Fi.tm Fi.os G1.tm G1.os G2.tm G2.os gt gos gt2 gos2 (St.hext (by rw[gH2,ki3]) eo)
   exact ⟨g1,hg1,e▸hg2⟩

theorem move_left:∀ (l:List Oper) (f f':Fr),(∀ o∈l,swapOk I all o oi=true)→(∀ t∈oR all oi,∀ b off,f.tm t=.ptr b off→b<f.s.n)→opsF C I call true all (l++[oi]) f=some f'→opsF C I call true all (oi::l) f=some f'
 | [],f,f',_,_,h=>h
 | o::l,f,f',hk,hp,h=>by
  rw[List.cons_append,opsF_cons,Option.bind_eq_some_iff] at h
  obtain ⟨f1,h1,h2⟩:=h
  have hk1:=hk o (List.mem_cons_self ..)
  have F1:=step_frm h1
  have ih:=move_left l f1 f' (fun x hx=>hk x (List.mem_cons_of_mem _ hx)) (fun t ht b off e=>by
   have d2:∀ t∈oWt o,t∉oR all oi:=by
    simp only[swapOk,Bool.and_eq_true] at hk1
    exact disj_spec hk1.1.1.2
   rw[F1.tm t (fun h=>d2 t h ht)] at e
   exact Nat.lt_of_lt_of_le (hp t ht b off e) F1.n) h2
  rw[opsF_cons,Option.bind_eq_some_iff] at ih
  obtain ⟨f2,h3,h4⟩:=ih
  obtain ⟨g1,k1,k2⟩:=step_swap hk1 hp h1 h3
  rw[opsF_cons,Option.bind_eq_some_iff]
  refine ⟨g1,k1,?_⟩
  rw[opsF_cons,Option.bind_eq_some_iff]
  exact ⟨f2,k2,h4⟩

theorem take_first {l1 l2:List Oper} (hk:∀ o∈l1,swapOk I all o oi=true) (hp:∀ t∈oR all oi,∀ b off,f.tm t=.ptr b off→b<f.s.n) (h:opsF C I call true all (l1++oi::l2) f=some f'):∃ f1,stepF C I call all oi f=some f1∧opsF C I call true all (l1++l2) f1=some f':=by
 have e:l1++oi::l2=(l1++[oi])++l2:=by simp
 rw[e,opsF_append,Option.bind_eq_some_iff] at h
 obtain ⟨f2,h1,h2⟩:=h
 have h3:=move_left l1 f f2 hk hp h1
 rw[opsF_cons,Option.bind_eq_some_iff] at h3
 obtain ⟨f1,h4,h5⟩:=h3
 refine ⟨f1,h4,?_⟩
 rw[opsF_append,Option.bind_eq_some_iff]
 exact ⟨f2,h5,h2⟩

end
end Ae
namespace Ae
open Go

def un (listed:Array Bool):Nat→Bool:=fun i=>!(listed.getD i true)
def rest (ops:Array Oper) (p:Nat→Bool):List Oper:=((List.range ops.size).filter p).filterMap (ops[·]?)

def Down (ops:Array Oper) (listed:Array Bool):Prop:=∀ k,listed.getD k false=true→∀ o,ops[k]?=some o→∀ e∈o.after,Region.binds .any e=true→listed.getD e.on false=true

theorem bef_listed {ops:Array Oper} {listed:Array Bool} (hd:Down ops listed):∀ (k j i:Nat) (oi:Oper),ops[i]?=some oi→(∀ e∈oi.after,Region.binds .any e=true→listed.getD e.on false=true)→bef ops k j i=true→listed.getD j false=true
 | 0,j,i,oi,_,_,h=>by simp[bef] at h
 | k+1,j,i,oi,hi,hr,h=>by
  simp only[bef,hi,List.any_eq_true,Bool.and_eq_true,Bool.or_eq_true,beq_iff_eq] at h
  obtain ⟨e,he,hb,h⟩:=h
  have he':e∈oi.after:=by simpa using he
  have hl:=hr e he' hb
  rcases h with rfl | h
  ·exact hl
  ·cases ho:ops[e.on]? with
   | none=>cases k<;>simp[bef,ho] at h
   | some o'=>exact bef_listed hd k j e.on o' ho (fun e' h1 h2=>hd e.on hl o' ho e' h1 h2) h

theorem filter_split {p:Nat→Bool} {n i:Nat} (hi:i<n) (hp:p i=true):(List.range n).filter p=(List.range i).filter p++i::(List.range' (i+1) (n - i - 1)).filter p ∧
  (List.range n).filter (fun k=>p k&&decide (k≠i))=(List.range i).filter p++(List.range' (i+1) (n - i - 1)).filter p:=by
 have e:List.range n=List.range i++i::List.range' (i+1) (n - i - 1):=by
  rw[List.range_eq_range',List.range_eq_range',← List.range'_succ,show n=i+(n - i - 1+1) by omega,show i+(n - i - 1+1) - i - 1+1=n - i - 1+1 by omega]
  have:=List.range'_append (s:=0) (m:=i) (n:=n - i - 1+1) (step:=1)
  simp only[Nat.one_mul,Nat.zero_add] at this
  exact this.symm
 constructor
 ·rw[e,List.filter_append,List.filter_cons,if_pos hp]
 ·rw[e,List.filter_append,List.filter_cons,if_neg (by simp)]
  congr 1
  ·apply List.filter_congr
   intro k hk
   have:k<i:=List.mem_range.1 hk
   simp[show k≠i by omega]
  ·apply List.filter_congr
   intro k hk
   have:=(List.mem_range'_1.1 hk).1
   simp[show k≠i by omega]

section
variable {P:Program} {C:Cfg} {E0 E:Env} {s0:St} {f f' f1:Fr} {a a0:Act} {I:FI} {o:Oper} {call:Bool→CallFn} {all ops:Array Oper}

theorem still_wr {E:Env} {s:St} {g:Nat}:¬ Wr E s.still g:=by
 rintro (⟨b,h1,h2,_⟩ | ⟨b,i,c,v,⟨_,h2,_⟩,_⟩)
 ·have h1':s.n≤b:=h1
  have h2':b<s.n:=h2
  omega
 ·cases h2

theorem step_ok (hty:TysOk P C) (hcall:∀ al,CallOK P C.tab (call al)) (h0:TabE C.tab E0 s0) (hall:∀ (j:Nat) o d,all[j]?=some o→o.dst=some d→d<I.nt) (hdst:∀ d,o.dst=some d→d<I.nt) (h:stepF C I call all o f=some f1) (hI:Inv E0 s0 I.nt E f a)
  {K:Act→World→Prop} {Q:Exit→Act→World→Prop} (hk:Then E0 s0 I.nt a f1 K):if Region.wanted o (yielded all a.tmps) then o.wp P a E.w K Q else K (a.put o.dst undef) E.w:=by
 unfold stepF at h
 cases hw:wantedA o all f.tm with
 | none=>rw[hw] at h; cases h
 | some b =>
  rw[hw] at h
  have hwant:=wanted_ok hI all hall hw
  cases b with
  | false =>
   cases h
   rw[if_neg (by simp[hwant])]
   exact hk E _ (hI.put0 hdst (.tup [] #[] rfl (by simp))) (defers_put _ _ _)
  | true =>
   rw[if_pos hwant]
   simp only at h
   cases hc:callee? o f.tm with
   | none =>
    rw[hc] at h
    exact wp_of_done (opF_ok hty hI hdst h) hk
   | some p =>
    obtain ⟨g,args⟩:=p
    rw[hc] at h
    simp only at h
    by_cases hef:eff I o=true
    ·rw[if_pos hef] at h
     cases hr:call (alias I o) g args f.s with
     | none=>rw[hr] at h; cases h
     | some p =>
      obtain ⟨v,ow,s'⟩:=p
      rw[hr] at h
      simp only at h
      by_cases hp:f.s.n≤s'.n
      ·rw[if_pos hp] at h
       cases h
       obtain ⟨vs,hva,hex⟩:=callee_ok (P:=P) hI hc
       have hre:=hcall (alias I o) g args f.s v ow s' hr E vs (h0.inv hI) hI.core (by rw[hI.lo]; exact Nat.le_trans hI.lon hI.n) hva
       refine wp_of_reach (hex E.w) hre ?_
       rintro y w' ⟨E',rfl,R⟩
       exact hk E' _ (hI.ret R hdst) (defers_put _ _ _)
      ·rw[if_neg hp] at h; cases h
    rw[if_neg hef] at h
    cases hr:call (alias I o) g args f.s.still with
    | none=>rw[hr] at h; cases h
    | some p =>
     obtain ⟨v,ow,s'⟩:=p
     rw[hr] at h
     simp only at h
     by_cases hp:v.pureB f.s.n=true
     ·rw[if_pos hp] at h
      cases h
      obtain ⟨vs,hva,hex⟩:=callee_ok (P:=P) hI hc
      have hst:Core E f.s.still:=by
       have hno:∀ b i c v,¬ CellAt E f.s.still b i c v:=by
        rintro b i c v ⟨_,h2,_⟩
        cases h2
       exact ⟨hI.core.n,hI.core.new,hI.core.box,hI.core.blt,hI.core.inj,fun b i c v hc'=>absurd hc' (hno b i c v),fun b i b' i' g ⟨c,v,h1,_⟩ _=>absurd h1 (hno b i c v)⟩
      have hre:=hcall (alias I o) g args f.s.still v ow s' hr E vs (fun g vs hm=>⟨(h0.inv hI g vs hm).1,still_wr,(h0.inv hI g vs hm).2.2⟩) hst (show f.s.lo≤f.s.n by rw[hI.lo]; exact Nat.le_trans hI.lon hI.n) hva
      refine wp_of_reach (hex E.w) hre ?_
      rintro y w' ⟨E',rfl,R⟩
      exact hk { E' with n:=E.n } _ (hI.retStill R hp hdst) (defers_put _ _ _)
     ·rw[if_neg hp] at h; cases h

theorem draw_any (hty:TysOk P C) (hcall:∀ al,CallOK P C.tab (call al)) (h0:TabE C.tab E0 s0) (hdst:dstOk I.nt ops=true) (hdr:drawOk I ops=true):∀ (fuel:Nat) (listed:Array Bool) (E:Env) (f:Fr) (a:Act),
  listed.size=ops.size→Down ops listed→((List.range ops.size).filter (un listed)).length=fuel→opsF C I call true ops (rest ops (un listed)) f=some f'→Inv E0 s0 I.nt E f a→a.defers=a0.defers →
  wpAny P .any ops (fun e a' w'=>e=.normal∧a'.defers=a0.defers∧∃ E',E'.w=w'∧Inv E0 s0 I.nt E' f' a') fuel listed a E.w:=by
 have hstat:∀ (i:Nat) oi,ops[i]?=some oi→(∀ e∈oi.after,Region.binds .any e=true→e.on<i)∧∀ (j:Nat) oj,j<i→ops[j]?=some oj→bef ops ops.size j i=true∨swapOk I ops oj oi=true:=by
  intro i oi hi
  have hlt:i<ops.size:=(Array.getElem?_eq_some_iff.1 hi).1
  have:=List.all_eq_true.1 hdr i (List.mem_range.2 hlt)
  simp only[hi,Bool.and_eq_true] at this
  obtain ⟨h1,h2⟩:=this
  refine ⟨fun e he hb=>?_,fun j oj hj hoj=>?_⟩
  ·have:=List.all_eq_true.1 h1 e (by simpa using he)
   simpa[hb] using this
  ·have:=List.all_eq_true.1 h2 j (List.mem_range.2 hj)
   simpa[hoj] using this
 have hd:=dstOk_spec hdst
 intro fuel
 induction fuel with
 | zero =>
  intro listed E f a hsz hdown hlen h hI hdf
  have hnil:(List.range ops.size).filter (un listed)=[]:=List.eq_nil_of_length_eq_zero hlen
  unfold rest at h
  rw[hnil] at h
  cases h
  refine ⟨?_,rfl,hdf,E,rfl,hI⟩
  apply List.eq_nil_iff_forall_not_mem.2
  intro j hj
  obtain ⟨h1,oj,h2,_⟩:=mem_ready.1 hj
  have hlt:j<ops.size:=(Array.getElem?_eq_some_iff.1 h2).1
  have:j∈(List.range ops.size).filter (un listed):=List.mem_filter.2 ⟨List.mem_range.2 hlt,by simp[un,h1]⟩
  rw[hnil] at this
  cases this
 | succ fuel ih =>
  intro listed E f a hsz hdown hlen h hI hdf
  have htrue:∀ k,k<ops.size→un listed k=false→listed.getD k false=true:=by
   intro k hk hu
   simp only[un,Bool.not_eq_false'] at hu
   simpa[Array.getD,hsz,hk] using hu
  refine ⟨fun hre=>?_,fun i hi=>?_⟩
  ·exfalso
   have hne:∃ i,i<ops.size∧un listed i=true∧∀ j,j<i→un listed j=false:=by
    cases hL:(List.range ops.size).filter (un listed) with
    | nil=>rw[hL] at hlen; cases hlen
    | cons x l =>
     have hx:x∈(List.range ops.size).filter (un listed):=by rw[hL]; exact List.mem_cons_self ..
     obtain ⟨hx1,hx2⟩:=List.mem_filter.1 hx
     have hxl:=List.mem_range.1 hx1
     refine ⟨x,hxl,hx2,fun j hj=>?_⟩
     cases hu:un listed j with
     | false=>rfl
     | true =>
      exfalso
      have hs:=(filter_split (p:=un listed) (show j<ops.size by omega) hu).1
      have hs2:=(filter_split (p:=un listed) hxl hx2).1
      have hj':j∈(List.range x).filter (un listed):=List.mem_filter.2 ⟨List.mem_range.2 hj,hu⟩
      rw[hL] at hs2
      cases hq:(List.range x).filter (un listed) with
      | nil=>rw[hq] at hj'; cases hj'
      | cons y m =>
       rw[hq] at hs2
       have hy:y∈(List.range x).filter (un listed):=by rw[hq]; exact List.mem_cons_self ..
       have hyx:=List.mem_range.1 (List.mem_filter.1 hy).1
       simp at hs2
       omega
   obtain ⟨i,hi,hu,hmin⟩:=hne
   have hoi:ops[i]?=some ops[i]:=Array.getElem?_eq_getElem hi
   have:i∈Region.ready .any ops listed:=mem_ready.2 ⟨by simpa[un] using hu,_,hoi,fun e he hb=>by
    have:=(hstat i _ hoi).1 e he hb
    exact htrue e.on (by omega) (hmin e.on this)⟩
   rw[hre] at this
   cases this
  ·obtain ⟨h1,oi,hoi,h3⟩:=mem_ready.1 hi
   have hlt:i<ops.size:=(Array.getElem?_eq_some_iff.1 hoi).1
   have hu:un listed i=true:=by simp[un,h1]
   obtain ⟨s1,s2⟩:=filter_split (p:=un listed) hlt hu
   have hun:un (listed.setIfInBounds i true)=fun k=>un listed k&&decide (k≠i):=by
    funext k
    simp only[un,Array.getD_eq_getD_getElem?,Array.getElem?_setIfInBounds]
    by_cases e:i=k
    ·subst e
     simp[hsz,hlt]
    ·rw[if_neg e]
     simp[Ne.symm e]
   have hrest:rest ops (un listed)=((List.range i).filter (un listed)).filterMap (ops[·]?)++oi::((List.range' (i+1) (ops.size - i - 1)).filter (un listed)).filterMap (ops[·]?):=by
    unfold rest
    rw[s1,List.filterMap_append,List.filterMap_cons,hoi]
   have hrest':rest ops (un (listed.setIfInBounds i true))=((List.range i).filter (un listed)).filterMap (ops[·]?)++((List.range' (i+1) (ops.size - i - 1)).filter (un listed)).filterMap (ops[·]?):=by
    unfold rest
    rw[hun,s2,List.filterMap_append]
   rw[hrest] at h
   obtain ⟨f1,hf1,hf2⟩:=take_first (by
    intro oj hoj
    obtain ⟨j,hj,hje⟩:=List.mem_filterMap.1 hoj
    obtain ⟨hj1,hj2⟩:=List.mem_filter.1 hj
    have hji:=List.mem_range.1 hj1
    rcases (hstat i oi hoi).2 j oj hji hje with hb | hb
    ·exfalso
     have:=bef_listed hdown _ j i oi hoi h3 hb
     have hj3:listed.getD j true=false:=by simpa[un] using hj2
     have hjs:j<listed.size:=by omega
     simp[Array.getD,hjs] at this hj3
     rw[hj3] at this
     cases this
    ·exact hb) (fun t _ b off e=>by
     have hv:=hI.v t
     rw[e] at hv
     generalize a.tmps.getD t undef=y at hv
     cases hv with
     | ptr _ _ hb=>exact hI.core.n▸hb) h
   rw[← hrest'] at hf2
   have hstep:=step_ok (Q:=fun e a' w'=>e=.normal∧a'.defers=a0.defers∧∃ E',E'.w=w'∧Inv E0 s0 I.nt E' f' a') hty hcall h0 (arr_all hd) (fun d hdd=>arr_all hd i oi d hoi hdd) hf1 hI
    (K:=wpAny P .any ops (fun e a' w'=>e=.normal∧a'.defers=a0.defers∧∃ E',E'.w=w'∧Inv E0 s0 I.nt E' f' a') fuel (listed.setIfInBounds i true)) (by
     intro E' a' hI' hd'
     refine ih (listed.setIfInBounds i true) E' f1 a' (by simp[hsz]) ?_ ?_ hf2 hI' (hd'.trans hdf)
     ·intro k hk ok hok e he hb
      have hmono:∀ m,listed.getD m false=true→(listed.setIfInBounds i true).getD m false=true:=by
       intro m hm
       simp only[Array.getD_eq_getD_getElem?,Array.getElem?_setIfInBounds] at hm ⊢
       split
       ·split<;>simp_all
       ·exact hm
      by_cases e':k=i
      ·subst e'
       rw[hoi] at hok
       cases hok
       exact hmono _ (h3 e he hb)
      ·refine hmono _ (hdown k ?_ ok hok e he hb)
       simp only[Array.getD_eq_getD_getElem?,Array.getElem?_setIfInBounds] at hk ⊢
       rw[if_neg (Ne.symm e')] at hk
       exact hk
     ·rw[hun,s2]
      rw[s1] at hlen
      simp only[List.length_append,List.length_cons] at hlen ⊢
      omega)
   unfold wpOp
   rw[hoi]
   simp only
   split
   ·rename_i hw
    rw[if_pos hw] at hstep
    exact .inl hstep
   ·rename_i hw
    rw[if_neg hw] at hstep
    exact hstep

theorem draw_ok (hty:TysOk P C) (hm:P.follows .mixedOrders=true):DrawOK P C drawOk:=by
 intro I ops id hdst hdr call hcall E0 s0 E f f' a htb h hI
 refine wp_region_any hm ?_
 have hrest:rest ops (un (Array.replicate ops.size false))=ops.toList:=by
  unfold rest
  have:(List.range ops.size).filter (un (Array.replicate ops.size false))=List.range ops.size:=by
   rw[List.filter_eq_self]
   intro k hk
   have:=List.mem_range.1 hk
   simp[un,Array.getD,this]
  rw[this]
  apply List.ext_getElem?
  intro k
  have key:∀ n,n≤ops.size→(List.range n).filterMap (ops[·]?)=ops.toList.take n:=by
   intro n
   induction n with
   | zero=>intro _; rfl
   | succ n ih =>
    intro hn
    rw[List.range_succ,List.filterMap_append,ih (by omega),List.take_add_one]
    congr 1
    simp[show n<ops.size by omega]
  rw[key ops.size (Nat.le_refl _),List.take_of_length_le (by simp)]
 have hI':=hI.same { E.w with drawn:=E.w.drawn+1 } rfl rfl rfl rfl
 refine draw_any (a0:=a) hty hcall htb hdst hdr ops.size (Array.replicate ops.size false) { E with w:={ E.w with drawn:=E.w.drawn+1 } } f a (by simp) ?_ ?_ (by rw[hrest]; exact h) hI' rfl
 ·intro k hk
  exfalso
  simp only[Array.getD_eq_getD_getElem?,Array.getElem?_replicate] at hk
  split at hk<;>simp at hk
 ·have:(List.range ops.size).filter (un (Array.replicate ops.size false))=List.range ops.size:=by
   rw[List.filter_eq_self]
   intro k hk
   have:=List.mem_range.1 hk
   simp[un,Array.getD,this]
  rw[this]; simp

theorem sound (hC:CfgOk P C drawOk) (hm:P.follows .mixedOrders=true) (n:Nat) (al:Bool):CallOK P C.tab (callF C n al):=callF_ok hC (run_ok hC (draw_ok hC.ty hm) n) al

end
end Ae
namespace Ae
open Go

inductive Tree (α:Type) where
 | leaf
 | node (l:Tree α) (k:Nat) (v:α) (r:Tree α)

noncomputable def Tree.get {α:Type} (t:Tree α) (i:Nat):Option α :=
 Tree.rec (motive:=fun _=>Option α) none (fun _ k v _ hl hr=>bif Nat.blt i k then hl else bif Nat.beq i k then some v else hr) t

noncomputable def Tree.all {α:Type} (p:Nat→α→Bool) (t:Tree α):Bool :=
 Tree.rec (motive:=fun _=>Bool) true (fun _ k v _ hl hr=>p k v&&(hl&&hr)) t

theorem Tree.get_node {α:Type} (l r:Tree α) (k i:Nat) (v:α):(Tree.node l k v r).get i=bif Nat.blt i k then l.get i else bif Nat.beq i k then some v else r.get i:=rfl

theorem Tree.all_get {α:Type} {p:Nat→α→Bool}:∀ {t:Tree α},t.all p=true→∀ {i v},t.get i=some v→p i v=true
 | .leaf,_,i,v,h=>by cases h
 | .node l k x r,ha,i,v,h=>by
  have ha':(p k x&&(l.all p&&r.all p))=true:=ha
  simp only[Bool.and_eq_true] at ha'
  rw[Tree.get_node] at h
  cases h1:Nat.blt i k with
  | true=>rw[h1] at h; exact Tree.all_get ha'.2.1 h
  | false =>
   rw[h1] at h
   cases h2:Nat.beq i k with
   | true =>
    rw[h2] at h
    have e:i=k:=Nat.eq_of_beq_eq_true h2
    cases h
    subst e
    exact ha'.1
   | false=>rw[h2] at h; exact Tree.all_get ha'.2.2 h

def Tree.Each {α:Type} (Q:Nat→α→Prop):Tree α→Prop
 | .leaf=>True
 | .node l k v r=>Q k v∧l.Each Q∧r.Each Q

theorem Tree.Each.get {α:Type} {Q:Nat→α→Prop}:∀ {t:Tree α},t.Each Q→∀ {i v},t.get i=some v→Q i v
 | .leaf,_,i,v,h=>by cases h
 | .node l k x r,ha,i,v,h=>by
  obtain ⟨ha1,ha2,ha3⟩:=ha
  rw[Tree.get_node] at h
  cases h1:Nat.blt i k with
  | true=>rw[h1] at h; exact Tree.Each.get ha2 h
  | false =>
   rw[h1] at h
   cases h2:Nat.beq i k with
   | true =>
    rw[h2] at h
    have e:i=k:=Nat.eq_of_beq_eq_true h2
    cases h
    subst e
    exact ha1
   | false=>rw[h2] at h; exact Tree.Each.get ha3 h

def oneB:AV→Value→Bool
 | .int k n,.int k' n'=>decide (k=k')&&decide (n=n')
 | .bool b,.bool b'=>b == b'
 | .str [],.string s=>decide (s.size=0)
 | .nilp,.pointer none=>true
 | .nilfn,.nilFunc=>true
 | .sl _ _ [],.slice none 0 0=>true
 | .undef,_=>true
 | _,_=>false

def zeroB:AV→Value→Bool
 | .agg cs,.agg vs=>decide (cs.length=vs.size)&&(cs.zip vs.toList).all fun p=>p.1.one&&oneB p.1 p.2
 | a,v=>oneB a v

theorem oneB_ok {E:Env} {a:AV} {v:Value} (h:oneB a v=true):V E a v:=by
 unfold oneB at h
 split at h
 ·simp only[Bool.and_eq_true,decide_eq_true_eq] at h; obtain ⟨rfl,rfl⟩:=h; exact .int _ _
 ·simp only[beq_iff_eq] at h; subst h; exact .bool _
 ·rename_i s
  simp only[decide_eq_true_eq] at h
  have:s.data.toList=[]:=List.eq_nil_of_length_eq_zero (by simpa using h)
  rw[← this]; exact .str s
 ·exact .nilp
 ·exact .nilfn
 ·exact .slNil _ _ none
 ·exact .undef _
 ·cases h

theorem zeroB_ok {E:Env} {a:AV} {v:Value} (h:zeroB a v=true):V E a v:=by
 unfold zeroB at h
 split at h
 ·rename_i cs vs
  simp only[Bool.and_eq_true,decide_eq_true_eq,List.all_eq_true] at h
  obtain ⟨hl,hall⟩:=h
  have key:∀ (i:Nat) c v,cs[i]?=some c→vs[i]?=some v→c.one=true∧oneB c v=true:=by
   intro i c v hc hv
   have hz:(cs.zip vs.toList)[i]?=some (c,v):=by rw[List.getElem?_zip_eq_some]; exact ⟨hc,by simpa using hv⟩
   exact hall _ (List.mem_of_getElem? hz)
  refine .agg cs vs hl (fun i c hc=>?_) (fun i c v hc hv=>oneB_ok (key i c v hc hv).2)
  have hlt:=(List.getElem?_eq_some_iff.1 hc).1
  exact (key i c _ hc (Array.getElem?_eq_getElem (by omega))).1
 ·exact oneB_ok h

def ukB (P:Program) (t:Nat):UK→Bool
 | .int k=>match P.underlying t with | some (.int k')=>decide (k'=k) | _=>false
 | .bool=>match P.underlying t with | some .bool=>true | _=>false
 | .str=>match P.underlying t with | some .string=>true | _=>false
 | .slice e=>match P.underlying t with | some (.slice e')=>Nat.beq e' e | _=>false
 | .struct fs=>match P.underlying t with | some (.struct F)=>decide (F.toList.map (fun f=>(f.offset,f.type))=fs) | _=>false
 | .array n e=>match P.underlying t with | some (.array n' e')=>Nat.beq n' n&&Nat.beq e' e | _=>false
 | .ptr=>match P.underlying t with | some (.pointer _)=>true | _=>false
 | .func=>match P.underlying t with | some (.func _ _ _)=>true | _=>false
 | .other=>false

def tyB (P:Program) (t:Nat) (ti:TI):Bool :=
 ukB P t ti.u&&(match P.info? t with
  | some i=>Nat.beq i.size ti.size&&Nat.beq i.bytes ti.bytes&&(match i.zero with | some z=>zeroB ti.zero z | none=>false)
  | none=>false)

theorem ukB_ok {P:Program} {t:Nat} {u:UK} (h:ukB P t u=true):UOk P t u∧u≠.other:=by
 cases u<;>simp only[ukB] at h<;>try (cases h; done)
 all_goals
  refine ⟨?_,by simp⟩
  simp only[UOk]
  split at h
  ·rename_i hu
   first
    | (simp only[decide_eq_true_eq] at h; subst h; exact hu)
    | (have:=Nat.eq_of_beq_eq_true h; subst this; exact hu)
    | (simp only[Bool.and_eq_true] at h; have h1:=Nat.eq_of_beq_eq_true h.1; have h2:=Nat.eq_of_beq_eq_true h.2; subst h1; subst h2; exact hu)
    | (simp only[decide_eq_true_eq] at h; exact ⟨_,hu,h⟩)
    | exact hu
    | exact ⟨_,hu⟩
    | exact ⟨_,_,_,hu⟩
  ·cases h

theorem tyB_ok {P:Program} {t:Nat} {ti:TI} (h:tyB P t ti=true):TIok P t ti:=by
 unfold tyB at h
 simp only[Bool.and_eq_true] at h
 obtain ⟨h1,h2⟩:=h
 obtain ⟨k1,k2⟩:=ukB_ok h1
 refine ⟨k1,k2,?_⟩
 split at h2
 ·rename_i i hi
  simp only[Bool.and_eq_true] at h2
  obtain ⟨⟨e1,e2⟩,e3⟩:=h2
  split at e3
  ·rename_i z hz
   exact ⟨i,hi,Nat.eq_of_beq_eq_true e1,Nat.eq_of_beq_eq_true e2,z,hz,fun E=>zeroB_ok e3⟩
  ·cases e3
 ·cases h2

def fiOf (fn:Func) (mv:List Nat) (bk:List (Nat × Nat)) (dy:List Nat) (keep:Bool) (rd:Nat:=0) (al:List Nat:=[]) (fz:List (Nat × Nat):=[]) (ef:List Nat:=[]) (im:List Nat:=[]):FI:=⟨fn.body.getD .skip,fn.ntmps,fn.results.toList,mv,bk,dy,keep,rd,al,fz,ef,im⟩

theorem FnOk.of {P : Program} {g : Nat} {fn : Func} {mv : List Nat} {bk : List (Nat × Nat)} {dy : List Nat} {keep : Bool} {rd : Nat} {al : List Nat} {fz : List (Nat × Nat)} {ef im : List Nat} (h : P.funcs[g]? = some fn) (hb : fn.body.isSome = true) (hn : (fn.name == "runtime.NumGoroutine") = false)
  (hc:codeOk drawOk (fiOf fn mv bk dy keep rd al fz ef im) (fn.body.getD .skip)=true):FnOk P drawOk g (fiOf fn mv bk dy keep rd al fz ef im):=by
 refine ⟨⟨fn,h,?_,rfl,rfl,by simpa using hn⟩,hc⟩
 cases hb':fn.body with
 | none=>rw[hb'] at hb; cases hb
 | some c=>simp[fiOf,hb']

end Ae
namespace Ae
open Go Go.RowKit

def Env.of (W:World):Env:={ w:=W,pr:=fun g=>match W.heap[g]? with | some (.cells c _ _)=>c.size | _=>0,μ:=fun _=>0,n:=0,cp:=fun _=>(0,0) }

def St.zero:St:=⟨0,fun _=>none,fun _ _=>false,0,0⟩

theorem Core.of (W:World):Core (Env.of W) St.zero :=
 { n:=rfl
   new:=fun g hg=>by
     simp only[Env.of]
     rw[Array.getElem?_eq_none (show W.heap.size≤g from hg)]
   box:=fun b cs hb=>absurd hb (Nat.not_lt_zero _)
   blt:=fun b hb=>absurd hb (Nat.not_lt_zero _)
   inj:=fun b b' _ hb=>absurd hb (Nat.not_lt_zero _)
   held:=fun b i c v h=>absurd h.1 (Nat.not_lt_zero _)
   dj:=fun b i b' i' g h=>by obtain ⟨c,v,h1,_⟩:=h; exact absurd h1.1 (Nat.not_lt_zero _) }

theorem TabE.of {T:List (Nat × List Value)} {W:World} (h:∀ g vs,(g,vs)∈T→∃ t k,W.heap[g]?=some (.cells vs.toArray t k)):TabE T (Env.of W) St.zero:=fun g vs hm=>by
 obtain ⟨t,k,h1⟩:=h g vs hm
 refine ⟨(Array.getElem?_eq_some_iff.1 h1).1,?_,t,k,h1⟩
 rintro (⟨b,_,h2,_⟩ | ⟨b,i,c,v,h1,_⟩)
 ·exact absurd h2 (Nat.not_lt_zero _)
 ·exact absurd h1.1 (Nat.not_lt_zero _)

theorem law_callsT {P:Program} {C:Cfg} (hC:CfgOk P C drawOk) (hm:P.follows .mixedOrders=true) {g:Nat} {args:List AV} {vs:Array Value} (W:World) (htab:∀ g vs,(g,vs)∈C.tab→∃ t k,W.heap[g]?=some (.cells vs.toArray t k)) (he:C.ext g=none) {b:Bool}
  (hargs:VA (Env.of W) args vs) (h:ACall C g args St.zero fun v _ _=>v=.bool b):Calls P g vs W fun e W'=>e=.returned (.bool b)∧Below W.heap.size W W':=by
 obtain ⟨n,v,o,s',hr,rfl⟩:=h
 have hs:=sound hC hm n false g args St.zero _ o s' hr (Env.of W) vs (TabE.of htab) (Core.of W) (Nat.le_refl _) hargs
 have fin:∀ y W',Ret (Env.of W) St.zero (.bool b) o s' y W'→y=.bool b∧Below W.heap.size W W':=by
  rintro y W' ⟨E',rfl,R⟩
  have hv:V E' (.bool b) y:=by have:=R.v 0; simpa[retFr] using this
  refine ⟨by cases hv; rfl,⟨R.os,R.tape,R.out,R.size,fun k hk=>(R.fr k hk ?_).1⟩⟩
  rintro (⟨b,_,h2,_⟩ | ⟨b,i,c,v,h1,_⟩)
  ·exact absurd h2 (Nat.not_lt_zero _)
  ·exact absurd h1.1 (Nat.not_lt_zero _)
 rcases hs with ⟨_,h2⟩ | ⟨y,w',h1,h2⟩
 ·refine Calls.mono h2 ?_
  rintro e w' ⟨y,rfl,hR⟩
  obtain ⟨rfl,hb⟩:=fin y w' hR
  exact ⟨rfl,hb⟩
 ·exfalso
  unfold callF lendC at hr
  rw[he] at hr
  simp only at hr
  cases hJ:tbl C false g with
  | none=>rw[hJ] at hr; cases hr
  | some J =>
   obtain ⟨⟨fn,hfn,hbody,_,_,hname⟩,_⟩:=hC.fn false g J hJ
   have:(callFunc g vs).run P W=.ok (.enter g vs) W:=by simp[callFunc,hfn,hbody,hname]
   rw[show (Env.of W).w=W from rfl,this] at h1
   cases h1

theorem law_calls {P:Program} {C:Cfg} (hC:CfgOk P C drawOk) (hm:P.follows .mixedOrders=true) {g:Nat} {args:List AV} {vs:Array Value} (W:World) (he:C.ext g=none) {b:Bool}
  (hargs:VA (Env.of W) args vs) (h:ACall C g args St.zero fun v _ _=>v=.bool b) (ht:C.tab=[]:=by rfl):Calls P g vs W fun e W'=>e=.returned (.bool b)∧Below W.heap.size W W' :=
 law_callsT hC hm W (fun g vs hm=>by rw[ht] at hm; cases hm) he hargs h

end Ae
