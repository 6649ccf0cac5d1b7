import Derived.Test.YtmahhacghgkigaaGreatAeD
import Derived.Test.YtmahhacghgkigaaGreatAe4
set_option linter.unusedVariables false
set_option linter.unusedSimpArgs false
namespace Go.Proofs.YtmahhacghgkigaaGreat.law
open Go Go.Proofs Ae
open Ae.AV (int sl eptr agg ptr bool str)
set_option maxRecDepth 100000
set_option linter.unusedVariables false
theorem ext_join_ok {l:List (List UInt8)} {z:Nat} {f:Bool} {e:List AV} (hL:LR rS 1 l z e) {sep r:List UInt8} (h:joinS l sep=some r) {st:St} (hs:WF st):ACall Cf 70 [.sl z f e,.str sep] st fun v _ s'=>rS r v∧s'=st:=by
 refine ⟨0,.str r,false,st,?_,rfl,rfl⟩
 show (φJoin [.sl z f e,.str sep]).map _=_
 rw[φJoin_run hL h]
 rfl

theorem ext_clone103_ok {l:List Int} {z:Nat} {f:Bool} {e:List AV} (hL:LR rJ 1 l z e) {r:List Int} (h:cloneI l=some r) {st:St} (hs:WF st):ACall Cf 103 [.sl z f e] st fun v o s'=>(rL rJ 1 r v∧s'=st)∧o=true:=by
 obtain ⟨h1,rfl⟩:=φCloneX_run (f:=f) hL h st
 exact ACall.extS (by rfl) h1 ⟨⟨φCloneX_rel hL,rfl⟩,rfl⟩

theorem ext_grow117_ok {l:List Int} {z:Nat} {e:List AV} (hL:LR rJ 1 l z e) {n:Int} {r:List Int} (h:growN l n=some r) {st:St} (hs:WF st):ACall Cf 117 [.sl z true e,.int .i64 n] st fun v o s'=>(rL rJ 1 r v∧s'=st)∧o=true:=by
 obtain ⟨h1,rfl⟩:=φGrow_run hL h
 refine ⟨0,.sl 1 false [],true,st,?_,⟨⟨1,false,[],rfl,.inl rfl,.nil⟩,rfl⟩,rfl⟩
 show (φGrow [.sl z true e,.int .i64 n]).map _=_
 rw[h1]
 rfl
theorem ext_byte_ok {s:List UInt8} {c r:Int} (h:ixByteM s c=some r) {st:St} (hs:WF st):ACall Cf 119 [.str s,.int .u8 c] st fun v _ s'=>rI .i64 r v∧s'=st:=by
 cases h
 exact ⟨0,_,_,_,rfl,rfl,rfl⟩
noncomputable def oE2:OT Int:=oLeaf rJ false 1 4 Sh.I (fun _=>rfl) (fun _=>.I)
noncomputable def oE114:OT Parcel:=oLeaf rParcel true 2 4 (Sh.A (f:=csParcel) (fun _=>⟨(.cons (One.of Sh.I _) (.cons (One.of (Sh.L (r:=rS) (sz:=1)) _) .nil)),rfl⟩)) (fun h=>by cases h) (fun _=>(.A (.cons .I (.cons (.L fun _=>.S) .nil))))
theorem own_leaf114:∀ k k' x cs L,oE114.own k x cs L→oE114.own k' x cs L∧L=[]:=fun _ _ _ _ _ h=>⟨h,h.2⟩
theorem own_int:∀ k x cs L,oE2.own k x cs L↔cs=[.int .i64 x]∧L=[]:=fun k x cs L=>⟨fun ⟨⟨v,h1,h2⟩,h3⟩=>by cases h1; exact ⟨h2.symm,h3⟩,fun ⟨h1,h2⟩=>⟨⟨_,rfl,h1.symm⟩,h2⟩⟩
theorem laws_szBoolS_ok {a1:List Bool} {left6:Int} {z2:Nat} {f3:Bool} {e4:List AV} {s:St} (h5:LR rB 1 a1 z2 e4) {r:Int} (h:laws_szBoolS a1 left6=some r) (hs:WF s):ACall Cf 26 [(sl z2 f3 e4),(J left6)] s fun v _ s'=>rJ r v∧s'=s:=by
 refine ACall.pure rfl rfl rfl .I ?_
 have hWF:=hs.lo'
 unfold laws_szBoolS at h
 refine sr ?_
 refine q (J 0) ?_
 refine ns ?_
 refine q (J left6) ?_
 refine q (sl z2 f3 e4) ?_
 refine AOps.p rfl (len_eq h5) ?_
 refine q (J (IntKind.wrap .i64 (left6 - (a1.length:Int)))) ?_
 refine aq (J (IntKind.wrap .i64 (left6 - (a1.length:Int)))) ?_
 refine nl ?_
 refine AW.seq ?_
 refine sr ?_
 refine q (J (IntKind.wrap .i64 (left6 - (a1.length:Int)))) ?_
 refine q (bool (decide ((IntKind.wrap .i64 (left6 - (a1.length:Int)):Int)<0))) ?_
 refine nl ?_
 rcases oite h with ⟨hc7,h⟩ | ⟨hc7,h⟩
 ·refine cT hc7 ?_
  refine sr ?_
  refine q (J (-1)) ?_
  refine nl ?_
  cases h
  exact AW.ret ⟨rfl,_,_,rfl,rfl⟩
 refine cF hc7 ?_
 refine AW.skip ?_
 refine sr ?_
 refine q (J (IntKind.wrap .i64 (left6 - (a1.length:Int)))) ?_
 refine aq (J (IntKind.wrap .i64 (left6 - (a1.length:Int)))) ?_
 refine nl ?_
 cases h
 exact AW.ret ⟨rfl,_,_,rfl,rfl⟩
theorem laws_szPushS_ok {a1:List Push} {left6:Int} {z2:Nat} {f3:Bool} {e4:List AV} {s:St} (h5:LR rPush 2 a1 z2 e4) {r:Int} (h:laws_szPushS a1 left6=some r) (hs:WF s):ACall Cf 53 [(sl z2 f3 e4),(J left6)] s fun v _ s'=>rJ r v∧s'=s:=by
 refine ACall.pure rfl rfl rfl .I ?_
 have hWF:=hs.lo'
 unfold laws_szPushS at h
 refine sr ?_
 refine q (J 0) ?_
 refine ns ?_
 refine q (J left6) ?_
 refine q (sl z2 f3 e4) ?_
 refine AOps.p rfl (len_eq h5) ?_
 refine q (J (IntKind.wrap .i64 (left6 - (a1.length:Int)))) ?_
 refine aq (J (IntKind.wrap .i64 (left6 - (a1.length:Int)))) ?_
 refine nl ?_
 refine AW.seq ?_
 refine sr ?_
 refine q (J (IntKind.wrap .i64 (left6 - (a1.length:Int)))) ?_
 refine q (bool (decide ((IntKind.wrap .i64 (left6 - (a1.length:Int)):Int)<0))) ?_
 refine nl ?_
 rcases oite h with ⟨hc7,h⟩ | ⟨hc7,h⟩
 ·refine cT hc7 ?_
  refine sr ?_
  refine q (J (-1)) ?_
  refine nl ?_
  cases h
  exact AW.ret ⟨rfl,_,_,rfl,rfl⟩
 refine cF hc7 ?_
 refine AW.skip ?_
 refine sr ?_
 refine q (J (IntKind.wrap .i64 (left6 - (a1.length:Int)))) ?_
 refine aq (J (IntKind.wrap .i64 (left6 - (a1.length:Int)))) ?_
 refine nl ?_
 cases h
 exact AW.ret ⟨rfl,_,_,rfl,rfl⟩
theorem laws_szPushSS_ok {a1:List (List Push)} {left6:Int} {z2:Nat} {f3:Bool} {e4:List AV} {s:St} (h5:LR (rL rPush 2) 1 a1 z2 e4) {r:Int} (h:laws_szPushSS a1 left6=some r) (hs:WF s):ACall Cf 27 [(sl z2 f3 e4),(J left6)] s fun v _ s'=>rJ r v∧s'=s:=by
 refine ACall.pure rfl rfl rfl .I ?_
 have hWF:=hs.lo'
 unfold laws_szPushSS at h
 refine sr ?_
 refine q (J 0) ?_
 refine ns ?_
 refine q (J left6) ?_
 refine q (sl z2 f3 e4) ?_
 refine AOps.p rfl (len_eq h5) ?_
 refine q (J (IntKind.wrap .i64 (left6 - (a1.length:Int)))) ?_
 refine aq (J (IntKind.wrap .i64 (left6 - (a1.length:Int)))) ?_
 refine nl ?_
 refine AW.seq ?_
 refine sr ?_
 refine q (J (IntKind.wrap .i64 (left6 - (a1.length:Int)))) ?_
 refine q (bool (decide ((IntKind.wrap .i64 (left6 - (a1.length:Int)):Int)<0))) ?_
 refine nl ?_
 rcases oite h with ⟨hc7,h⟩ | ⟨hc7,h⟩
 ·refine cT hc7 ?_
  refine sr ?_
  refine q (J (-1)) ?_
  refine nl ?_
  cases h
  exact AW.ret ⟨rfl,_,_,rfl,rfl⟩
 refine cF hc7 ?_
 refine AW.skip ?_
 refine AW.seq ?_
 refine sr ?_
 refine q (J 0) ?_
 refine nl ?_
 refine AW.meet (σ:=Int) (fun left8 tm os=>⟨updL tm [(1,(J left8))],updL os [],{ s with lo:=s.n }⟩) (fun left8=>laws_szPushSS_J1 left8=some r) ?_ ?_
 ·rintro left8 tm os h
  unfold laws_szPushSS_J1 at h
  refine sr ?_
  refine q (J left8) ?_
  refine aq (J left8) ?_
  refine nl ?_
  cases h
  exact AW.ret ⟨rfl,_,_,rfl,rfl⟩
 intro KJ9
 refine AW.block ?_
 refine AW.res [(0,(sl z2 f3 e4)),(1,(J (IntKind.wrap .i64 (left6 - (a1.length:Int))))),(5,(J 0))] [] ⟨rfl,rfl,rfl,trivial⟩ trivial ?_
 refine AW.loopF (σ:=Int × Int) (τ:=Unit) (fun (left10,i11) _=>True) (fun (left10,i11) _ tm os=>⟨updL tm [(0,(sl z2 f3 e4)),(1,(J left10)),(5,(J i11))],updL os [],{ s with lo:=s.n }⟩) ?_ (x:=(IntKind.wrap .i64 (left6 - (a1.length:Int)),0)) (y:=()) h trivial
 clear h
 rintro ⟨left10,i11⟩ _ tm os - ee1 h hL1 hR1
 unfold laws_szPushSS_S1 at h
 dsimp only at h
 refine AW.seq ?_
 refine sr ?_
 refine q (J i11) ?_
 refine q (sl z2 f3 e4) ?_
 refine AOps.p rfl (len_eq h5) ?_
 refine q (bool (decide ((i11:Int)<(a1.length:Int)))) ?_
 refine nl ?_
 rcases oite h with ⟨hc12,h⟩ | ⟨hc12,h⟩
 ·refine cT hc12 ?_
  refine AW.skip ?_
  refine AW.seq ?_
  refine AW.block ?_
  refine sr ?_
  refine q (sl z2 f3 e4) ?_
  refine q (J i11) ?_
  obtain ⟨x13,h14,h⟩:=obind h
  obtain ⟨v17,h15,h16⟩:=idx_sl h5 h14
  obtain ⟨z18,f19,e20,rfl,h21⟩:=h15
  refine AOps.pureR rfl rfl rfl h16 rfl (rfl:_=(eptr [(sl z18 f19 e20)] 0)) ?_
  refine lE (sl z18 f19 e20) ?_
  refine q (J left10) ?_
  obtain ⟨y22,h23,h⟩:=obind h
  refine cP (laws_szPushS_ok h21 h23 hWF) ?_
  intro _ o25 h24
  cases h24
  refine aq (J y22) ?_
  refine ns ?_
  refine q (J y22) ?_
  refine q (bool (decide ((y22:Int)<0))) ?_
  refine nl ?_
  rcases oite h with ⟨hc26,h⟩ | ⟨hc26,h⟩
  ·refine cT hc26 ?_
   refine sr ?_
   refine q (J (-1)) ?_
   refine nl ?_
   cases h
   have hr:=hR1 _ rfl
   subst hr
   exact AW.ret ⟨rfl,_,_,rfl,rfl⟩
  refine cF hc26 ?_
  refine AW.skip ?_
  refine AW.inBlock ?_
  refine AW.region ?_
  refine q (J i11) ?_
  refine q (J (IntKind.wrap .i64 (i11+1))) ?_
  refine aq (J (IntKind.wrap .i64 (i11+1))) ?_
  refine nl ?_
  cases h
  exact AW.res [(0,(sl z2 f3 e4)),(1,(J y22)),(5,(J (IntKind.wrap .i64 (i11+1))))] [] ⟨rfl,rfl,rfl,trivial⟩ trivial (hL1 _ rfl () _ _ trivial)
 refine cF hc12 ?_
 refine AW.exit rfl ?_
 obtain ⟨r27,hm,hx⟩:=omap h
 clear h
 subst hx
 have hx:=hR1 _ rfl
 rw[hx] at hm
 have h:=hm
 exact AW.res [(1,(J left10))] [] ⟨rfl,trivial⟩ trivial (KJ9 (left10) _ _ h)
theorem laws_szInt64S_ok {a1:List Int} {left6:Int} {z2:Nat} {f3:Bool} {e4:List AV} {s:St} (h5:LR rJ 1 a1 z2 e4) {r:Int} (h:laws_szInt64S a1 left6=some r) (hs:WF s):ACall Cf 54 [(sl z2 f3 e4),(J left6)] s fun v _ s'=>rJ r v∧s'=s:=by
 refine ACall.pure rfl rfl rfl .I ?_
 have hWF:=hs.lo'
 unfold laws_szInt64S at h
 refine sr ?_
 refine q (J 0) ?_
 refine ns ?_
 refine q (J left6) ?_
 refine q (sl z2 f3 e4) ?_
 refine AOps.p rfl (len_eq h5) ?_
 refine q (J (IntKind.wrap .i64 (left6 - (a1.length:Int)))) ?_
 refine aq (J (IntKind.wrap .i64 (left6 - (a1.length:Int)))) ?_
 refine nl ?_
 refine AW.seq ?_
 refine sr ?_
 refine q (J (IntKind.wrap .i64 (left6 - (a1.length:Int)))) ?_
 refine q (bool (decide ((IntKind.wrap .i64 (left6 - (a1.length:Int)):Int)<0))) ?_
 refine nl ?_
 rcases oite h with ⟨hc7,h⟩ | ⟨hc7,h⟩
 ·refine cT hc7 ?_
  refine sr ?_
  refine q (J (-1)) ?_
  refine nl ?_
  cases h
  exact AW.ret ⟨rfl,_,_,rfl,rfl⟩
 refine cF hc7 ?_
 refine AW.skip ?_
 refine sr ?_
 refine q (J (IntKind.wrap .i64 (left6 - (a1.length:Int)))) ?_
 refine aq (J (IntKind.wrap .i64 (left6 - (a1.length:Int)))) ?_
 refine nl ?_
 cases h
 exact AW.ret ⟨rfl,_,_,rfl,rfl⟩
theorem laws_szInt64SS_ok {a1:List (List Int)} {left6:Int} {z2:Nat} {f3:Bool} {e4:List AV} {s:St} (h5:LR (rL rJ 1) 1 a1 z2 e4) {r:Int} (h:laws_szInt64SS a1 left6=some r) (hs:WF s):ACall Cf 29 [(sl z2 f3 e4),(J left6)] s fun v _ s'=>rJ r v∧s'=s:=by
 refine ACall.pure rfl rfl rfl .I ?_
 have hWF:=hs.lo'
 unfold laws_szInt64SS at h
 refine sr ?_
 refine q (J 0) ?_
 refine ns ?_
 refine q (J left6) ?_
 refine q (sl z2 f3 e4) ?_
 refine AOps.p rfl (len_eq h5) ?_
 refine q (J (IntKind.wrap .i64 (left6 - (a1.length:Int)))) ?_
 refine aq (J (IntKind.wrap .i64 (left6 - (a1.length:Int)))) ?_
 refine nl ?_
 refine AW.seq ?_
 refine sr ?_
 refine q (J (IntKind.wrap .i64 (left6 - (a1.length:Int)))) ?_
 refine q (bool (decide ((IntKind.wrap .i64 (left6 - (a1.length:Int)):Int)<0))) ?_
 refine nl ?_
 rcases oite h with ⟨hc7,h⟩ | ⟨hc7,h⟩
 ·refine cT hc7 ?_
  refine sr ?_
  refine q (J (-1)) ?_
  refine nl ?_
  cases h
  exact AW.ret ⟨rfl,_,_,rfl,rfl⟩
 refine cF hc7 ?_
 refine AW.skip ?_
 refine AW.seq ?_
 refine sr ?_
 refine q (J 0) ?_
 refine nl ?_
 refine AW.meet (σ:=Int) (fun left8 tm os=>⟨updL tm [(1,(J left8))],updL os [],{ s with lo:=s.n }⟩) (fun left8=>laws_szInt64SS_J1 left8=some r) ?_ ?_
 ·rintro left8 tm os h
  unfold laws_szInt64SS_J1 at h
  refine sr ?_
  refine q (J left8) ?_
  refine aq (J left8) ?_
  refine nl ?_
  cases h
  exact AW.ret ⟨rfl,_,_,rfl,rfl⟩
 intro KJ9
 refine AW.block ?_
 refine AW.res [(0,(sl z2 f3 e4)),(1,(J (IntKind.wrap .i64 (left6 - (a1.length:Int))))),(5,(J 0))] [] ⟨rfl,rfl,rfl,trivial⟩ trivial ?_
 refine AW.loopF (σ:=Int × Int) (τ:=Unit) (fun (left10,i11) _=>True) (fun (left10,i11) _ tm os=>⟨updL tm [(0,(sl z2 f3 e4)),(1,(J left10)),(5,(J i11))],updL os [],{ s with lo:=s.n }⟩) ?_ (x:=(IntKind.wrap .i64 (left6 - (a1.length:Int)),0)) (y:=()) h trivial
 clear h
 rintro ⟨left10,i11⟩ _ tm os - ee1 h hL1 hR1
 unfold laws_szInt64SS_S1 at h
 dsimp only at h
 refine AW.seq ?_
 refine sr ?_
 refine q (J i11) ?_
 refine q (sl z2 f3 e4) ?_
 refine AOps.p rfl (len_eq h5) ?_
 refine q (bool (decide ((i11:Int)<(a1.length:Int)))) ?_
 refine nl ?_
 rcases oite h with ⟨hc12,h⟩ | ⟨hc12,h⟩
 ·refine cT hc12 ?_
  refine AW.skip ?_
  refine AW.seq ?_
  refine AW.block ?_
  refine sr ?_
  refine q (sl z2 f3 e4) ?_
  refine q (J i11) ?_
  obtain ⟨x13,h14,h⟩:=obind h
  obtain ⟨v17,h15,h16⟩:=idx_sl h5 h14
  obtain ⟨z18,f19,e20,rfl,h21⟩:=h15
  refine AOps.pureR rfl rfl rfl h16 rfl (rfl:_=(eptr [(sl z18 f19 e20)] 0)) ?_
  refine lE (sl z18 f19 e20) ?_
  refine q (J left10) ?_
  obtain ⟨y22,h23,h⟩:=obind h
  refine cP (laws_szInt64S_ok h21 h23 hWF) ?_
  intro _ o25 h24
  cases h24
  refine aq (J y22) ?_
  refine ns ?_
  refine q (J y22) ?_
  refine q (bool (decide ((y22:Int)<0))) ?_
  refine nl ?_
  rcases oite h with ⟨hc26,h⟩ | ⟨hc26,h⟩
  ·refine cT hc26 ?_
   refine sr ?_
   refine q (J (-1)) ?_
   refine nl ?_
   cases h
   have hr:=hR1 _ rfl
   subst hr
   exact AW.ret ⟨rfl,_,_,rfl,rfl⟩
  refine cF hc26 ?_
  refine AW.skip ?_
  refine AW.inBlock ?_
  refine AW.region ?_
  refine q (J i11) ?_
  refine q (J (IntKind.wrap .i64 (i11+1))) ?_
  refine aq (J (IntKind.wrap .i64 (i11+1))) ?_
  refine nl ?_
  cases h
  exact AW.res [(0,(sl z2 f3 e4)),(1,(J y22)),(5,(J (IntKind.wrap .i64 (i11+1))))] [] ⟨rfl,rfl,rfl,trivial⟩ trivial (hL1 _ rfl () _ _ trivial)
 refine cF hc12 ?_
 refine AW.exit rfl ?_
 obtain ⟨r27,hm,hx⟩:=omap h
 clear h
 subst hx
 have hx:=hR1 _ rfl
 rw[hx] at hm
 have h:=hm
 exact AW.res [(1,(J left10))] [] ⟨rfl,trivial⟩ trivial (KJ9 (left10) _ _ h)
theorem laws_szInt64SSS_ok {a1:List (List (List Int))} {left6:Int} {z2:Nat} {f3:Bool} {e4:List AV} {s:St} (h5:LR (rL (rL rJ 1) 1) 1 a1 z2 e4) {r:Int} (h:laws_szInt64SSS a1 left6=some r) (hs:WF s):ACall Cf 28 [(sl z2 f3 e4),(J left6)] s fun v _ s'=>rJ r v∧s'=s:=by
 refine ACall.pure rfl rfl rfl .I ?_
 have hWF:=hs.lo'
 unfold laws_szInt64SSS at h
 refine sr ?_
 refine q (J 0) ?_
 refine ns ?_
 refine q (J left6) ?_
 refine q (sl z2 f3 e4) ?_
 refine AOps.p rfl (len_eq h5) ?_
 refine q (J (IntKind.wrap .i64 (left6 - (a1.length:Int)))) ?_
 refine aq (J (IntKind.wrap .i64 (left6 - (a1.length:Int)))) ?_
 refine nl ?_
 refine AW.seq ?_
 refine sr ?_
 refine q (J (IntKind.wrap .i64 (left6 - (a1.length:Int)))) ?_
 refine q (bool (decide ((IntKind.wrap .i64 (left6 - (a1.length:Int)):Int)<0))) ?_
 refine nl ?_
 rcases oite h with ⟨hc7,h⟩ | ⟨hc7,h⟩
 ·refine cT hc7 ?_
  refine sr ?_
  refine q (J (-1)) ?_
  refine nl ?_
  cases h
  exact AW.ret ⟨rfl,_,_,rfl,rfl⟩
 refine cF hc7 ?_
 refine AW.skip ?_
 refine AW.seq ?_
 refine sr ?_
 refine q (J 0) ?_
 refine nl ?_
 refine AW.meet (σ:=Int) (fun left8 tm os=>⟨updL tm [(1,(J left8))],updL os [],{ s with lo:=s.n }⟩) (fun left8=>laws_szInt64SSS_J1 left8=some r) ?_ ?_
 ·rintro left8 tm os h
  unfold laws_szInt64SSS_J1 at h
  refine sr ?_
  refine q (J left8) ?_
  refine aq (J left8) ?_
  refine nl ?_
  cases h
  exact AW.ret ⟨rfl,_,_,rfl,rfl⟩
 intro KJ9
 refine AW.block ?_
 refine AW.res [(0,(sl z2 f3 e4)),(1,(J (IntKind.wrap .i64 (left6 - (a1.length:Int))))),(5,(J 0))] [] ⟨rfl,rfl,rfl,trivial⟩ trivial ?_
 refine AW.loopF (σ:=Int × Int) (τ:=Unit) (fun (left10,i11) _=>True) (fun (left10,i11) _ tm os=>⟨updL tm [(0,(sl z2 f3 e4)),(1,(J left10)),(5,(J i11))],updL os [],{ s with lo:=s.n }⟩) ?_ (x:=(IntKind.wrap .i64 (left6 - (a1.length:Int)),0)) (y:=()) h trivial
 clear h
 rintro ⟨left10,i11⟩ _ tm os - ee1 h hL1 hR1
 unfold laws_szInt64SSS_S1 at h
 dsimp only at h
 refine AW.seq ?_
 refine sr ?_
 refine q (J i11) ?_
 refine q (sl z2 f3 e4) ?_
 refine AOps.p rfl (len_eq h5) ?_
 refine q (bool (decide ((i11:Int)<(a1.length:Int)))) ?_
 refine nl ?_
 rcases oite h with ⟨hc12,h⟩ | ⟨hc12,h⟩
 ·refine cT hc12 ?_
  refine AW.skip ?_
  refine AW.seq ?_
  refine AW.block ?_
  refine sr ?_
  refine q (sl z2 f3 e4) ?_
  refine q (J i11) ?_
  obtain ⟨x13,h14,h⟩:=obind h
  obtain ⟨v17,h15,h16⟩:=idx_sl h5 h14
  obtain ⟨z18,f19,e20,rfl,h21⟩:=h15
  refine AOps.pureR rfl rfl rfl h16 rfl (rfl:_=(eptr [(sl z18 f19 e20)] 0)) ?_
  refine lE (sl z18 f19 e20) ?_
  refine q (J left10) ?_
  obtain ⟨y22,h23,h⟩:=obind h
  refine cP (laws_szInt64SS_ok h21 h23 hWF) ?_
  intro _ o25 h24
  cases h24
  refine aq (J y22) ?_
  refine ns ?_
  refine q (J y22) ?_
  refine q (bool (decide ((y22:Int)<0))) ?_
  refine nl ?_
  rcases oite h with ⟨hc26,h⟩ | ⟨hc26,h⟩
  ·refine cT hc26 ?_
   refine sr ?_
   refine q (J (-1)) ?_
   refine nl ?_
   cases h
   have hr:=hR1 _ rfl
   subst hr
   exact AW.ret ⟨rfl,_,_,rfl,rfl⟩
  refine cF hc26 ?_
  refine AW.skip ?_
  refine AW.inBlock ?_
  refine AW.region ?_
  refine q (J i11) ?_
  refine q (J (IntKind.wrap .i64 (i11+1))) ?_
  refine aq (J (IntKind.wrap .i64 (i11+1))) ?_
  refine nl ?_
  cases h
  exact AW.res [(0,(sl z2 f3 e4)),(1,(J y22)),(5,(J (IntKind.wrap .i64 (i11+1))))] [] ⟨rfl,rfl,rfl,trivial⟩ trivial (hL1 _ rfl () _ _ trivial)
 refine cF hc12 ?_
 refine AW.exit rfl ?_
 obtain ⟨r27,hm,hx⟩:=omap h
 clear h
 subst hx
 have hx:=hR1 _ rfl
 rw[hx] at hm
 have h:=hm
 exact AW.res [(1,(J left10))] [] ⟨rfl,trivial⟩ trivial (KJ9 (left10) _ _ h)
theorem laws_szChecker_ok {a1:Checker} {left18:Int} {z2 z6 z10 z14:Nat} {f3 f7 f11 f15:Bool} {e4 e8 e12 e16:List AV} {s:St} (h5:LR rB 1 a1.Accept z2 e4) (h9:LR (rL rPush 2) 1 a1.Call z6 e8) (h13:LR (rL (rL rJ 1) 1) 1 a1.Return z10 e12) (h17:LR (rL rJ 1) 1 a1.Inner z14 e16) {r:Int} (h:laws_szChecker a1 left18=some r) (hs:WF s):ACall Cf 12 [(agg [(J a1.Stack),(J a1.Start),(sl z2 f3 e4),(sl z6 f7 e8),(sl z10 f11 e12),(sl z14 f15 e16)]),(J left18)] s fun v _ s'=>rJ r v∧s'=s:=by
 refine ACall.pure rfl rfl rfl .I ?_
 have hWF:=hs.lo'
 unfold laws_szChecker at h
 refine sr ?_
 refine AOps.makeR rfl rfl rfl rfl rfl rfl (rfl:_=(eptr [(J a1.Stack),(J a1.Start),(sl z2 f3 e4),(sl z6 f7 e8),(sl z10 f11 e12),(sl z14 f15 e16)] 0)) ?_
 refine q (J 0) ?_
 refine ns ?_
 refine q (eptr [(J a1.Stack),(J a1.Start),(sl z2 f3 e4),(sl z6 f7 e8),(sl z10 f11 e12),(sl z14 f15 e16)] 2) ?_
 refine lE (sl z2 f3 e4) ?_
 refine q (J left18) ?_
 obtain ⟨y19,h20,h⟩:=obind h
 refine cP (laws_szBoolS_ok h5 h20 hWF) ?_
 intro _ o22 h21
 cases h21
 refine aq (J y19) ?_
 refine nl ?_
 refine AW.seq ?_
 refine sr ?_
 refine q (J y19) ?_
 refine q (bool (decide ((y19:Int)<0))) ?_
 refine nl ?_
 rcases oite h with ⟨hc23,h⟩ | ⟨hc23,h⟩
 ·refine cT hc23 ?_
  refine sr ?_
  refine q (J (-1)) ?_
  refine nl ?_
  cases h
  exact AW.ret ⟨rfl,_,_,rfl,rfl⟩
 refine cF hc23 ?_
 refine AW.skip ?_
 refine sr ?_
 refine q (eptr [(J a1.Stack),(J a1.Start),(sl z2 f3 e4),(sl z6 f7 e8),(sl z10 f11 e12),(sl z14 f15 e16)] 3) ?_
 refine lE (sl z6 f7 e8) ?_
 refine q (J y19) ?_
 obtain ⟨y24,h25,h⟩:=obind h
 refine cP (laws_szPushSS_ok h9 h25 hWF) ?_
 intro _ o27 h26
 cases h26
 refine aq (J y24) ?_
 refine nl ?_
 refine AW.seq ?_
 refine sr ?_
 refine q (J y24) ?_
 refine q (bool (decide ((y24:Int)<0))) ?_
 refine nl ?_
 rcases oite h with ⟨hc28,h⟩ | ⟨hc28,h⟩
 ·refine cT hc28 ?_
  refine sr ?_
  refine q (J (-1)) ?_
  refine nl ?_
  cases h
  exact AW.ret ⟨rfl,_,_,rfl,rfl⟩
 refine cF hc28 ?_
 refine AW.skip ?_
 refine sr ?_
 refine q (eptr [(J a1.Stack),(J a1.Start),(sl z2 f3 e4),(sl z6 f7 e8),(sl z10 f11 e12),(sl z14 f15 e16)] 4) ?_
 refine lE (sl z10 f11 e12) ?_
 refine q (J y24) ?_
 obtain ⟨y29,h30,h⟩:=obind h
 refine cP (laws_szInt64SSS_ok h13 h30 hWF) ?_
 intro _ o32 h31
 cases h31
 refine aq (J y29) ?_
 refine nl ?_
 refine AW.seq ?_
 refine sr ?_
 refine q (J y29) ?_
 refine q (bool (decide ((y29:Int)<0))) ?_
 refine nl ?_
 rcases oite h with ⟨hc33,h⟩ | ⟨hc33,h⟩
 ·refine cT hc33 ?_
  refine sr ?_
  refine q (J (-1)) ?_
  refine nl ?_
  cases h
  exact AW.ret ⟨rfl,_,_,rfl,rfl⟩
 refine cF hc33 ?_
 refine AW.skip ?_
 refine sr ?_
 refine q (eptr [(J a1.Stack),(J a1.Start),(sl z2 f3 e4),(sl z6 f7 e8),(sl z10 f11 e12),(sl z14 f15 e16)] 5) ?_
 refine lE (sl z14 f15 e16) ?_
 refine q (J y29) ?_
 obtain ⟨y34,h35,h⟩:=obind h
 refine cP (laws_szInt64SS_ok h17 h35 hWF) ?_
 intro _ o37 h36
 cases h36
 refine aq (J y34) ?_
 refine nl ?_
 refine AW.seq ?_
 refine sr ?_
 refine q (J y34) ?_
 refine q (bool (decide ((y34:Int)<0))) ?_
 refine nl ?_
 rcases oite h with ⟨hc38,h⟩ | ⟨hc38,h⟩
 ·refine cT hc38 ?_
  refine sr ?_
  refine q (J (-1)) ?_
  refine nl ?_
  cases h
  exact AW.ret ⟨rfl,_,_,rfl,rfl⟩
 refine cF hc38 ?_
 refine AW.skip ?_
 refine sr ?_
 refine q (J y34) ?_
 refine aq (J y34) ?_
 refine nl ?_
 cases h
 exact AW.ret ⟨rfl,_,_,rfl,rfl⟩
theorem laws_szStringS_ok {a1:List (List UInt8)} {left6:Int} {z2:Nat} {f3:Bool} {e4:List AV} {s:St} (h5:LR rS 1 a1 z2 e4) {r:Int} (h:laws_szStringS a1 left6=some r) (hs:WF s):ACall Cf 13 [(sl z2 f3 e4),(J left6)] s fun v _ s'=>rJ r v∧s'=s:=by
 refine ACall.pure rfl rfl rfl .I ?_
 have hWF:=hs.lo'
 unfold laws_szStringS at h
 refine sr ?_
 refine q (J 0) ?_
 refine ns ?_
 refine q (J left6) ?_
 refine q (sl z2 f3 e4) ?_
 refine AOps.p rfl (len_eq h5) ?_
 refine q (J (IntKind.wrap .i64 (left6 - (a1.length:Int)))) ?_
 refine aq (J (IntKind.wrap .i64 (left6 - (a1.length:Int)))) ?_
 refine nl ?_
 refine AW.seq ?_
 refine sr ?_
 refine q (J (IntKind.wrap .i64 (left6 - (a1.length:Int)))) ?_
 refine q (bool (decide ((IntKind.wrap .i64 (left6 - (a1.length:Int)):Int)<0))) ?_
 refine nl ?_
 rcases oite h with ⟨hc7,h⟩ | ⟨hc7,h⟩
 ·refine cT hc7 ?_
  refine sr ?_
  refine q (J (-1)) ?_
  refine nl ?_
  cases h
  exact AW.ret ⟨rfl,_,_,rfl,rfl⟩
 refine cF hc7 ?_
 refine AW.skip ?_
 refine AW.seq ?_
 refine sr ?_
 refine q (J 0) ?_
 refine nl ?_
 refine AW.meet (σ:=Int) (fun left8 tm os=>⟨updL tm [(1,(J left8))],updL os [],{ s with lo:=s.n }⟩) (fun left8=>laws_szStringS_J1 left8=some r) ?_ ?_
 ·rintro left8 tm os h
  unfold laws_szStringS_J1 at h
  refine sr ?_
  refine q (J left8) ?_
  refine aq (J left8) ?_
  refine nl ?_
  cases h
  exact AW.ret ⟨rfl,_,_,rfl,rfl⟩
 intro KJ9
 refine AW.block ?_
 refine AW.res [(0,(sl z2 f3 e4)),(1,(J (IntKind.wrap .i64 (left6 - (a1.length:Int))))),(5,(J 0))] [] ⟨rfl,rfl,rfl,trivial⟩ trivial ?_
 refine AW.loopF (σ:=Int × Int) (τ:=Unit) (fun (left10,i11) _=>True) (fun (left10,i11) _ tm os=>⟨updL tm [(0,(sl z2 f3 e4)),(1,(J left10)),(5,(J i11))],updL os [],{ s with lo:=s.n }⟩) ?_ (x:=(IntKind.wrap .i64 (left6 - (a1.length:Int)),0)) (y:=()) h trivial
 clear h
 rintro ⟨left10,i11⟩ _ tm os - ee1 h hL1 hR1
 unfold laws_szStringS_S1 at h
 dsimp only at h
 refine AW.seq ?_
 refine sr ?_
 refine q (J i11) ?_
 refine q (sl z2 f3 e4) ?_
 refine AOps.p rfl (len_eq h5) ?_
 refine q (bool (decide ((i11:Int)<(a1.length:Int)))) ?_
 refine nl ?_
 rcases oite h with ⟨hc12,h⟩ | ⟨hc12,h⟩
 ·refine cT hc12 ?_
  refine AW.skip ?_
  refine AW.seq ?_
  refine AW.block ?_
  refine sr ?_
  refine q (J left10) ?_
  refine q (sl z2 f3 e4) ?_
  refine q (J i11) ?_
  obtain ⟨x13,h14,h⟩:=obind h
  obtain ⟨v17,h15,h16⟩:=idx_sl h5 h14
  cases h15
  refine AOps.pureR rfl rfl rfl h16 rfl (rfl:_=(eptr [(str x13)] 0)) ?_
  refine lE (str x13) ?_
  refine q (J (x13.length:Int)) ?_
  refine q (J (IntKind.wrap .i64 (left10 - (x13.length:Int)))) ?_
  refine aq (J (IntKind.wrap .i64 (left10 - (x13.length:Int)))) ?_
  refine ns ?_
  refine q (J (IntKind.wrap .i64 (left10 - (x13.length:Int)))) ?_
  refine q (bool (decide ((IntKind.wrap .i64 (left10 - (x13.length:Int)):Int)<0))) ?_
  refine nl ?_
  rcases oite h with ⟨hc18,h⟩ | ⟨hc18,h⟩
  ·refine cT hc18 ?_
   refine sr ?_
   refine q (J (-1)) ?_
   refine nl ?_
   cases h
   have hr:=hR1 _ rfl
   subst hr
   exact AW.ret ⟨rfl,_,_,rfl,rfl⟩
  refine cF hc18 ?_
  refine AW.skip ?_
  refine AW.inBlock ?_
  refine AW.region ?_
  refine q (J i11) ?_
  refine q (J (IntKind.wrap .i64 (i11+1))) ?_
  refine aq (J (IntKind.wrap .i64 (i11+1))) ?_
  refine nl ?_
  cases h
  exact AW.res [(0,(sl z2 f3 e4)),(1,(J (IntKind.wrap .i64 (left10 - (x13.length:Int))))),(5,(J (IntKind.wrap .i64 (i11+1))))] [] ⟨rfl,rfl,rfl,trivial⟩ trivial (hL1 _ rfl () _ _ trivial)
 refine cF hc12 ?_
 refine AW.exit rfl ?_
 obtain ⟨r19,hm,hx⟩:=omap h
 clear h
 subst hx
 have hx:=hR1 _ rfl
 rw[hx] at hm
 have h:=hm
 exact AW.res [(1,(J left10))] [] ⟨rfl,trivial⟩ trivial (KJ9 (left10) _ _ h)
theorem laws_szStream_ok {a1:Stream} {left22:Int} {z2 z6 z10 z14 z18:Nat} {f3 f7 f11 f15 f19:Bool} {e4 e8 e12 e16 e20:List AV} {s:St} (h5:LR rB 1 a1.Checker.Accept z2 e4) (h9:LR (rL rPush 2) 1 a1.Checker.Call z6 e8) (h13:LR (rL (rL rJ 1) 1) 1 a1.Checker.Return z10 e12) (h17:LR (rL rJ 1) 1 a1.Checker.Inner z14 e16) (h21:LR rS 1 a1.Pieces z18 e20) {r:Int} (h:laws_szStream a1 left22=some r) (hs:WF s):ACall Cf 4 [(agg [(J a1.Checker.Stack),(J a1.Checker.Start),(sl z2 f3 e4),(sl z6 f7 e8),(sl z10 f11 e12),(sl z14 f15 e16),(sl z18 f19 e20)]),(J left22)] s fun v _ s'=>rJ r v∧s'=s:=by
 refine ACall.pure rfl rfl rfl .I ?_
 have hWF:=hs.lo'
 unfold laws_szStream at h
 refine sr ?_
 refine AOps.makeR rfl rfl rfl rfl rfl rfl (rfl:_=(eptr [(J a1.Checker.Stack),(J a1.Checker.Start),(sl z2 f3 e4),(sl z6 f7 e8),(sl z10 f11 e12),(sl z14 f15 e16),(sl z18 f19 e20)] 0)) ?_
 refine q (J 0) ?_
 refine ns ?_
 refine q (eptr [(J a1.Checker.Stack),(J a1.Checker.Start),(sl z2 f3 e4),(sl z6 f7 e8),(sl z10 f11 e12),(sl z14 f15 e16),(sl z18 f19 e20)] 0) ?_
 refine lE (agg [(J a1.Checker.Stack),(J a1.Checker.Start),(sl z2 f3 e4),(sl z6 f7 e8),(sl z10 f11 e12),(sl z14 f15 e16)]) ?_
 refine q (J left22) ?_
 obtain ⟨y23,h24,h⟩:=obind h
 refine cP (laws_szChecker_ok h5 h9 h13 h17 h24 hWF) ?_
 intro _ o26 h25
 cases h25
 refine aq (J y23) ?_
 refine nl ?_
 refine AW.seq ?_
 refine sr ?_
 refine q (J y23) ?_
 refine q (bool (decide ((y23:Int)<0))) ?_
 refine nl ?_
 rcases oite h with ⟨hc27,h⟩ | ⟨hc27,h⟩
 ·refine cT hc27 ?_
  refine sr ?_
  refine q (J (-1)) ?_
  refine nl ?_
  cases h
  exact AW.ret ⟨rfl,_,_,rfl,rfl⟩
 refine cF hc27 ?_
 refine AW.skip ?_
 refine sr ?_
 refine q (eptr [(J a1.Checker.Stack),(J a1.Checker.Start),(sl z2 f3 e4),(sl z6 f7 e8),(sl z10 f11 e12),(sl z14 f15 e16),(sl z18 f19 e20)] 6) ?_
 refine lE (sl z18 f19 e20) ?_
 refine q (J y23) ?_
 obtain ⟨y28,h29,h⟩:=obind h
 refine cP (laws_szStringS_ok h21 h29 hWF) ?_
 intro _ o31 h30
 cases h30
 refine aq (J y28) ?_
 refine nl ?_
 refine AW.seq ?_
 refine sr ?_
 refine q (J y28) ?_
 refine q (bool (decide ((y28:Int)<0))) ?_
 refine nl ?_
 rcases oite h with ⟨hc32,h⟩ | ⟨hc32,h⟩
 ·refine cT hc32 ?_
  refine sr ?_
  refine q (J (-1)) ?_
  refine nl ?_
  cases h
  exact AW.ret ⟨rfl,_,_,rfl,rfl⟩
 refine cF hc32 ?_
 refine AW.skip ?_
 refine sr ?_
 refine q (J y28) ?_
 refine aq (J y28) ?_
 refine nl ?_
 cases h
 exact AW.ret ⟨rfl,_,_,rfl,rfl⟩
theorem laws_szDeedS_ok {a1:List Deed} {left6:Int} {z2:Nat} {f3:Bool} {e4:List AV} {s:St} (h5:LR rDeed 3 a1 z2 e4) {r:Int} (h:laws_szDeedS a1 left6=some r) (hs:WF s):ACall Cf 5 [(sl z2 f3 e4),(J left6)] s fun v _ s'=>rJ r v∧s'=s:=by
 refine ACall.pure rfl rfl rfl .I ?_
 have hWF:=hs.lo'
 unfold laws_szDeedS at h
 refine sr ?_
 refine q (J 0) ?_
 refine ns ?_
 refine q (J left6) ?_
 refine q (sl z2 f3 e4) ?_
 refine AOps.p rfl (len_eq h5) ?_
 refine q (J (IntKind.wrap .i64 (left6 - (a1.length:Int)))) ?_
 refine aq (J (IntKind.wrap .i64 (left6 - (a1.length:Int)))) ?_
 refine nl ?_
 refine AW.seq ?_
 refine sr ?_
 refine q (J (IntKind.wrap .i64 (left6 - (a1.length:Int)))) ?_
 refine q (bool (decide ((IntKind.wrap .i64 (left6 - (a1.length:Int)):Int)<0))) ?_
 refine nl ?_
 rcases oite h with ⟨hc7,h⟩ | ⟨hc7,h⟩
 ·refine cT hc7 ?_
  refine sr ?_
  refine q (J (-1)) ?_
  refine nl ?_
  cases h
  exact AW.ret ⟨rfl,_,_,rfl,rfl⟩
 refine cF hc7 ?_
 refine AW.skip ?_
 refine sr ?_
 refine q (J (IntKind.wrap .i64 (left6 - (a1.length:Int)))) ?_
 refine aq (J (IntKind.wrap .i64 (left6 - (a1.length:Int)))) ?_
 refine nl ?_
 cases h
 exact AW.ret ⟨rfl,_,_,rfl,rfl⟩
theorem laws_toBoolS_ok {a1:List Bool} {z2:Nat} {f3:Bool} {e4:List AV} {s:St} (h5:LR rB 1 a1 z2 e4) {r:(List Bool)} (h:laws_toBoolS a1=some r) (hs:WF s):ACall Cf 36 [(sl z2 f3 e4)] s fun v _ s'=>(rL rB 1) r v∧s'=s:=by
 refine ACall.boxes rfl rfl rfl ?_
 have hH0:=HS.init hs
 unfold laws_toBoolS at h
 refine sr ?_
 refine q (sl 0 true []) ?_
 refine ns ?_
 refine q (sl z2 f3 e4) ?_
 refine AOps.p rfl (len_eq h5) ?_
 obtain ⟨l6,h7,h⟩:=obind h
 refine AOps.mkS (r:=rB) hH0 rfl rfl rfl rfl rfl rfl rfl ⟨rfl,rfl,by decide⟩ h7 rfl (Sh.B (false:Bool) _ rfl) rfl ?_
 intro b8 s9 cs10 h11 hH12
 refine aq (AV.ms false 1 b8 0 (Int.toNat (a1.length:Int))) ?_
 refine nl ?_
 refine AW.seq ?_
 refine sr ?_
 refine q (J 0) ?_
 refine nl ?_
 refine AW.meet (σ:=(List Bool) × BX × Nat × Nat × St) (fun (out13,x14,b15,n17,s19) tm os=>⟨updL tm [(3,(AV.ms false 1 b15 0 n17))],updL os [],s19⟩) (fun (out13,x14,b15,n17,s19)=>(x14.b=some b15)∧(MS rB false 1 out13 n17 x14.cs)∧(HS [] false s s19 [x14])∧laws_toBoolS_J1 out13=some r) ?_ ?_
 ·rintro ⟨out13,x14,b15,n17,s19⟩ tm os ⟨h16,h18,hH20,h⟩
  unfold laws_toBoolS_J1 at h
  refine sr ?_
  refine q (AV.ms false 1 b15 0 n17) ?_
  refine aq (AV.ms false 1 b15 0 n17) ?_
  refine nl ?_
  cases h
  exact AW.ret ⟨⟨_,hH20⟩,_,_,rfl,(Fin.ms (r:=rB) hH20 (i:=0) rfl h16 h18 (fun _=>.B) (fun _=>rfl)).2⟩
 intro KJ21
 refine AW.block ?_
 refine AW.res [(0,(sl z2 f3 e4)),(3,(AV.ms false 1 b8 0 (Int.toNat (a1.length:Int)))),(4,(J 0))] [] ⟨rfl,rfl,rfl,trivial⟩ trivial ?_
 refine AW.loopF (σ:=(List Bool) × Int) (τ:=BX × Nat × Nat × St) (fun (out22,i28) (x23,b24,n26,s29)=>(x23.b=some b24)∧(MS rB false 1 out22 n26 x23.cs)∧(HS [] false s s29 [x23])) (fun (out22,i28) (x23,b24,n26,s29) tm os=>⟨updL tm [(0,(sl z2 f3 e4)),(3,(AV.ms false 1 b24 0 n26)),(4,(J i28))],updL os [],s29⟩) ?_ (x:=(l6,0)) (y:=(⟨some b8,cs10,fun _=>false⟩,b8,Int.toNat (a1.length:Int),s9)) h ⟨rfl,h11,(HS.sel hH12 [some 0] (by decide))⟩
 clear h
 rintro ⟨out22,i28⟩ ⟨x23,b24,n26,s29⟩ tm os ⟨h25,h27,hH30⟩ ee1 h hL1 hR1
 unfold laws_toBoolS_S1 at h
 dsimp only at h
 refine AW.seq ?_
 refine sr ?_
 refine q (J i28) ?_
 refine q (sl z2 f3 e4) ?_
 refine AOps.p rfl (len_eq h5) ?_
 refine q (bool (decide ((i28:Int)<(a1.length:Int)))) ?_
 refine nl ?_
 rcases oite h with ⟨hc31,h⟩ | ⟨hc31,h⟩
 ·refine cT hc31 ?_
  refine AW.skip ?_
  refine AW.seq ?_
  refine AW.block ?_
  refine AW.region ?_
  refine q (AV.ms false 1 b24 0 n26) ?_
  refine q (J i28) ?_
  refine q (sl z2 f3 e4) ?_
  refine q (J i28) ?_
  obtain ⟨x32,h33,h⟩:=obind h
  obtain ⟨v36,h34,h35⟩:=idx_sl h5 h33
  cases h34
  refine AOps.pureR rfl rfl rfl h35 rfl (rfl:_=(eptr [(bool x32)] 0)) ?_
  refine lE (bool x32) ?_
  obtain ⟨x37,h38,h⟩:=obind h
  refine AOps.pureR rfl rfl rfl (idx_ms h27 h38) rfl (rfl:_=(ptr b24 (0+Int.toNat i28*1))) ?_
  refine AOps.stM (i:=0) (r:=rB) (v:=(bool x32)) (y:=x32) hH30 rfl h25 h27 h38 rfl rfl rfl rfl rfl rfl (Sh.B x32 _ rfl) rfl rfl (lt_b rfl) rfl rfl ?_
  intro cs39 w40 s41 h42 hH43
  refine nl ?_
  refine AW.inBlock ?_
  refine AW.region ?_
  refine q (J i28) ?_
  refine q (J (IntKind.wrap .i64 (i28+1))) ?_
  refine aq (J (IntKind.wrap .i64 (i28+1))) ?_
  refine nl ?_
  cases h
  exact AW.res [(0,(sl z2 f3 e4)),(3,(AV.ms false 1 b24 0 n26)),(4,(J (IntKind.wrap .i64 (i28+1))))] [] ⟨rfl,rfl,rfl,trivial⟩ trivial (hL1 _ rfl (⟨some b24,cs39,w40⟩,b24,n26,s41) _ _ ⟨rfl,h42,(HS.sel hH43 [some 0] (by decide))⟩)
 refine cF hc31 ?_
 refine AW.exit rfl ?_
 obtain ⟨r44,hm,hx⟩:=omap h
 clear h
 subst hx
 have hx:=hR1 _ rfl
 rw[hx] at hm
 have h:=hm
 exact AW.res [(3,(AV.ms false 1 b24 0 n26))] [] ⟨rfl,trivial⟩ trivial (KJ21 (out22,x23,b24,n26,s29) _ _ ⟨h25,h27,(HS.sel hH30 [some 0] (by decide)),h⟩)
theorem laws_toPush_ok {a1 r:Push} {s:St} (h:laws_toPush a1=some r) (hs:WF s):ACall Cf 88 [(agg [(J a1.To),(J a1.Put)])] s fun v _ s'=>(rPush) r v∧s'=s:=by
 refine ACall.boxes rfl rfl rfl ?_
 have hH0:=HS.init hs
 unfold laws_toPush at h
 refine sr ?_
 refine AOps.makeR rfl rfl rfl rfl rfl rfl (rfl:_=(eptr [(J a1.To),(J a1.Put)] 0)) ?_
 refine AOps.allocP rfl rfl rfl rfl ⟨rfl,rfl⟩ rfl ?_
 refine ns ?_
 refine AOps.alloc1 hH0 rfl rfl rfl rfl rfl rfl ?_
 intro b2 s3 hH4
 refine ns ?_
 refine q (eptr [(J a1.To),(J a1.Put)] 0) ?_
 refine lE (J a1.To) ?_
 refine q (ptr b2 0) ?_
 refine AOps.stB (i:=0) (v:=(J a1.To)) hH4 rfl rfl rfl rfl rfl rfl rfl rfl rfl (lt_b rfl) (le_b rfl) rfl ?_
 intro w5 s6 h7 h8 hH9
 refine ns ?_
 refine q (eptr [(J a1.To),(J a1.Put)] 1) ?_
 refine lE (J a1.Put) ?_
 refine q (ptr b2 1) ?_
 refine AOps.stB (i:=0) (v:=(J a1.Put)) hH9 rfl rfl rfl rfl rfl rfl rfl rfl rfl (lt_b rfl) (le_b rfl) rfl ?_
 intro w10 s11 h12 h13 hH14
 refine ns ?_
 refine AOps.ldB (i:=0) (v:=(agg [(J a1.To),(J a1.Put)])) hH14 rfl rfl rfl rfl rfl rfl rfl rfl rfl ?_
 refine AOps.stP (v:=(agg [(J a1.To),(J a1.Put)])) rfl rfl rfl rfl rfl rfl rfl rfl rfl (lt_b rfl) rfl ?_
 refine nl ?_
 cases h
 exact AW.ret ⟨⟨_,hH14⟩,_,_,rfl,(Fin.of (p:=(rPush) _) (.A (.cons .I (.cons .I .nil))) (⟨_,rfl,(.cons rfl (.cons rfl .nil))⟩)).2⟩
theorem laws_toPushS_ok {a1:List Push} {z2:Nat} {f3:Bool} {e4:List AV} {s:St} (h5:LR rPush 2 a1 z2 e4) {r:(List Push)} (h:laws_toPushS a1=some r) (hs:WF s):ACall Cf 63 [(sl z2 f3 e4)] s fun v _ s'=>(rL rPush 2) r v∧s'=s:=by
 refine ACall.boxes rfl rfl rfl ?_
 have hH0:=HS.init hs
 unfold laws_toPushS at h
 refine sr ?_
 refine q (sl 0 true []) ?_
 refine ns ?_
 refine q (sl z2 f3 e4) ?_
 refine AOps.p rfl (len_eq h5) ?_
 obtain ⟨l6,h7,h⟩:=obind h
 refine AOps.mkS (r:=rPush) hH0 rfl rfl rfl rfl rfl rfl rfl ⟨rfl,rfl,by decide⟩ h7 ⟨_,rfl,(.cons rfl (.cons rfl .nil))⟩ ((Sh.A (f:=csPush) (fun _=>⟨(.cons (One.of Sh.I _) (.cons (One.of Sh.I _) .nil)),rfl⟩)) ((⟨0,0⟩:Push):Push) _ ⟨_,rfl,(.cons rfl (.cons rfl .nil))⟩) rfl ?_
 intro b8 s9 cs10 h11 hH12
 refine aq (AV.ms true 2 b8 0 (Int.toNat (a1.length:Int))) ?_
 refine nl ?_
 refine AW.seq ?_
 refine sr ?_
 refine q (J 0) ?_
 refine nl ?_
 refine AW.meet (σ:=(List Push) × BX × Nat × Nat × St) (fun (out13,x14,b15,n17,s19) tm os=>⟨updL tm [(3,(AV.ms true 2 b15 0 n17))],updL os [],s19⟩) (fun (out13,x14,b15,n17,s19)=>(x14.b=some b15)∧(MS rPush true 2 out13 n17 x14.cs)∧(HS [] false s s19 [x14])∧laws_toPushS_J1 out13=some r) ?_ ?_
 ·rintro ⟨out13,x14,b15,n17,s19⟩ tm os ⟨h16,h18,hH20,h⟩
  unfold laws_toPushS_J1 at h
  refine sr ?_
  refine q (AV.ms true 2 b15 0 n17) ?_
  refine aq (AV.ms true 2 b15 0 n17) ?_
  refine nl ?_
  cases h
  exact AW.ret ⟨⟨_,hH20⟩,_,_,rfl,(Fin.ms (r:=rPush) hH20 (i:=0) rfl h16 h18 (fun _=>(.A (.cons .I (.cons .I .nil)))) (fun h=>by cases h)).2⟩
 intro KJ21
 refine AW.block ?_
 refine AW.res [(0,(sl z2 f3 e4)),(3,(AV.ms true 2 b8 0 (Int.toNat (a1.length:Int)))),(4,(J 0))] [] ⟨rfl,rfl,rfl,trivial⟩ trivial ?_
 refine AW.loopF (σ:=(List Push) × Int) (τ:=BX × Nat × Nat × St) (fun (out22,i28) (x23,b24,n26,s29)=>(x23.b=some b24)∧(MS rPush true 2 out22 n26 x23.cs)∧(HS [] false s s29 [x23])) (fun (out22,i28) (x23,b24,n26,s29) tm os=>⟨updL tm [(0,(sl z2 f3 e4)),(3,(AV.ms true 2 b24 0 n26)),(4,(J i28))],updL os [],s29⟩) ?_ (x:=(l6,0)) (y:=(⟨some b8,cs10,fun _=>false⟩,b8,Int.toNat (a1.length:Int),s9)) h ⟨rfl,h11,(HS.sel hH12 [some 0] (by decide))⟩
 clear h
 rintro ⟨out22,i28⟩ ⟨x23,b24,n26,s29⟩ tm os ⟨h25,h27,hH30⟩ ee1 h hL1 hR1
 unfold laws_toPushS_S1 at h
 dsimp only at h
 refine AW.seq ?_
 refine sr ?_
 refine q (J i28) ?_
 refine q (sl z2 f3 e4) ?_
 refine AOps.p rfl (len_eq h5) ?_
 refine q (bool (decide ((i28:Int)<(a1.length:Int)))) ?_
 refine nl ?_
 rcases oite h with ⟨hc31,h⟩ | ⟨hc31,h⟩
 ·refine cT hc31 ?_
  refine AW.skip ?_
  refine AW.seq ?_
  refine AW.block ?_
  refine AW.region ?_
  refine q (AV.ms true 2 b24 0 n26) ?_
  refine q (J i28) ?_
  refine q (sl z2 f3 e4) ?_
  refine q (J i28) ?_
  obtain ⟨x32,h33,h⟩:=obind h
  obtain ⟨v36,h34,h35⟩:=idx_sl h5 h33
  obtain ⟨_,rfl,h37⟩:=h34
  obtain ⟨_,_,rfl,h38,h39⟩:=Cs_cons h37
  cases h38
  obtain ⟨_,_,rfl,h40,h41⟩:=Cs_cons h39
  cases h40
  cases Cs_nil h41
  refine AOps.pureR rfl rfl rfl h35 rfl (rfl:_=(eptr [(J x32.To),(J x32.Put)] 0)) ?_
  refine lE (agg [(J x32.To),(J x32.Put)]) ?_
  obtain ⟨y42,h43,h⟩:=obind h
  refine cP (laws_toPush_ok  h43 (HS.wf' hH30)) ?_
  intro _ o50 h44
  obtain ⟨_,rfl,h45⟩:=h44
  obtain ⟨_,_,rfl,h46,h47⟩:=Cs_cons h45
  cases h46
  obtain ⟨_,_,rfl,h48,h49⟩:=Cs_cons h47
  cases h48
  cases Cs_nil h49
  obtain ⟨x51,h52,h⟩:=obind h
  refine AOps.pureR rfl rfl rfl (idx_ms h27 h52) rfl (rfl:_=(ptr b24 (0+Int.toNat i28*2))) ?_
  refine AOps.stM (i:=0) (r:=rPush) (v:=(agg [(J y42.To),(J y42.Put)])) (y:=y42) hH30 rfl h25 h27 h52 rfl rfl rfl rfl rfl ⟨_,rfl,(.cons rfl (.cons rfl .nil))⟩ ((Sh.A (f:=csPush) (fun _=>⟨(.cons (One.of Sh.I _) (.cons (One.of Sh.I _) .nil)),rfl⟩)) y42 _ ⟨_,rfl,(.cons rfl (.cons rfl .nil))⟩) rfl rfl (lt_b rfl) rfl rfl ?_
  intro cs53 w54 s55 h56 hH57
  refine nl ?_
  refine AW.inBlock ?_
  refine AW.region ?_
  refine q (J i28) ?_
  refine q (J (IntKind.wrap .i64 (i28+1))) ?_
  refine aq (J (IntKind.wrap .i64 (i28+1))) ?_
  refine nl ?_
  cases h
  exact AW.res [(0,(sl z2 f3 e4)),(3,(AV.ms true 2 b24 0 n26)),(4,(J (IntKind.wrap .i64 (i28+1))))] [] ⟨rfl,rfl,rfl,trivial⟩ trivial (hL1 _ rfl (⟨some b24,cs53,w54⟩,b24,n26,s55) _ _ ⟨rfl,h56,(HS.sel hH57 [some 0] (by decide))⟩)
 refine cF hc31 ?_
 refine AW.exit rfl ?_
 obtain ⟨r58,hm,hx⟩:=omap h
 clear h
 subst hx
 have hx:=hR1 _ rfl
 rw[hx] at hm
 have h:=hm
 exact AW.res [(3,(AV.ms true 2 b24 0 n26))] [] ⟨rfl,trivial⟩ trivial (KJ21 (out22,x23,b24,n26,s29) _ _ ⟨h25,h27,(HS.sel hH30 [some 0] (by decide)),h⟩)
theorem laws_toPushSS_ok {a1:List (List Push)} {z2:Nat} {f3:Bool} {e4:List AV} {s:St} (h5:LR (rL rPush 2) 1 a1 z2 e4) {r:(List (List Push))} (h:laws_toPushSS a1=some r) (hs:WF s):ACall Cf 37 [(sl z2 f3 e4)] s fun v _ s'=>(rL (rL rPush 2) 1) r v∧s'=s:=by
 refine ACall.boxes rfl rfl rfl ?_
 have hH0:=HS.init hs
 unfold laws_toPushSS at h
 refine sr ?_
 refine q (sl 0 true []) ?_
 refine ns ?_
 refine q (sl z2 f3 e4) ?_
 refine AOps.p rfl (len_eq h5) ?_
 obtain ⟨l6,h7,h⟩:=obind h
 refine AOps.mkS (r:=rL rPush 2) hH0 rfl rfl rfl rfl rfl rfl rfl ⟨rfl,rfl,by decide⟩ h7 ⟨_,_,_,rfl,⟨.inr ⟨rfl,rfl⟩,.nil⟩⟩ ((Sh.L (r:=rPush) (sz:=2)) (([]:List Push):List Push) _ ⟨_,_,_,rfl,⟨.inr ⟨rfl,rfl⟩,.nil⟩⟩) rfl ?_
 intro b8 s9 cs10 h11 hH12
 refine aq (AV.ms false 1 b8 0 (Int.toNat (a1.length:Int))) ?_
 refine nl ?_
 refine AW.seq ?_
 refine sr ?_
 refine q (J 0) ?_
 refine nl ?_
 refine AW.meet (σ:=(List (List Push)) × BX × Nat × Nat × St) (fun (out13,x14,b15,n17,s19) tm os=>⟨updL tm [(3,(AV.ms false 1 b15 0 n17))],updL os [],s19⟩) (fun (out13,x14,b15,n17,s19)=>(x14.b=some b15)∧(MS (rL rPush 2) false 1 out13 n17 x14.cs)∧(HS [] false s s19 [x14])∧laws_toPushSS_J1 out13=some r) ?_ ?_
 ·rintro ⟨out13,x14,b15,n17,s19⟩ tm os ⟨h16,h18,hH20,h⟩
  unfold laws_toPushSS_J1 at h
  refine sr ?_
  refine q (AV.ms false 1 b15 0 n17) ?_
  refine aq (AV.ms false 1 b15 0 n17) ?_
  refine nl ?_
  cases h
  exact AW.ret ⟨⟨_,hH20⟩,_,_,rfl,(Fin.ms (r:=rL rPush 2) hH20 (i:=0) rfl h16 h18 (fun _=>(.L fun _=>(.A (.cons .I (.cons .I .nil))))) (fun _=>rfl)).2⟩
 intro KJ21
 refine AW.block ?_
 refine AW.res [(0,(sl z2 f3 e4)),(3,(AV.ms false 1 b8 0 (Int.toNat (a1.length:Int)))),(4,(J 0))] [] ⟨rfl,rfl,rfl,trivial⟩ trivial ?_
 refine AW.loopF (σ:=(List (List Push)) × Int) (τ:=BX × Nat × Nat × St) (fun (out22,i28) (x23,b24,n26,s29)=>(x23.b=some b24)∧(MS (rL rPush 2) false 1 out22 n26 x23.cs)∧(HS [] false s s29 [x23])) (fun (out22,i28) (x23,b24,n26,s29) tm os=>⟨updL tm [(0,(sl z2 f3 e4)),(3,(AV.ms false 1 b24 0 n26)),(4,(J i28))],updL os [],s29⟩) ?_ (x:=(l6,0)) (y:=(⟨some b8,cs10,fun _=>false⟩,b8,Int.toNat (a1.length:Int),s9)) h ⟨rfl,h11,(HS.sel hH12 [some 0] (by decide))⟩
 clear h
 rintro ⟨out22,i28⟩ ⟨x23,b24,n26,s29⟩ tm os ⟨h25,h27,hH30⟩ ee1 h hL1 hR1
 unfold laws_toPushSS_S1 at h
 dsimp only at h
 refine AW.seq ?_
 refine sr ?_
 refine q (J i28) ?_
 refine q (sl z2 f3 e4) ?_
 refine AOps.p rfl (len_eq h5) ?_
 refine q (bool (decide ((i28:Int)<(a1.length:Int)))) ?_
 refine nl ?_
 rcases oite h with ⟨hc31,h⟩ | ⟨hc31,h⟩
 ·refine cT hc31 ?_
  refine AW.skip ?_
  refine AW.seq ?_
  refine AW.block ?_
  refine AW.region ?_
  refine q (AV.ms false 1 b24 0 n26) ?_
  refine q (J i28) ?_
  refine q (sl z2 f3 e4) ?_
  refine q (J i28) ?_
  obtain ⟨x32,h33,h⟩:=obind h
  obtain ⟨v36,h34,h35⟩:=idx_sl h5 h33
  obtain ⟨z37,f38,e39,rfl,h40⟩:=h34
  refine AOps.pureR rfl rfl rfl h35 rfl (rfl:_=(eptr [(sl z37 f38 e39)] 0)) ?_
  refine lE (sl z37 f38 e39) ?_
  obtain ⟨y41,h42,h⟩:=obind h
  refine cP (laws_toPushS_ok h40 h42 (HS.wf' hH30)) ?_
  intro _ o48 h43
  obtain ⟨z44,f45,e46,rfl,h47⟩:=h43
  obtain ⟨x49,h50,h⟩:=obind h
  refine AOps.pureR rfl rfl rfl (idx_ms h27 h50) rfl (rfl:_=(ptr b24 (0+Int.toNat i28*1))) ?_
  refine AOps.stM (i:=0) (r:=rL rPush 2) (v:=(sl z44 f45 e46)) (y:=y41) hH30 rfl h25 h27 h50 rfl rfl rfl rfl rfl ⟨_,_,_,rfl,h47⟩ ((Sh.L (r:=rPush) (sz:=2)) y41 _ ⟨_,_,_,rfl,h47⟩) rfl rfl (lt_b rfl) rfl rfl ?_
  intro cs51 w52 s53 h54 hH55
  refine nl ?_
  refine AW.inBlock ?_
  refine AW.region ?_
  refine q (J i28) ?_
  refine q (J (IntKind.wrap .i64 (i28+1))) ?_
  refine aq (J (IntKind.wrap .i64 (i28+1))) ?_
  refine nl ?_
  cases h
  exact AW.res [(0,(sl z2 f3 e4)),(3,(AV.ms false 1 b24 0 n26)),(4,(J (IntKind.wrap .i64 (i28+1))))] [] ⟨rfl,rfl,rfl,trivial⟩ trivial (hL1 _ rfl (⟨some b24,cs51,w52⟩,b24,n26,s53) _ _ ⟨rfl,h54,(HS.sel hH55 [some 0] (by decide))⟩)
 refine cF hc31 ?_
 refine AW.exit rfl ?_
 obtain ⟨r56,hm,hx⟩:=omap h
 clear h
 subst hx
 have hx:=hR1 _ rfl
 rw[hx] at hm
 have h:=hm
 exact AW.res [(3,(AV.ms false 1 b24 0 n26))] [] ⟨rfl,trivial⟩ trivial (KJ21 (out22,x23,b24,n26,s29) _ _ ⟨h25,h27,(HS.sel hH30 [some 0] (by decide)),h⟩)
theorem laws_toInt64S_ok {a1:List Int} {z2:Nat} {f3:Bool} {e4:List AV} {s:St} (h5:LR rJ 1 a1 z2 e4) {r:(List Int)} (h:laws_toInt64S a1=some r) (hs:WF s):ACall Cf 64 [(sl z2 f3 e4)] s fun v _ s'=>(rL rJ 1) r v∧s'=s:=by
 refine ACall.boxes rfl rfl rfl ?_
 have hH0:=HS.init hs
 unfold laws_toInt64S at h
 refine sr ?_
 refine q (sl 0 true []) ?_
 refine ns ?_
 refine q (sl z2 f3 e4) ?_
 refine AOps.p rfl (len_eq h5) ?_
 obtain ⟨l6,h7,h⟩:=obind h
 refine AOps.mkS (r:=rI .i64) hH0 rfl rfl rfl rfl rfl rfl rfl ⟨rfl,rfl,by decide⟩ h7 rfl (Sh.I (0:Int) _ rfl) rfl ?_
 intro b8 s9 cs10 h11 hH12
 refine aq (AV.ms false 1 b8 0 (Int.toNat (a1.length:Int))) ?_
 refine nl ?_
 refine AW.seq ?_
 refine sr ?_
 refine q (J 0) ?_
 refine nl ?_
 refine AW.meet (σ:=(List Int) × BX × Nat × Nat × St) (fun (out13,x14,b15,n17,s19) tm os=>⟨updL tm [(3,(AV.ms false 1 b15 0 n17))],updL os [],s19⟩) (fun (out13,x14,b15,n17,s19)=>(x14.b=some b15)∧(MS rJ false 1 out13 n17 x14.cs)∧(HS [] false s s19 [x14])∧laws_toInt64S_J1 out13=some r) ?_ ?_
 ·rintro ⟨out13,x14,b15,n17,s19⟩ tm os ⟨h16,h18,hH20,h⟩
  unfold laws_toInt64S_J1 at h
  refine sr ?_
  refine q (AV.ms false 1 b15 0 n17) ?_
  refine aq (AV.ms false 1 b15 0 n17) ?_
  refine nl ?_
  cases h
  exact AW.ret ⟨⟨_,hH20⟩,_,_,rfl,(Fin.ms (r:=rI .i64) hH20 (i:=0) rfl h16 h18 (fun _=>.I) (fun _=>rfl)).2⟩
 intro KJ21
 refine AW.block ?_
 refine AW.res [(0,(sl z2 f3 e4)),(3,(AV.ms false 1 b8 0 (Int.toNat (a1.length:Int)))),(4,(J 0))] [] ⟨rfl,rfl,rfl,trivial⟩ trivial ?_
 refine AW.loopF (σ:=(List Int) × Int) (τ:=BX × Nat × Nat × St) (fun (out22,i28) (x23,b24,n26,s29)=>(x23.b=some b24)∧(MS rJ false 1 out22 n26 x23.cs)∧(HS [] false s s29 [x23])) (fun (out22,i28) (x23,b24,n26,s29) tm os=>⟨updL tm [(0,(sl z2 f3 e4)),(3,(AV.ms false 1 b24 0 n26)),(4,(J i28))],updL os [],s29⟩) ?_ (x:=(l6,0)) (y:=(⟨some b8,cs10,fun _=>false⟩,b8,Int.toNat (a1.length:Int),s9)) h ⟨rfl,h11,(HS.sel hH12 [some 0] (by decide))⟩
 clear h
 rintro ⟨out22,i28⟩ ⟨x23,b24,n26,s29⟩ tm os ⟨h25,h27,hH30⟩ ee1 h hL1 hR1
 unfold laws_toInt64S_S1 at h
 dsimp only at h
 refine AW.seq ?_
 refine sr ?_
 refine q (J i28) ?_
 refine q (sl z2 f3 e4) ?_
 refine AOps.p rfl (len_eq h5) ?_
 refine q (bool (decide ((i28:Int)<(a1.length:Int)))) ?_
 refine nl ?_
 rcases oite h with ⟨hc31,h⟩ | ⟨hc31,h⟩
 ·refine cT hc31 ?_
  refine AW.skip ?_
  refine AW.seq ?_
  refine AW.block ?_
  refine AW.region ?_
  refine q (AV.ms false 1 b24 0 n26) ?_
  refine q (J i28) ?_
  refine q (sl z2 f3 e4) ?_
  refine q (J i28) ?_
  obtain ⟨x32,h33,h⟩:=obind h
  obtain ⟨v36,h34,h35⟩:=idx_sl h5 h33
  cases h34
  refine AOps.pureR rfl rfl rfl h35 rfl (rfl:_=(eptr [(J x32)] 0)) ?_
  refine lE (J x32) ?_
  obtain ⟨x37,h38,h⟩:=obind h
  refine AOps.pureR rfl rfl rfl (idx_ms h27 h38) rfl (rfl:_=(ptr b24 (0+Int.toNat i28*1))) ?_
  refine AOps.stM (i:=0) (r:=rI .i64) (v:=(J x32)) (y:=x32) hH30 rfl h25 h27 h38 rfl rfl rfl rfl rfl rfl (Sh.I x32 _ rfl) rfl rfl (lt_b rfl) rfl rfl ?_
  intro cs39 w40 s41 h42 hH43
  refine nl ?_
  refine AW.inBlock ?_
  refine AW.region ?_
  refine q (J i28) ?_
  refine q (J (IntKind.wrap .i64 (i28+1))) ?_
  refine aq (J (IntKind.wrap .i64 (i28+1))) ?_
  refine nl ?_
  cases h
  exact AW.res [(0,(sl z2 f3 e4)),(3,(AV.ms false 1 b24 0 n26)),(4,(J (IntKind.wrap .i64 (i28+1))))] [] ⟨rfl,rfl,rfl,trivial⟩ trivial (hL1 _ rfl (⟨some b24,cs39,w40⟩,b24,n26,s41) _ _ ⟨rfl,h42,(HS.sel hH43 [some 0] (by decide))⟩)
 refine cF hc31 ?_
 refine AW.exit rfl ?_
 obtain ⟨r44,hm,hx⟩:=omap h
 clear h
 subst hx
 have hx:=hR1 _ rfl
 rw[hx] at hm
 have h:=hm
 exact AW.res [(3,(AV.ms false 1 b24 0 n26))] [] ⟨rfl,trivial⟩ trivial (KJ21 (out22,x23,b24,n26,s29) _ _ ⟨h25,h27,(HS.sel hH30 [some 0] (by decide)),h⟩)
theorem laws_toInt64SS_ok {a1:List (List Int)} {z2:Nat} {f3:Bool} {e4:List AV} {s:St} (h5:LR (rL rJ 1) 1 a1 z2 e4) {r:(List (List Int))} (h:laws_toInt64SS a1=some r) (hs:WF s):ACall Cf 39 [(sl z2 f3 e4)] s fun v _ s'=>(rL (rL rJ 1) 1) r v∧s'=s:=by
 refine ACall.boxes rfl rfl rfl ?_
 have hH0:=HS.init hs
 unfold laws_toInt64SS at h
 refine sr ?_
 refine q (sl 0 true []) ?_
 refine ns ?_
 refine q (sl z2 f3 e4) ?_
 refine AOps.p rfl (len_eq h5) ?_
 obtain ⟨l6,h7,h⟩:=obind h
 refine AOps.mkS (r:=rL rJ 1) hH0 rfl rfl rfl rfl rfl rfl rfl ⟨rfl,rfl,by decide⟩ h7 ⟨_,_,_,rfl,⟨.inr ⟨rfl,rfl⟩,.nil⟩⟩ ((Sh.L (r:=rI .i64) (sz:=1)) (([]:List Int):List Int) _ ⟨_,_,_,rfl,⟨.inr ⟨rfl,rfl⟩,.nil⟩⟩) rfl ?_
 intro b8 s9 cs10 h11 hH12
 refine aq (AV.ms false 1 b8 0 (Int.toNat (a1.length:Int))) ?_
 refine nl ?_
 refine AW.seq ?_
 refine sr ?_
 refine q (J 0) ?_
 refine nl ?_
 refine AW.meet (σ:=(List (List Int)) × BX × Nat × Nat × St) (fun (out13,x14,b15,n17,s19) tm os=>⟨updL tm [(3,(AV.ms false 1 b15 0 n17))],updL os [],s19⟩) (fun (out13,x14,b15,n17,s19)=>(x14.b=some b15)∧(MS (rL rJ 1) false 1 out13 n17 x14.cs)∧(HS [] false s s19 [x14])∧laws_toInt64SS_J1 out13=some r) ?_ ?_
 ·rintro ⟨out13,x14,b15,n17,s19⟩ tm os ⟨h16,h18,hH20,h⟩
  unfold laws_toInt64SS_J1 at h
  refine sr ?_
  refine q (AV.ms false 1 b15 0 n17) ?_
  refine aq (AV.ms false 1 b15 0 n17) ?_
  refine nl ?_
  cases h
  exact AW.ret ⟨⟨_,hH20⟩,_,_,rfl,(Fin.ms (r:=rL rJ 1) hH20 (i:=0) rfl h16 h18 (fun _=>(.L fun _=>.I)) (fun _=>rfl)).2⟩
 intro KJ21
 refine AW.block ?_
 refine AW.res [(0,(sl z2 f3 e4)),(3,(AV.ms false 1 b8 0 (Int.toNat (a1.length:Int)))),(4,(J 0))] [] ⟨rfl,rfl,rfl,trivial⟩ trivial ?_
 refine AW.loopF (σ:=(List (List Int)) × Int) (τ:=BX × Nat × Nat × St) (fun (out22,i28) (x23,b24,n26,s29)=>(x23.b=some b24)∧(MS (rL rJ 1) false 1 out22 n26 x23.cs)∧(HS [] false s s29 [x23])) (fun (out22,i28) (x23,b24,n26,s29) tm os=>⟨updL tm [(0,(sl z2 f3 e4)),(3,(AV.ms false 1 b24 0 n26)),(4,(J i28))],updL os [],s29⟩) ?_ (x:=(l6,0)) (y:=(⟨some b8,cs10,fun _=>false⟩,b8,Int.toNat (a1.length:Int),s9)) h ⟨rfl,h11,(HS.sel hH12 [some 0] (by decide))⟩
 clear h
 rintro ⟨out22,i28⟩ ⟨x23,b24,n26,s29⟩ tm os ⟨h25,h27,hH30⟩ ee1 h hL1 hR1
 unfold laws_toInt64SS_S1 at h
 dsimp only at h
 refine AW.seq ?_
 refine sr ?_
 refine q (J i28) ?_
 refine q (sl z2 f3 e4) ?_
 refine AOps.p rfl (len_eq h5) ?_
 refine q (bool (decide ((i28:Int)<(a1.length:Int)))) ?_
 refine nl ?_
 rcases oite h with ⟨hc31,h⟩ | ⟨hc31,h⟩
 ·refine cT hc31 ?_
  refine AW.skip ?_
  refine AW.seq ?_
  refine AW.block ?_
  refine AW.region ?_
  refine q (AV.ms false 1 b24 0 n26) ?_
  refine q (J i28) ?_
  refine q (sl z2 f3 e4) ?_
  refine q (J i28) ?_
  obtain ⟨x32,h33,h⟩:=obind h
  obtain ⟨v36,h34,h35⟩:=idx_sl h5 h33
  obtain ⟨z37,f38,e39,rfl,h40⟩:=h34
  refine AOps.pureR rfl rfl rfl h35 rfl (rfl:_=(eptr [(sl z37 f38 e39)] 0)) ?_
  refine lE (sl z37 f38 e39) ?_
  obtain ⟨y41,h42,h⟩:=obind h
  refine cP (laws_toInt64S_ok h40 h42 (HS.wf' hH30)) ?_
  intro _ o48 h43
  obtain ⟨z44,f45,e46,rfl,h47⟩:=h43
  obtain ⟨x49,h50,h⟩:=obind h
  refine AOps.pureR rfl rfl rfl (idx_ms h27 h50) rfl (rfl:_=(ptr b24 (0+Int.toNat i28*1))) ?_
  refine AOps.stM (i:=0) (r:=rL rJ 1) (v:=(sl z44 f45 e46)) (y:=y41) hH30 rfl h25 h27 h50 rfl rfl rfl rfl rfl ⟨_,_,_,rfl,h47⟩ ((Sh.L (r:=rI .i64) (sz:=1)) y41 _ ⟨_,_,_,rfl,h47⟩) rfl rfl (lt_b rfl) rfl rfl ?_
  intro cs51 w52 s53 h54 hH55
  refine nl ?_
  refine AW.inBlock ?_
  refine AW.region ?_
  refine q (J i28) ?_
  refine q (J (IntKind.wrap .i64 (i28+1))) ?_
  refine aq (J (IntKind.wrap .i64 (i28+1))) ?_
  refine nl ?_
  cases h
  exact AW.res [(0,(sl z2 f3 e4)),(3,(AV.ms false 1 b24 0 n26)),(4,(J (IntKind.wrap .i64 (i28+1))))] [] ⟨rfl,rfl,rfl,trivial⟩ trivial (hL1 _ rfl (⟨some b24,cs51,w52⟩,b24,n26,s53) _ _ ⟨rfl,h54,(HS.sel hH55 [some 0] (by decide))⟩)
 refine cF hc31 ?_
 refine AW.exit rfl ?_
 obtain ⟨r56,hm,hx⟩:=omap h
 clear h
 subst hx
 have hx:=hR1 _ rfl
 rw[hx] at hm
 have h:=hm
 exact AW.res [(3,(AV.ms false 1 b24 0 n26))] [] ⟨rfl,trivial⟩ trivial (KJ21 (out22,x23,b24,n26,s29) _ _ ⟨h25,h27,(HS.sel hH30 [some 0] (by decide)),h⟩)
theorem laws_toInt64SSS_ok {a1:List (List (List Int))} {z2:Nat} {f3:Bool} {e4:List AV} {s:St} (h5:LR (rL (rL rJ 1) 1) 1 a1 z2 e4) {r:(List (List (List Int)))} (h:laws_toInt64SSS a1=some r) (hs:WF s):ACall Cf 38 [(sl z2 f3 e4)] s fun v _ s'=>(rL (rL (rL rJ 1) 1) 1) r v∧s'=s:=by
 refine ACall.boxes rfl rfl rfl ?_
 have hH0:=HS.init hs
 unfold laws_toInt64SSS at h
 refine sr ?_
 refine q (sl 0 true []) ?_
 refine ns ?_
 refine q (sl z2 f3 e4) ?_
 refine AOps.p rfl (len_eq h5) ?_
 obtain ⟨l6,h7,h⟩:=obind h
 refine AOps.mkS (r:=rL (rL rJ 1) 1) hH0 rfl rfl rfl rfl rfl rfl rfl ⟨rfl,rfl,by decide⟩ h7 ⟨_,_,_,rfl,⟨.inr ⟨rfl,rfl⟩,.nil⟩⟩ ((Sh.L (r:=rL rJ 1) (sz:=1)) (([]:List (List Int)):List (List Int)) _ ⟨_,_,_,rfl,⟨.inr ⟨rfl,rfl⟩,.nil⟩⟩) rfl ?_
 intro b8 s9 cs10 h11 hH12
 refine aq (AV.ms false 1 b8 0 (Int.toNat (a1.length:Int))) ?_
 refine nl ?_
 refine AW.seq ?_
 refine sr ?_
 refine q (J 0) ?_
 refine nl ?_
 refine AW.meet (σ:=(List (List (List Int))) × BX × Nat × Nat × St) (fun (out13,x14,b15,n17,s19) tm os=>⟨updL tm [(3,(AV.ms false 1 b15 0 n17))],updL os [],s19⟩) (fun (out13,x14,b15,n17,s19)=>(x14.b=some b15)∧(MS (rL (rL rJ 1) 1) false 1 out13 n17 x14.cs)∧(HS [] false s s19 [x14])∧laws_toInt64SSS_J1 out13=some r) ?_ ?_
 ·rintro ⟨out13,x14,b15,n17,s19⟩ tm os ⟨h16,h18,hH20,h⟩
  unfold laws_toInt64SSS_J1 at h
  refine sr ?_
  refine q (AV.ms false 1 b15 0 n17) ?_
  refine aq (AV.ms false 1 b15 0 n17) ?_
  refine nl ?_
  cases h
  exact AW.ret ⟨⟨_,hH20⟩,_,_,rfl,(Fin.ms (r:=rL (rL rJ 1) 1) hH20 (i:=0) rfl h16 h18 (fun _=>(.L fun _=>(.L fun _=>.I))) (fun _=>rfl)).2⟩
 intro KJ21
 refine AW.block ?_
 refine AW.res [(0,(sl z2 f3 e4)),(3,(AV.ms false 1 b8 0 (Int.toNat (a1.length:Int)))),(4,(J 0))] [] ⟨rfl,rfl,rfl,trivial⟩ trivial ?_
 refine AW.loopF (σ:=(List (List (List Int))) × Int) (τ:=BX × Nat × Nat × St) (fun (out22,i28) (x23,b24,n26,s29)=>(x23.b=some b24)∧(MS (rL (rL rJ 1) 1) false 1 out22 n26 x23.cs)∧(HS [] false s s29 [x23])) (fun (out22,i28) (x23,b24,n26,s29) tm os=>⟨updL tm [(0,(sl z2 f3 e4)),(3,(AV.ms false 1 b24 0 n26)),(4,(J i28))],updL os [],s29⟩) ?_ (x:=(l6,0)) (y:=(⟨some b8,cs10,fun _=>false⟩,b8,Int.toNat (a1.length:Int),s9)) h ⟨rfl,h11,(HS.sel hH12 [some 0] (by decide))⟩
 clear h
 rintro ⟨out22,i28⟩ ⟨x23,b24,n26,s29⟩ tm os ⟨h25,h27,hH30⟩ ee1 h hL1 hR1
 unfold laws_toInt64SSS_S1 at h
 dsimp only at h
 refine AW.seq ?_
 refine sr ?_
 refine q (J i28) ?_
 refine q (sl z2 f3 e4) ?_
 refine AOps.p rfl (len_eq h5) ?_
 refine q (bool (decide ((i28:Int)<(a1.length:Int)))) ?_
 refine nl ?_
 rcases oite h with ⟨hc31,h⟩ | ⟨hc31,h⟩
 ·refine cT hc31 ?_
  refine AW.skip ?_
  refine AW.seq ?_
  refine AW.block ?_
  refine AW.region ?_
  refine q (AV.ms false 1 b24 0 n26) ?_
  refine q (J i28) ?_
  refine q (sl z2 f3 e4) ?_
  refine q (J i28) ?_
  obtain ⟨x32,h33,h⟩:=obind h
  obtain ⟨v36,h34,h35⟩:=idx_sl h5 h33
  obtain ⟨z37,f38,e39,rfl,h40⟩:=h34
  refine AOps.pureR rfl rfl rfl h35 rfl (rfl:_=(eptr [(sl z37 f38 e39)] 0)) ?_
  refine lE (sl z37 f38 e39) ?_
  obtain ⟨y41,h42,h⟩:=obind h
  refine cP (laws_toInt64SS_ok h40 h42 (HS.wf' hH30)) ?_
  intro _ o48 h43
  obtain ⟨z44,f45,e46,rfl,h47⟩:=h43
  obtain ⟨x49,h50,h⟩:=obind h
  refine AOps.pureR rfl rfl rfl (idx_ms h27 h50) rfl (rfl:_=(ptr b24 (0+Int.toNat i28*1))) ?_
  refine AOps.stM (i:=0) (r:=rL (rL rJ 1) 1) (v:=(sl z44 f45 e46)) (y:=y41) hH30 rfl h25 h27 h50 rfl rfl rfl rfl rfl ⟨_,_,_,rfl,h47⟩ ((Sh.L (r:=rL rJ 1) (sz:=1)) y41 _ ⟨_,_,_,rfl,h47⟩) rfl rfl (lt_b rfl) rfl rfl ?_
  intro cs51 w52 s53 h54 hH55
  refine nl ?_
  refine AW.inBlock ?_
  refine AW.region ?_
  refine q (J i28) ?_
  refine q (J (IntKind.wrap .i64 (i28+1))) ?_
  refine aq (J (IntKind.wrap .i64 (i28+1))) ?_
  refine nl ?_
  cases h
  exact AW.res [(0,(sl z2 f3 e4)),(3,(AV.ms false 1 b24 0 n26)),(4,(J (IntKind.wrap .i64 (i28+1))))] [] ⟨rfl,rfl,rfl,trivial⟩ trivial (hL1 _ rfl (⟨some b24,cs51,w52⟩,b24,n26,s53) _ _ ⟨rfl,h54,(HS.sel hH55 [some 0] (by decide))⟩)
 refine cF hc31 ?_
 refine AW.exit rfl ?_
 obtain ⟨r56,hm,hx⟩:=omap h
 clear h
 subst hx
 have hx:=hR1 _ rfl
 rw[hx] at hm
 have h:=hm
 exact AW.res [(3,(AV.ms false 1 b24 0 n26))] [] ⟨rfl,trivial⟩ trivial (KJ21 (out22,x23,b24,n26,s29) _ _ ⟨h25,h27,(HS.sel hH30 [some 0] (by decide)),h⟩)
theorem laws_toChecker_ok {a1:Checker} {z2 z6 z10 z14:Nat} {f3 f7 f11 f15:Bool} {e4 e8 e12 e16:List AV} {s:St} (h5:LR rB 1 a1.Accept z2 e4) (h9:LR (rL rPush 2) 1 a1.Call z6 e8) (h13:LR (rL (rL rJ 1) 1) 1 a1.Return z10 e12) (h17:LR (rL rJ 1) 1 a1.Inner z14 e16) {r:Checker} (h:laws_toChecker a1=some r) (hs:WF s):ACall Cf 17 [(agg [(J a1.Stack),(J a1.Start),(sl z2 f3 e4),(sl z6 f7 e8),(sl z10 f11 e12),(sl z14 f15 e16)])] s fun v _ s'=>(rChecker) r v∧s'=s:=by
 refine ACall.boxes rfl rfl rfl ?_
 have hH0:=HS.init hs
 unfold laws_toChecker at h
 refine sr ?_
 refine AOps.makeR rfl rfl rfl rfl rfl rfl (rfl:_=(eptr [(J a1.Stack),(J a1.Start),(sl z2 f3 e4),(sl z6 f7 e8),(sl z10 f11 e12),(sl z14 f15 e16)] 0)) ?_
 refine AOps.allocP rfl rfl rfl rfl ⟨rfl,rfl⟩ rfl ?_
 refine ns ?_
 refine AOps.alloc1 hH0 rfl rfl rfl rfl rfl rfl ?_
 intro b18 s19 hH20
 refine ns ?_
 refine q (eptr [(J a1.Stack),(J a1.Start),(sl z2 f3 e4),(sl z6 f7 e8),(sl z10 f11 e12),(sl z14 f15 e16)] 0) ?_
 refine lE (J a1.Stack) ?_
 refine q (ptr b18 0) ?_
 refine AOps.stB (i:=0) (v:=(J a1.Stack)) hH20 rfl rfl rfl rfl rfl rfl rfl rfl rfl (lt_b rfl) (le_b rfl) rfl ?_
 intro w21 s22 h23 h24 hH25
 refine ns ?_
 refine q (eptr [(J a1.Stack),(J a1.Start),(sl z2 f3 e4),(sl z6 f7 e8),(sl z10 f11 e12),(sl z14 f15 e16)] 1) ?_
 refine lE (J a1.Start) ?_
 refine q (ptr b18 1) ?_
 refine AOps.stB (i:=0) (v:=(J a1.Start)) hH25 rfl rfl rfl rfl rfl rfl rfl rfl rfl (lt_b rfl) (le_b rfl) rfl ?_
 intro w26 s27 h28 h29 hH30
 refine ns ?_
 refine q (eptr [(J a1.Stack),(J a1.Start),(sl z2 f3 e4),(sl z6 f7 e8),(sl z10 f11 e12),(sl z14 f15 e16)] 2) ?_
 refine lE (sl z2 f3 e4) ?_
 obtain ⟨y31,h32,h⟩:=obind h
 refine cP (laws_toBoolS_ok h5 h32 (HS.wf' hH30)) ?_
 intro _ o38 h33
 obtain ⟨z34,f35,e36,rfl,h37⟩:=h33
 refine q (ptr b18 2) ?_
 refine AOps.stB (i:=0) (v:=(sl z34 f35 e36)) hH30 rfl rfl rfl rfl rfl rfl rfl rfl rfl (lt_b rfl) (le_b rfl) rfl ?_
 intro w39 s40 h41 h42 hH43
 refine ns ?_
 refine q (eptr [(J a1.Stack),(J a1.Start),(sl z2 f3 e4),(sl z6 f7 e8),(sl z10 f11 e12),(sl z14 f15 e16)] 3) ?_
 refine lE (sl z6 f7 e8) ?_
 obtain ⟨y44,h45,h⟩:=obind h
 refine cP (laws_toPushSS_ok h9 h45 (HS.wf' hH43)) ?_
 intro _ o51 h46
 obtain ⟨z47,f48,e49,rfl,h50⟩:=h46
 refine q (ptr b18 3) ?_
 refine AOps.stB (i:=0) (v:=(sl z47 f48 e49)) hH43 rfl rfl rfl rfl rfl rfl rfl rfl rfl (lt_b rfl) (le_b rfl) rfl ?_
 intro w52 s53 h54 h55 hH56
 refine ns ?_
 refine q (eptr [(J a1.Stack),(J a1.Start),(sl z2 f3 e4),(sl z6 f7 e8),(sl z10 f11 e12),(sl z14 f15 e16)] 4) ?_
 refine lE (sl z10 f11 e12) ?_
 obtain ⟨y57,h58,h⟩:=obind h
 refine cP (laws_toInt64SSS_ok h13 h58 (HS.wf' hH56)) ?_
 intro _ o64 h59
 obtain ⟨z60,f61,e62,rfl,h63⟩:=h59
 refine q (ptr b18 4) ?_
 refine AOps.stB (i:=0) (v:=(sl z60 f61 e62)) hH56 rfl rfl rfl rfl rfl rfl rfl rfl rfl (lt_b rfl) (le_b rfl) rfl ?_
 intro w65 s66 h67 h68 hH69
 refine ns ?_
 refine q (eptr [(J a1.Stack),(J a1.Start),(sl z2 f3 e4),(sl z6 f7 e8),(sl z10 f11 e12),(sl z14 f15 e16)] 5) ?_
 refine lE (sl z14 f15 e16) ?_
 obtain ⟨y70,h71,h⟩:=obind h
 refine cP (laws_toInt64SS_ok h17 h71 (HS.wf' hH69)) ?_
 intro _ o77 h72
 obtain ⟨z73,f74,e75,rfl,h76⟩:=h72
 refine q (ptr b18 5) ?_
 refine AOps.stB (i:=0) (v:=(sl z73 f74 e75)) hH69 rfl rfl rfl rfl rfl rfl rfl rfl rfl (lt_b rfl) (le_b rfl) rfl ?_
 intro w78 s79 h80 h81 hH82
 refine ns ?_
 refine AOps.ldB (i:=0) (v:=(agg [(J a1.Stack),(J a1.Start),(sl z34 f35 e36),(sl z47 f48 e49),(sl z60 f61 e62),(sl z73 f74 e75)])) hH82 rfl rfl rfl rfl rfl rfl rfl rfl rfl ?_
 refine AOps.stP (v:=(agg [(J a1.Stack),(J a1.Start),(sl z34 f35 e36),(sl z47 f48 e49),(sl z60 f61 e62),(sl z73 f74 e75)])) rfl rfl rfl rfl rfl rfl rfl rfl rfl (lt_b rfl) rfl ?_
 refine nl ?_
 cases h
 exact AW.ret ⟨⟨_,hH82⟩,_,_,rfl,(Fin.of (p:=(rChecker) (⟨a1.Stack,a1.Start,y31,y44,y57,y70⟩:Checker)) (.A (.cons .I (.cons .I (.cons (.L fun _=>.B) (.cons (.L fun _=>(.L fun _=>(.A (.cons .I (.cons .I .nil))))) (.cons (.L fun _=>(.L fun _=>(.L fun _=>.I))) (.cons (.L fun _=>(.L fun _=>.I)) .nil))))))) (⟨_,rfl,(.cons rfl (.cons rfl (.cons ⟨_,_,_,rfl,h37⟩ (.cons ⟨_,_,_,rfl,h50⟩ (.cons ⟨_,_,_,rfl,h63⟩ (.cons ⟨_,_,_,rfl,h76⟩ .nil))))))⟩)).2⟩
theorem laws_toStringS_ok {a1:List (List UInt8)} {z2:Nat} {f3:Bool} {e4:List AV} {s:St} (h5:LR rS 1 a1 z2 e4) {r:(List (List UInt8))} (h:laws_toStringS a1=some r) (hs:WF s):ACall Cf 18 [(sl z2 f3 e4)] s fun v _ s'=>(rL rS 1) r v∧s'=s:=by
 refine ACall.boxes rfl rfl rfl ?_
 have hH0:=HS.init hs
 unfold laws_toStringS at h
 refine sr ?_
 refine q (sl 0 true []) ?_
 refine ns ?_
 refine q (sl z2 f3 e4) ?_
 refine AOps.p rfl (len_eq h5) ?_
 obtain ⟨l6,h7,h⟩:=obind h
 refine AOps.mkS (r:=rS) hH0 rfl rfl rfl rfl rfl rfl rfl ⟨rfl,rfl,by decide⟩ h7 rfl (Sh.S (([]:List UInt8):List UInt8) _ rfl) rfl ?_
 intro b8 s9 cs10 h11 hH12
 refine aq (AV.ms false 1 b8 0 (Int.toNat (a1.length:Int))) ?_
 refine nl ?_
 refine AW.seq ?_
 refine sr ?_
 refine q (J 0) ?_
 refine nl ?_
 refine AW.meet (σ:=(List (List UInt8)) × BX × Nat × Nat × St) (fun (out13,x14,b15,n17,s19) tm os=>⟨updL tm [(3,(AV.ms false 1 b15 0 n17))],updL os [],s19⟩) (fun (out13,x14,b15,n17,s19)=>(x14.b=some b15)∧(MS rS false 1 out13 n17 x14.cs)∧(HS [] false s s19 [x14])∧laws_toStringS_J1 out13=some r) ?_ ?_
 ·rintro ⟨out13,x14,b15,n17,s19⟩ tm os ⟨h16,h18,hH20,h⟩
  unfold laws_toStringS_J1 at h
  refine sr ?_
  refine q (AV.ms false 1 b15 0 n17) ?_
  refine aq (AV.ms false 1 b15 0 n17) ?_
  refine nl ?_
  cases h
  exact AW.ret ⟨⟨_,hH20⟩,_,_,rfl,(Fin.ms (r:=rS) hH20 (i:=0) rfl h16 h18 (fun _=>.S) (fun _=>rfl)).2⟩
 intro KJ21
 refine AW.block ?_
 refine AW.res [(0,(sl z2 f3 e4)),(3,(AV.ms false 1 b8 0 (Int.toNat (a1.length:Int)))),(4,(J 0))] [] ⟨rfl,rfl,rfl,trivial⟩ trivial ?_
 refine AW.loopF (σ:=(List (List UInt8)) × Int) (τ:=BX × Nat × Nat × St) (fun (out22,i28) (x23,b24,n26,s29)=>(x23.b=some b24)∧(MS rS false 1 out22 n26 x23.cs)∧(HS [] false s s29 [x23])) (fun (out22,i28) (x23,b24,n26,s29) tm os=>⟨updL tm [(0,(sl z2 f3 e4)),(3,(AV.ms false 1 b24 0 n26)),(4,(J i28))],updL os [],s29⟩) ?_ (x:=(l6,0)) (y:=(⟨some b8,cs10,fun _=>false⟩,b8,Int.toNat (a1.length:Int),s9)) h ⟨rfl,h11,(HS.sel hH12 [some 0] (by decide))⟩
 clear h
 rintro ⟨out22,i28⟩ ⟨x23,b24,n26,s29⟩ tm os ⟨h25,h27,hH30⟩ ee1 h hL1 hR1
 unfold laws_toStringS_S1 at h
 dsimp only at h
 refine AW.seq ?_
 refine sr ?_
 refine q (J i28) ?_
 refine q (sl z2 f3 e4) ?_
 refine AOps.p rfl (len_eq h5) ?_
 refine q (bool (decide ((i28:Int)<(a1.length:Int)))) ?_
 refine nl ?_
 rcases oite h with ⟨hc31,h⟩ | ⟨hc31,h⟩
 ·refine cT hc31 ?_
  refine AW.skip ?_
  refine AW.seq ?_
  refine AW.block ?_
  refine AW.region ?_
  refine q (AV.ms false 1 b24 0 n26) ?_
  refine q (J i28) ?_
  refine q (sl z2 f3 e4) ?_
  refine q (J i28) ?_
  obtain ⟨x32,h33,h⟩:=obind h
  obtain ⟨v36,h34,h35⟩:=idx_sl h5 h33
  cases h34
  refine AOps.pureR rfl rfl rfl h35 rfl (rfl:_=(eptr [(str x32)] 0)) ?_
  refine lE (str x32) ?_
  obtain ⟨x37,h38,h⟩:=obind h
  refine AOps.pureR rfl rfl rfl (idx_ms h27 h38) rfl (rfl:_=(ptr b24 (0+Int.toNat i28*1))) ?_
  refine AOps.stM (i:=0) (r:=rS) (v:=(str x32)) (y:=x32) hH30 rfl h25 h27 h38 rfl rfl rfl rfl rfl rfl (Sh.S x32 _ rfl) rfl rfl (lt_b rfl) rfl rfl ?_
  intro cs39 w40 s41 h42 hH43
  refine nl ?_
  refine AW.inBlock ?_
  refine AW.region ?_
  refine q (J i28) ?_
  refine q (J (IntKind.wrap .i64 (i28+1))) ?_
  refine aq (J (IntKind.wrap .i64 (i28+1))) ?_
  refine nl ?_
  cases h
  exact AW.res [(0,(sl z2 f3 e4)),(3,(AV.ms false 1 b24 0 n26)),(4,(J (IntKind.wrap .i64 (i28+1))))] [] ⟨rfl,rfl,rfl,trivial⟩ trivial (hL1 _ rfl (⟨some b24,cs39,w40⟩,b24,n26,s41) _ _ ⟨rfl,h42,(HS.sel hH43 [some 0] (by decide))⟩)
 refine cF hc31 ?_
 refine AW.exit rfl ?_
 obtain ⟨r44,hm,hx⟩:=omap h
 clear h
 subst hx
 have hx:=hR1 _ rfl
 rw[hx] at hm
 have h:=hm
 exact AW.res [(3,(AV.ms false 1 b24 0 n26))] [] ⟨rfl,trivial⟩ trivial (KJ21 (out22,x23,b24,n26,s29) _ _ ⟨h25,h27,(HS.sel hH30 [some 0] (by decide)),h⟩)
theorem laws_toStream_ok {a1:Stream} {z2 z6 z10 z14 z18:Nat} {f3 f7 f11 f15 f19:Bool} {e4 e8 e12 e16 e20:List AV} {s:St} (h5:LR rB 1 a1.Checker.Accept z2 e4) (h9:LR (rL rPush 2) 1 a1.Checker.Call z6 e8) (h13:LR (rL (rL rJ 1) 1) 1 a1.Checker.Return z10 e12) (h17:LR (rL rJ 1) 1 a1.Checker.Inner z14 e16) (h21:LR rS 1 a1.Pieces z18 e20) {r:Stream} (h:laws_toStream a1=some r) (hs:WF s):ACall Cf 7 [(agg [(J a1.Checker.Stack),(J a1.Checker.Start),(sl z2 f3 e4),(sl z6 f7 e8),(sl z10 f11 e12),(sl z14 f15 e16),(sl z18 f19 e20)])] s fun v _ s'=>(rStream) r v∧s'=s:=by
 refine ACall.boxes rfl rfl rfl ?_
 have hH0:=HS.init hs
 unfold laws_toStream at h
 refine sr ?_
 refine AOps.makeR rfl rfl rfl rfl rfl rfl (rfl:_=(eptr [(J a1.Checker.Stack),(J a1.Checker.Start),(sl z2 f3 e4),(sl z6 f7 e8),(sl z10 f11 e12),(sl z14 f15 e16),(sl z18 f19 e20)] 0)) ?_
 refine AOps.allocP rfl rfl rfl rfl ⟨rfl,rfl⟩ rfl ?_
 refine ns ?_
 refine AOps.alloc1 hH0 rfl rfl rfl rfl rfl rfl ?_
 intro b22 s23 hH24
 refine ns ?_
 refine q (eptr [(J a1.Checker.Stack),(J a1.Checker.Start),(sl z2 f3 e4),(sl z6 f7 e8),(sl z10 f11 e12),(sl z14 f15 e16),(sl z18 f19 e20)] 0) ?_
 refine lE (agg [(J a1.Checker.Stack),(J a1.Checker.Start),(sl z2 f3 e4),(sl z6 f7 e8),(sl z10 f11 e12),(sl z14 f15 e16)]) ?_
 obtain ⟨y25,h26,h⟩:=obind h
 refine cP (laws_toChecker_ok h5 h9 h13 h17 h26 (HS.wf' hH24)) ?_
 intro _ o57 h27
 obtain ⟨_,rfl,h28⟩:=h27
 obtain ⟨_,_,rfl,h29,h30⟩:=Cs_cons h28
 cases h29
 obtain ⟨_,_,rfl,h31,h32⟩:=Cs_cons h30
 cases h31
 obtain ⟨_,_,rfl,h33,h34⟩:=Cs_cons h32
 obtain ⟨z35,f36,e37,rfl,h38⟩:=h33
 obtain ⟨_,_,rfl,h39,h40⟩:=Cs_cons h34
 obtain ⟨z41,f42,e43,rfl,h44⟩:=h39
 obtain ⟨_,_,rfl,h45,h46⟩:=Cs_cons h40
 obtain ⟨z47,f48,e49,rfl,h50⟩:=h45
 obtain ⟨_,_,rfl,h51,h52⟩:=Cs_cons h46
 obtain ⟨z53,f54,e55,rfl,h56⟩:=h51
 cases Cs_nil h52
 refine q (ptr b22 0) ?_
 refine AOps.stB (i:=0) (v:=(agg [(J y25.Stack),(J y25.Start),(sl z35 f36 e37),(sl z41 f42 e43),(sl z47 f48 e49),(sl z53 f54 e55)])) hH24 rfl rfl rfl rfl rfl rfl rfl rfl rfl (lt_b rfl) (le_b rfl) rfl ?_
 intro w58 s59 h60 h61 hH62
 refine ns ?_
 refine q (eptr [(J a1.Checker.Stack),(J a1.Checker.Start),(sl z2 f3 e4),(sl z6 f7 e8),(sl z10 f11 e12),(sl z14 f15 e16),(sl z18 f19 e20)] 6) ?_
 refine lE (sl z18 f19 e20) ?_
 obtain ⟨y63,h64,h⟩:=obind h
 refine cP (laws_toStringS_ok h21 h64 (HS.wf' hH62)) ?_
 intro _ o70 h65
 obtain ⟨z66,f67,e68,rfl,h69⟩:=h65
 refine q (ptr b22 6) ?_
 refine AOps.stB (i:=0) (v:=(sl z66 f67 e68)) hH62 rfl rfl rfl rfl rfl rfl rfl rfl rfl (lt_b rfl) (le_b rfl) rfl ?_
 intro w71 s72 h73 h74 hH75
 refine ns ?_
 refine AOps.ldB (i:=0) (v:=(agg [(J y25.Stack),(J y25.Start),(sl z35 f36 e37),(sl z41 f42 e43),(sl z47 f48 e49),(sl z53 f54 e55),(sl z66 f67 e68)])) hH75 rfl rfl rfl rfl rfl rfl rfl rfl rfl ?_
 refine AOps.stP (v:=(agg [(J y25.Stack),(J y25.Start),(sl z35 f36 e37),(sl z41 f42 e43),(sl z47 f48 e49),(sl z53 f54 e55),(sl z66 f67 e68)])) rfl rfl rfl rfl rfl rfl rfl rfl rfl (lt_b rfl) rfl ?_
 refine nl ?_
 cases h
 exact AW.ret ⟨⟨_,hH75⟩,_,_,rfl,(Fin.of (p:=(rStream) (⟨y25,y63⟩:Stream)) (.A (.cons .I (.cons .I (.cons (.L fun _=>.B) (.cons (.L fun _=>(.L fun _=>(.A (.cons .I (.cons .I .nil))))) (.cons (.L fun _=>(.L fun _=>(.L fun _=>.I))) (.cons (.L fun _=>(.L fun _=>.I)) (.cons (.L fun _=>.S) .nil)))))))) (⟨_,rfl,(.cons rfl (.cons rfl (.cons ⟨_,_,_,rfl,h38⟩ (.cons ⟨_,_,_,rfl,h44⟩ (.cons ⟨_,_,_,rfl,h50⟩ (.cons ⟨_,_,_,rfl,h56⟩ (.cons ⟨_,_,_,rfl,h69⟩ .nil)))))))⟩)).2⟩
theorem laws_toDeed_ok {a1 r:Deed} {s:St} (h:laws_toDeed a1=some r) (hs:WF s):ACall Cf 19 [(agg [(J a1.Kind),(J a1.A),(J a1.B)])] s fun v _ s'=>(rDeed) r v∧s'=s:=by
 refine ACall.boxes rfl rfl rfl ?_
 have hH0:=HS.init hs
 unfold laws_toDeed at h
 refine sr ?_
 refine AOps.makeR rfl rfl rfl rfl rfl rfl (rfl:_=(eptr [(J a1.Kind),(J a1.A),(J a1.B)] 0)) ?_
 refine AOps.allocP rfl rfl rfl rfl ⟨rfl,rfl⟩ rfl ?_
 refine ns ?_
 refine AOps.alloc1 hH0 rfl rfl rfl rfl rfl rfl ?_
 intro b2 s3 hH4
 refine ns ?_
 refine q (eptr [(J a1.Kind),(J a1.A),(J a1.B)] 0) ?_
 refine lE (J a1.Kind) ?_
 refine q (ptr b2 0) ?_
 refine AOps.stB (i:=0) (v:=(J a1.Kind)) hH4 rfl rfl rfl rfl rfl rfl rfl rfl rfl (lt_b rfl) (le_b rfl) rfl ?_
 intro w5 s6 h7 h8 hH9
 refine ns ?_
 refine q (eptr [(J a1.Kind),(J a1.A),(J a1.B)] 1) ?_
 refine lE (J a1.A) ?_
 refine q (ptr b2 1) ?_
 refine AOps.stB (i:=0) (v:=(J a1.A)) hH9 rfl rfl rfl rfl rfl rfl rfl rfl rfl (lt_b rfl) (le_b rfl) rfl ?_
 intro w10 s11 h12 h13 hH14
 refine ns ?_
 refine q (eptr [(J a1.Kind),(J a1.A),(J a1.B)] 2) ?_
 refine lE (J a1.B) ?_
 refine q (ptr b2 2) ?_
 refine AOps.stB (i:=0) (v:=(J a1.B)) hH14 rfl rfl rfl rfl rfl rfl rfl rfl rfl (lt_b rfl) (le_b rfl) rfl ?_
 intro w15 s16 h17 h18 hH19
 refine ns ?_
 refine AOps.ldB (i:=0) (v:=(agg [(J a1.Kind),(J a1.A),(J a1.B)])) hH19 rfl rfl rfl rfl rfl rfl rfl rfl rfl ?_
 refine AOps.stP (v:=(agg [(J a1.Kind),(J a1.A),(J a1.B)])) rfl rfl rfl rfl rfl rfl rfl rfl rfl (lt_b rfl) rfl ?_
 refine nl ?_
 cases h
 exact AW.ret ⟨⟨_,hH19⟩,_,_,rfl,(Fin.of (p:=(rDeed) _) (.A (.cons .I (.cons .I (.cons .I .nil)))) (⟨_,rfl,(.cons rfl (.cons rfl (.cons rfl .nil)))⟩)).2⟩
theorem laws_toDeedS_ok {a1:List Deed} {z2:Nat} {f3:Bool} {e4:List AV} {s:St} (h5:LR rDeed 3 a1 z2 e4) {r:(List Deed)} (h:laws_toDeedS a1=some r) (hs:WF s):ACall Cf 8 [(sl z2 f3 e4)] s fun v _ s'=>(rL rDeed 3) r v∧s'=s:=by
 refine ACall.boxes rfl rfl rfl ?_
 have hH0:=HS.init hs
 unfold laws_toDeedS at h
 refine sr ?_
 refine q (sl 0 true []) ?_
 refine ns ?_
 refine q (sl z2 f3 e4) ?_
 refine AOps.p rfl (len_eq h5) ?_
 obtain ⟨l6,h7,h⟩:=obind h
 refine AOps.mkS (r:=rDeed) hH0 rfl rfl rfl rfl rfl rfl rfl ⟨rfl,rfl,by decide⟩ h7 ⟨_,rfl,(.cons rfl (.cons rfl (.cons rfl .nil)))⟩ ((Sh.A (f:=csDeed) (fun _=>⟨(.cons (One.of Sh.I _) (.cons (One.of Sh.I _) (.cons (One.of Sh.I _) .nil))),rfl⟩)) ((⟨0,0,0⟩:Deed):Deed) _ ⟨_,rfl,(.cons rfl (.cons rfl (.cons rfl .nil)))⟩) rfl ?_
 intro b8 s9 cs10 h11 hH12
 refine aq (AV.ms true 3 b8 0 (Int.toNat (a1.length:Int))) ?_
 refine nl ?_
 refine AW.seq ?_
 refine sr ?_
 refine q (J 0) ?_
 refine nl ?_
 refine AW.meet (σ:=(List Deed) × BX × Nat × Nat × St) (fun (out13,x14,b15,n17,s19) tm os=>⟨updL tm [(3,(AV.ms true 3 b15 0 n17))],updL os [],s19⟩) (fun (out13,x14,b15,n17,s19)=>(x14.b=some b15)∧(MS rDeed true 3 out13 n17 x14.cs)∧(HS [] false s s19 [x14])∧laws_toDeedS_J1 out13=some r) ?_ ?_
 ·rintro ⟨out13,x14,b15,n17,s19⟩ tm os ⟨h16,h18,hH20,h⟩
  unfold laws_toDeedS_J1 at h
  refine sr ?_
  refine q (AV.ms true 3 b15 0 n17) ?_
  refine aq (AV.ms true 3 b15 0 n17) ?_
  refine nl ?_
  cases h
  exact AW.ret ⟨⟨_,hH20⟩,_,_,rfl,(Fin.ms (r:=rDeed) hH20 (i:=0) rfl h16 h18 (fun _=>(.A (.cons .I (.cons .I (.cons .I .nil))))) (fun h=>by cases h)).2⟩
 intro KJ21
 refine AW.block ?_
 refine AW.res [(0,(sl z2 f3 e4)),(3,(AV.ms true 3 b8 0 (Int.toNat (a1.length:Int)))),(4,(J 0))] [] ⟨rfl,rfl,rfl,trivial⟩ trivial ?_
 refine AW.loopF (σ:=(List Deed) × Int) (τ:=BX × Nat × Nat × St) (fun (out22,i28) (x23,b24,n26,s29)=>(x23.b=some b24)∧(MS rDeed true 3 out22 n26 x23.cs)∧(HS [] false s s29 [x23])) (fun (out22,i28) (x23,b24,n26,s29) tm os=>⟨updL tm [(0,(sl z2 f3 e4)),(3,(AV.ms true 3 b24 0 n26)),(4,(J i28))],updL os [],s29⟩) ?_ (x:=(l6,0)) (y:=(⟨some b8,cs10,fun _=>false⟩,b8,Int.toNat (a1.length:Int),s9)) h ⟨rfl,h11,(HS.sel hH12 [some 0] (by decide))⟩
 clear h
 rintro ⟨out22,i28⟩ ⟨x23,b24,n26,s29⟩ tm os ⟨h25,h27,hH30⟩ ee1 h hL1 hR1
 unfold laws_toDeedS_S1 at h
 dsimp only at h
 refine AW.seq ?_
 refine sr ?_
 refine q (J i28) ?_
 refine q (sl z2 f3 e4) ?_
 refine AOps.p rfl (len_eq h5) ?_
 refine q (bool (decide ((i28:Int)<(a1.length:Int)))) ?_
 refine nl ?_
 rcases oite h with ⟨hc31,h⟩ | ⟨hc31,h⟩
 ·refine cT hc31 ?_
  refine AW.skip ?_
  refine AW.seq ?_
  refine AW.block ?_
  refine AW.region ?_
  refine q (AV.ms true 3 b24 0 n26) ?_
  refine q (J i28) ?_
  refine q (sl z2 f3 e4) ?_
  refine q (J i28) ?_
  obtain ⟨x32,h33,h⟩:=obind h
  obtain ⟨v36,h34,h35⟩:=idx_sl h5 h33
  obtain ⟨_,rfl,h37⟩:=h34
  obtain ⟨_,_,rfl,h38,h39⟩:=Cs_cons h37
  cases h38
  obtain ⟨_,_,rfl,h40,h41⟩:=Cs_cons h39
  cases h40
  obtain ⟨_,_,rfl,h42,h43⟩:=Cs_cons h41
  cases h42
  cases Cs_nil h43
  refine AOps.pureR rfl rfl rfl h35 rfl (rfl:_=(eptr [(J x32.Kind),(J x32.A),(J x32.B)] 0)) ?_
  refine lE (agg [(J x32.Kind),(J x32.A),(J x32.B)]) ?_
  obtain ⟨y44,h45,h⟩:=obind h
  refine cP (laws_toDeed_ok  h45 (HS.wf' hH30)) ?_
  intro _ o54 h46
  obtain ⟨_,rfl,h47⟩:=h46
  obtain ⟨_,_,rfl,h48,h49⟩:=Cs_cons h47
  cases h48
  obtain ⟨_,_,rfl,h50,h51⟩:=Cs_cons h49
  cases h50
  obtain ⟨_,_,rfl,h52,h53⟩:=Cs_cons h51
  cases h52
  cases Cs_nil h53
  obtain ⟨x55,h56,h⟩:=obind h
  refine AOps.pureR rfl rfl rfl (idx_ms h27 h56) rfl (rfl:_=(ptr b24 (0+Int.toNat i28*3))) ?_
  refine AOps.stM (i:=0) (r:=rDeed) (v:=(agg [(J y44.Kind),(J y44.A),(J y44.B)])) (y:=y44) hH30 rfl h25 h27 h56 rfl rfl rfl rfl rfl ⟨_,rfl,(.cons rfl (.cons rfl (.cons rfl .nil)))⟩ ((Sh.A (f:=csDeed) (fun _=>⟨(.cons (One.of Sh.I _) (.cons (One.of Sh.I _) (.cons (One.of Sh.I _) .nil))),rfl⟩)) y44 _ ⟨_,rfl,(.cons rfl (.cons rfl (.cons rfl .nil)))⟩) rfl rfl (lt_b rfl) rfl rfl ?_
  intro cs57 w58 s59 h60 hH61
  refine nl ?_
  refine AW.inBlock ?_
  refine AW.region ?_
  refine q (J i28) ?_
  refine q (J (IntKind.wrap .i64 (i28+1))) ?_
  refine aq (J (IntKind.wrap .i64 (i28+1))) ?_
  refine nl ?_
  cases h
  exact AW.res [(0,(sl z2 f3 e4)),(3,(AV.ms true 3 b24 0 n26)),(4,(J (IntKind.wrap .i64 (i28+1))))] [] ⟨rfl,rfl,rfl,trivial⟩ trivial (hL1 _ rfl (⟨some b24,cs57,w58⟩,b24,n26,s59) _ _ ⟨rfl,h60,(HS.sel hH61 [some 0] (by decide))⟩)
 refine cF hc31 ?_
 refine AW.exit rfl ?_
 obtain ⟨r62,hm,hx⟩:=omap h
 clear h
 subst hx
 have hx:=hR1 _ rfl
 rw[hx] at hm
 have h:=hm
 exact AW.res [(3,(AV.ms true 3 b24 0 n26))] [] ⟨rfl,trivial⟩ trivial (KJ21 (out22,x23,b24,n26,s29) _ _ ⟨h25,h27,(HS.sel hH30 [some 0] (by decide)),h⟩)
theorem spec_l00In_ok {n1 low2 high3:Int} {s:St} {r:Bool} (h:spec_l00In n1 low2 high3=some r) (hs:WF s):ACall Cf 56 [(J n1),(J low2),(J high3)] s fun v _ s'=>(rB) r v∧s'=s:=by
 refine ACall.pure rfl rfl rfl .B ?_
 have hWF:=hs.lo'
 unfold spec_l00In at h
 refine sr ?_
 refine q (bool false) ?_
 refine ns ?_
 refine q (J n1) ?_
 refine q (J low2) ?_
 refine q (bool (decide ((n1:Int)≥low2))) ?_
 refine q (bool (decide ((n1:Int)≥low2))) ?_
 refine AOps.split 4 (fun f'=>∃ tm' os',f'=⟨updL tm' [(14,(bool ((decide ((n1:Int)≥low2))&&(decide ((n1:Int)≤high3)))))],updL os' [],{ s with lo:=s.n }⟩) ?_ ?_
 ·rcases Bool.eq_false_or_eq_true (decide ((n1:Int)≥low2)) with hc4 | hc4
  ·refine kn 10 hc4 ?_
   refine q (J n1) ?_
   refine q (J high3) ?_
   refine q (bool (decide ((n1:Int)≤high3))) ?_
   refine q (bool (decide ((n1:Int)≤high3))) ?_
   exact rR ⟨congrArg bool (and_t hc4),trivial⟩
  ·refine kn 10 hc4 ?_
   refine sk ?_
   refine sk ?_
   refine sk ?_
   refine q (bool false) ?_
   exact rR ⟨congrArg bool (and_f hc4),trivial⟩
 rintro _ ⟨tm,os,rfl⟩
 refine aq (bool ((decide ((n1:Int)≥low2))&&(decide ((n1:Int)≤high3)))) ?_
 refine nl ?_
 cases h
 exact AW.ret ⟨rfl,_,_,rfl,rfl⟩
theorem spec_l02List_ok {list1:List Int} {length6 n7:Int} {z2:Nat} {f3:Bool} {e4:List AV} {s:St} (h5:LR rJ 1 list1 z2 e4) {r:Bool} (h:spec_l02List list1 length6 n7=some r) (hs:WF s):ACall Cf 83 [(sl z2 f3 e4),(J length6),(J n7)] s fun v _ s'=>(rB) r v∧s'=s:=by
 refine ACall.pure rfl rfl rfl .B ?_
 have hWF:=hs.lo'
 unfold spec_l02List at h
 refine sr ?_
 refine q (bool false) ?_
 refine nl ?_
 refine AW.seq ?_
 refine sr ?_
 refine q (sl z2 f3 e4) ?_
 refine AOps.p rfl (len_eq h5) ?_
 refine q (J length6) ?_
 refine q (bool ((list1.length:Int) != length6)) ?_
 refine nl ?_
 rcases oite h with ⟨hc8,h⟩ | ⟨hc8,h⟩
 ·refine cT hc8 ?_
  refine sr ?_
  refine q (bool false) ?_
  refine nl ?_
  cases h
  exact AW.ret ⟨rfl,_,_,rfl,rfl⟩
 refine cF hc8 ?_
 refine AW.skip ?_
 refine AW.seq ?_
 refine sr ?_
 refine q (J 0) ?_
 refine nl ?_
 refine AW.meet (σ:=Unit) (fun _ tm os=>⟨updL tm [],updL os [],{ s with lo:=s.n }⟩) (fun _=>spec_l02List_J1=some r) ?_ ?_
 ·rintro _ tm os h
  unfold spec_l02List_J1 at h
  refine sr ?_
  refine q (bool true) ?_
  refine nl ?_
  cases h
  exact AW.ret ⟨rfl,_,_,rfl,rfl⟩
 intro KJ9
 refine AW.block ?_
 refine AW.res [(0,(sl z2 f3 e4)),(2,(J n7)),(7,(J 0))] [] ⟨rfl,rfl,rfl,trivial⟩ trivial ?_
 refine AW.loopF (σ:=Int) (τ:=Unit) (fun i10 _=>True) (fun i10 _ tm os=>⟨updL tm [(0,(sl z2 f3 e4)),(2,(J n7)),(7,(J i10))],updL os [],{ s with lo:=s.n }⟩) ?_ (x:=(0)) (y:=()) h trivial
 clear h
 rintro i10 _ tm os - ee1 h hL1 hR1
 unfold spec_l02List_S1 at h
 refine AW.seq ?_
 refine sr ?_
 refine q (J i10) ?_
 refine q (sl z2 f3 e4) ?_
 refine AOps.p rfl (len_eq h5) ?_
 refine q (bool (decide ((i10:Int)<(list1.length:Int)))) ?_
 refine nl ?_
 rcases oite h with ⟨hc11,h⟩ | ⟨hc11,h⟩
 ·refine cT hc11 ?_
  refine AW.skip ?_
  refine AW.seq ?_
  refine AW.block ?_
  refine sr ?_
  refine q (sl z2 f3 e4) ?_
  refine q (J i10) ?_
  obtain ⟨x12,h13,h⟩:=obind h
  obtain ⟨v16,h14,h15⟩:=idx_sl h5 h13
  cases h14
  refine AOps.pureR rfl rfl rfl h15 rfl (rfl:_=(eptr [(J x12)] 0)) ?_
  refine lE (J x12) ?_
  refine q (J n7) ?_
  refine q (J (IntKind.wrap .i64 (n7 - 1))) ?_
  obtain ⟨y17,h18,h⟩:=obind h
  refine cP (spec_l00In_ok  h18 hWF) ?_
  intro _ o20 h19
  cases h19
  refine q (bool (!y17)) ?_
  refine nl ?_
  rcases oite h with ⟨hc21,h⟩ | ⟨hc21,h⟩
  ·refine cT hc21 ?_
   refine sr ?_
   refine q (bool false) ?_
   refine nl ?_
   cases h
   have hr:=hR1 _ rfl
   subst hr
   exact AW.ret ⟨rfl,_,_,rfl,rfl⟩
  refine cF hc21 ?_
  refine AW.skip ?_
  refine AW.inBlock ?_
  refine AW.region ?_
  refine q (J i10) ?_
  refine q (J (IntKind.wrap .i64 (i10+1))) ?_
  refine aq (J (IntKind.wrap .i64 (i10+1))) ?_
  refine nl ?_
  cases h
  exact AW.res [(0,(sl z2 f3 e4)),(2,(J n7)),(7,(J (IntKind.wrap .i64 (i10+1))))] [] ⟨rfl,rfl,rfl,trivial⟩ trivial (hL1 _ rfl () _ _ trivial)
 refine cF hc11 ?_
 refine AW.exit rfl ?_
 obtain ⟨r22,hm,hx⟩:=omap h
 clear h
 subst hx
 have hx:=hR1 _ rfl
 rw[hx] at hm
 have h:=hm
 exact AW.res [] [] trivial trivial (KJ9 () _ _ h)
theorem spec_l02Ok_w0_7_ok {p1:Checker} {z2 z6 z10 z14:Nat} {f3 f7 f11 f15:Bool} {e4 e8 e12 e16:List AV} {j18:AV} {s:St} (h5:LR rB 1 p1.Accept z2 e4) (h9:LR (rL rPush 2) 1 p1.Call z6 e8) (h13:LR (rL (rL rJ 1) 1) 1 p1.Return z10 e12) (h17:LR (rL rJ 1) 1 p1.Inner z14 e16) {r:Bool} (h:spec_l02Ok_w0_7 p1=some r) (hs:WF s):ACall Cf 55 [(eptr [(J p1.Stack),(J p1.Start),(sl z2 f3 e4),(sl z6 f7 e8),(sl z10 f11 e12),(sl z14 f15 e16),j18] 0)] s fun v _ s'=>(rB) r v∧s'=s:=by
 refine ACall.pure rfl rfl rfl .B ?_
 have hWF:=hs.lo'
 unfold spec_l02Ok_w0_7 at h
 refine sr ?_
 refine q (bool false) ?_
 refine ns ?_
 refine q (eptr [(J p1.Stack),(J p1.Start),(sl z2 f3 e4),(sl z6 f7 e8),(sl z10 f11 e12),(sl z14 f15 e16),j18] 0) ?_
 refine q (eptr [(J p1.Stack),(J p1.Start),(sl z2 f3 e4),(sl z6 f7 e8),(sl z10 f11 e12),(sl z14 f15 e16),j18] 0) ?_
 refine q (eptr [(J p1.Stack),(J p1.Start),(sl z2 f3 e4),(sl z6 f7 e8),(sl z10 f11 e12),(sl z14 f15 e16),j18] 2) ?_
 refine lE (sl z2 f3 e4) ?_
 refine AOps.p rfl (len_eq h5) ?_
 refine aq (J (p1.Accept.length:Int)) ?_
 refine nl ?_
 refine AW.seq ?_
 refine sr ?_
 refine q (J (p1.Accept.length:Int)) ?_
 obtain ⟨y19,h20,h⟩:=obind h
 refine cP (spec_l00In_ok  h20 hWF) ?_
 intro _ o22 h21
 cases h21
 refine q (bool (!y19)) ?_
 refine q (bool (!y19)) ?_
 obtain ⟨b24,hb,h⟩:=obind h
 refine AOps.split 7 (fun f'=>∃ tm' os',f'=⟨updL tm' [(0,(eptr [(J p1.Stack),(J p1.Start),(sl z2 f3 e4),(sl z6 f7 e8),(sl z10 f11 e12),(sl z14 f15 e16),j18] 0)),(3,(J (p1.Accept.length:Int))),(21,(bool b24))],updL os' [],{ s with lo:=s.n }⟩) ?_ ?_
 ·rcases oite hb with ⟨hc23,hb⟩ | ⟨hc23,hb⟩
  ·refine kn 14 hc23 ?_
   refine sk ?_
   refine sk ?_
   refine sk ?_
   refine sk ?_
   refine sk ?_
   refine sk ?_
   refine q (bool true) ?_
   exact rR ⟨rfl,rfl,congrArg bool (Option.some.inj hb),trivial⟩
  ·have h:=hb
   refine kn 14 hc23 ?_
   refine q (eptr [(J p1.Stack),(J p1.Start),(sl z2 f3 e4),(sl z6 f7 e8),(sl z10 f11 e12),(sl z14 f15 e16),j18] 0) ?_
   refine q (eptr [(J p1.Stack),(J p1.Start),(sl z2 f3 e4),(sl z6 f7 e8),(sl z10 f11 e12),(sl z14 f15 e16),j18] 0) ?_
   refine q (eptr [(J p1.Stack),(J p1.Start),(sl z2 f3 e4),(sl z6 f7 e8),(sl z10 f11 e12),(sl z14 f15 e16),j18] 0) ?_
   refine lE (J p1.Stack) ?_
   obtain ⟨y25,h26,h⟩:=obind h
   refine cP (spec_l00In_ok  h26 hWF) ?_
   intro _ o28 h27
   cases h27
   refine q (bool (!y25)) ?_
   refine q (bool (!y25)) ?_
   exact rR ⟨rfl,rfl,congrArg bool (Option.some.inj h),trivial⟩
 rintro _ ⟨tm,os,rfl⟩
 refine q (bool b24) ?_
 obtain ⟨b30,hb,h⟩:=obind h
 refine AOps.split 9 (fun f'=>∃ tm' os',f'=⟨updL tm' [(0,(eptr [(J p1.Stack),(J p1.Start),(sl z2 f3 e4),(sl z6 f7 e8),(sl z10 f11 e12),(sl z14 f15 e16),j18] 0)),(3,(J (p1.Accept.length:Int))),(31,(bool b30))],updL os' [],{ s with lo:=s.n }⟩) ?_ ?_
 ·rcases oite hb with ⟨hc29,hb⟩ | ⟨hc29,hb⟩
  ·refine kn 22 hc29 ?_
   refine sk ?_
   refine sk ?_
   refine sk ?_
   refine sk ?_
   refine sk ?_
   refine sk ?_
   refine sk ?_
   refine sk ?_
   refine q (bool true) ?_
   exact rR ⟨rfl,rfl,congrArg bool (Option.some.inj hb),trivial⟩
  ·have h:=hb
   refine kn 22 hc29 ?_
   refine q (eptr [(J p1.Stack),(J p1.Start),(sl z2 f3 e4),(sl z6 f7 e8),(sl z10 f11 e12),(sl z14 f15 e16),j18] 0) ?_
   refine q (eptr [(J p1.Stack),(J p1.Start),(sl z2 f3 e4),(sl z6 f7 e8),(sl z10 f11 e12),(sl z14 f15 e16),j18] 0) ?_
   refine q (eptr [(J p1.Stack),(J p1.Start),(sl z2 f3 e4),(sl z6 f7 e8),(sl z10 f11 e12),(sl z14 f15 e16),j18] 1) ?_
   refine lE (J p1.Start) ?_
   refine q (J (p1.Accept.length:Int)) ?_
   refine q (J (IntKind.wrap .i64 ((p1.Accept.length:Int) - 1))) ?_
   obtain ⟨y31,h32,h⟩:=obind h
   refine cP (spec_l00In_ok  h32 hWF) ?_
   intro _ o34 h33
   cases h33
   refine q (bool (!y31)) ?_
   refine q (bool (!y31)) ?_
   exact rR ⟨rfl,rfl,congrArg bool (Option.some.inj h),trivial⟩
 rintro _ ⟨tm,os,rfl⟩
 refine q (bool b30) ?_
 refine AOps.split 8 (fun f'=>∃ tm' os',f'=⟨updL tm' [(0,(eptr [(J p1.Stack),(J p1.Start),(sl z2 f3 e4),(sl z6 f7 e8),(sl z10 f11 e12),(sl z14 f15 e16),j18] 0)),(3,(J (p1.Accept.length:Int))),(40,(bool (b30||((p1.Call.length:Int) != (p1.Accept.length:Int)))))],updL os' [],{ s with lo:=s.n }⟩) ?_ ?_
 ·rcases Bool.eq_false_or_eq_true b30 with hc35 | hc35
  ·refine kn 32 hc35 ?_
   refine sk ?_
   refine sk ?_
   refine sk ?_
   refine sk ?_
   refine sk ?_
   refine sk ?_
   refine sk ?_
   refine q (bool true) ?_
   exact rR ⟨rfl,rfl,congrArg bool (or_t hc35),trivial⟩
  ·refine kn 32 hc35 ?_
   refine q (eptr [(J p1.Stack),(J p1.Start),(sl z2 f3 e4),(sl z6 f7 e8),(sl z10 f11 e12),(sl z14 f15 e16),j18] 0) ?_
   refine q (eptr [(J p1.Stack),(J p1.Start),(sl z2 f3 e4),(sl z6 f7 e8),(sl z10 f11 e12),(sl z14 f15 e16),j18] 0) ?_
   refine q (eptr [(J p1.Stack),(J p1.Start),(sl z2 f3 e4),(sl z6 f7 e8),(sl z10 f11 e12),(sl z14 f15 e16),j18] 3) ?_
   refine lE (sl z6 f7 e8) ?_
   refine AOps.p rfl (len_eq h9) ?_
   refine q (J (p1.Accept.length:Int)) ?_
   refine q (bool ((p1.Call.length:Int) != (p1.Accept.length:Int))) ?_
   refine q (bool ((p1.Call.length:Int) != (p1.Accept.length:Int))) ?_
   exact rR ⟨rfl,rfl,congrArg bool (or_f hc35),trivial⟩
 rintro _ ⟨tm,os,rfl⟩
 refine q (bool (b30||((p1.Call.length:Int) != (p1.Accept.length:Int)))) ?_
 refine AOps.split 8 (fun f'=>∃ tm' os',f'=⟨updL tm' [(0,(eptr [(J p1.Stack),(J p1.Start),(sl z2 f3 e4),(sl z6 f7 e8),(sl z10 f11 e12),(sl z14 f15 e16),j18] 0)),(3,(J (p1.Accept.length:Int))),(49,(bool ((b30||((p1.Call.length:Int) != (p1.Accept.length:Int)))||((p1.Return.length:Int) != (p1.Accept.length:Int)))))],updL os' [],{ s with lo:=s.n }⟩) ?_ ?_
 ·rcases Bool.eq_false_or_eq_true (b30||((p1.Call.length:Int) != (p1.Accept.length:Int))) with hc36 | hc36
  ·refine kn 41 hc36 ?_
   refine sk ?_
   refine sk ?_
   refine sk ?_
   refine sk ?_
   refine sk ?_
   refine sk ?_
   refine sk ?_
   refine q (bool true) ?_
   exact rR ⟨rfl,rfl,congrArg bool (or_t hc36),trivial⟩
  ·refine kn 41 hc36 ?_
   refine q (eptr [(J p1.Stack),(J p1.Start),(sl z2 f3 e4),(sl z6 f7 e8),(sl z10 f11 e12),(sl z14 f15 e16),j18] 0) ?_
   refine q (eptr [(J p1.Stack),(J p1.Start),(sl z2 f3 e4),(sl z6 f7 e8),(sl z10 f11 e12),(sl z14 f15 e16),j18] 0) ?_
   refine q (eptr [(J p1.Stack),(J p1.Start),(sl z2 f3 e4),(sl z6 f7 e8),(sl z10 f11 e12),(sl z14 f15 e16),j18] 4) ?_
   refine lE (sl z10 f11 e12) ?_
   refine AOps.p rfl (len_eq h13) ?_
   refine q (J (p1.Accept.length:Int)) ?_
   refine q (bool ((p1.Return.length:Int) != (p1.Accept.length:Int))) ?_
   refine q (bool ((p1.Return.length:Int) != (p1.Accept.length:Int))) ?_
   exact rR ⟨rfl,rfl,congrArg bool (or_f hc36),trivial⟩
 rintro _ ⟨tm,os,rfl⟩
 refine q (bool ((b30||((p1.Call.length:Int) != (p1.Accept.length:Int)))||((p1.Return.length:Int) != (p1.Accept.length:Int)))) ?_
 refine AOps.split 8 (fun f'=>∃ tm' os',f'=⟨updL tm' [(0,(eptr [(J p1.Stack),(J p1.Start),(sl z2 f3 e4),(sl z6 f7 e8),(sl z10 f11 e12),(sl z14 f15 e16),j18] 0)),(3,(J (p1.Accept.length:Int))),(58,(bool (((b30||((p1.Call.length:Int) != (p1.Accept.length:Int)))||((p1.Return.length:Int) != (p1.Accept.length:Int)))||((p1.Inner.length:Int) != (p1.Accept.length:Int)))))],updL os' [],{ s with lo:=s.n }⟩) ?_ ?_
 ·rcases Bool.eq_false_or_eq_true ((b30||((p1.Call.length:Int) != (p1.Accept.length:Int)))||((p1.Return.length:Int) != (p1.Accept.length:Int))) with hc37 | hc37
  ·refine kn 50 hc37 ?_
   refine sk ?_
   refine sk ?_
   refine sk ?_
   refine sk ?_
   refine sk ?_
   refine sk ?_
   refine sk ?_
   refine q (bool true) ?_
   exact rR ⟨rfl,rfl,congrArg bool (or_t hc37),trivial⟩
  ·refine kn 50 hc37 ?_
   refine q (eptr [(J p1.Stack),(J p1.Start),(sl z2 f3 e4),(sl z6 f7 e8),(sl z10 f11 e12),(sl z14 f15 e16),j18] 0) ?_
   refine q (eptr [(J p1.Stack),(J p1.Start),(sl z2 f3 e4),(sl z6 f7 e8),(sl z10 f11 e12),(sl z14 f15 e16),j18] 0) ?_
   refine q (eptr [(J p1.Stack),(J p1.Start),(sl z2 f3 e4),(sl z6 f7 e8),(sl z10 f11 e12),(sl z14 f15 e16),j18] 5) ?_
   refine lE (sl z14 f15 e16) ?_
   refine AOps.p rfl (len_eq h17) ?_
   refine q (J (p1.Accept.length:Int)) ?_
   refine q (bool ((p1.Inner.length:Int) != (p1.Accept.length:Int))) ?_
   refine q (bool ((p1.Inner.length:Int) != (p1.Accept.length:Int))) ?_
   exact rR ⟨rfl,rfl,congrArg bool (or_f hc37),trivial⟩
 rintro _ ⟨tm,os,rfl⟩
 refine nl ?_
 rcases oite h with ⟨hc38,h⟩ | ⟨hc38,h⟩
 ·refine cT hc38 ?_
  refine sr ?_
  refine q (bool false) ?_
  refine nl ?_
  cases h
  exact AW.ret ⟨rfl,_,_,rfl,rfl⟩
 refine cF hc38 ?_
 refine AW.skip ?_
 refine AW.seq ?_
 refine sr ?_
 refine q (J 0) ?_
 refine nl ?_
 refine AW.meet (σ:=Unit) (fun _ tm os=>⟨updL tm [],updL os [],{ s with lo:=s.n }⟩) (fun _=>spec_l02Ok_w0_7_J1=some r) ?_ ?_
 ·rintro _ tm os h
  unfold spec_l02Ok_w0_7_J1 at h
  refine sr ?_
  refine q (bool true) ?_
  refine nl ?_
  cases h
  exact AW.ret ⟨rfl,_,_,rfl,rfl⟩
 intro KJ39
 refine AW.block ?_
 refine AW.res [(0,(eptr [(J p1.Stack),(J p1.Start),(sl z2 f3 e4),(sl z6 f7 e8),(sl z10 f11 e12),(sl z14 f15 e16),j18] 0)),(3,(J (p1.Accept.length:Int))),(4,(J 0))] [] ⟨rfl,rfl,rfl,trivial⟩ trivial ?_
 refine AW.loopF (σ:=Int) (τ:=Unit) (fun t40 _=>True) (fun t40 _ tm os=>⟨updL tm [(0,(eptr [(J p1.Stack),(J p1.Start),(sl z2 f3 e4),(sl z6 f7 e8),(sl z10 f11 e12),(sl z14 f15 e16),j18] 0)),(3,(J (p1.Accept.length:Int))),(4,(J t40))],updL os [],{ s with lo:=s.n }⟩) ?_ (x:=(0)) (y:=()) h trivial
 clear h
 rintro t40 _ tm os - ee1 h hL1 hR1
 unfold spec_l02Ok_w0_7_S1 at h
 refine AW.seq ?_
 refine sr ?_
 refine q (J t40) ?_
 refine q (J (p1.Accept.length:Int)) ?_
 refine q (bool (decide ((t40:Int)<(p1.Accept.length:Int)))) ?_
 refine nl ?_
 rcases oite h with ⟨hc41,h⟩ | ⟨hc41,h⟩
 ·refine cT hc41 ?_
  refine AW.skip ?_
  refine AW.seq ?_
  refine AW.block ?_
  refine AW.seq ?_
  refine sr ?_
  refine q (eptr [(J p1.Stack),(J p1.Start),(sl z2 f3 e4),(sl z6 f7 e8),(sl z10 f11 e12),(sl z14 f15 e16),j18] 0) ?_
  refine q (eptr [(J p1.Stack),(J p1.Start),(sl z2 f3 e4),(sl z6 f7 e8),(sl z10 f11 e12),(sl z14 f15 e16),j18] 0) ?_
  refine q (eptr [(J p1.Stack),(J p1.Start),(sl z2 f3 e4),(sl z6 f7 e8),(sl z10 f11 e12),(sl z14 f15 e16),j18] 3) ?_
  refine lE (sl z6 f7 e8) ?_
  refine q (J t40) ?_
  obtain ⟨x42,h43,h⟩:=obind h
  obtain ⟨v46,h44,h45⟩:=idx_sl h9 h43
  obtain ⟨z47,f48,e49,rfl,h50⟩:=h44
  refine AOps.pureR rfl rfl rfl h45 rfl (rfl:_=(eptr [(sl z47 f48 e49)] 0)) ?_
  refine lE (sl z47 f48 e49) ?_
  refine AOps.p rfl (len_eq h50) ?_
  refine q (bool ((x42.length:Int) != 2)) ?_
  refine q (bool ((x42.length:Int) != 2)) ?_
  obtain ⟨b52,hb,h⟩:=obind h
  refine AOps.split 10 (fun f'=>∃ tm' os',f'=⟨updL tm' [(0,(eptr [(J p1.Stack),(J p1.Start),(sl z2 f3 e4),(sl z6 f7 e8),(sl z10 f11 e12),(sl z14 f15 e16),j18] 0)),(3,(J (p1.Accept.length:Int))),(4,(J t40)),(83,(bool b52))],updL os' [],{ s with lo:=s.n }⟩) ?_ ?_
  ·rcases oite hb with ⟨hc51,hb⟩ | ⟨hc51,hb⟩
   ·refine kn 73 hc51 ?_
    refine sk ?_
    refine sk ?_
    refine sk ?_
    refine sk ?_
    refine sk ?_
    refine sk ?_
    refine sk ?_
    refine sk ?_
    refine sk ?_
    refine q (bool true) ?_
    exact rR ⟨rfl,rfl,rfl,congrArg bool (Option.some.inj hb),trivial⟩
   ·have h:=hb
    refine kn 73 hc51 ?_
    refine q (eptr [(J p1.Stack),(J p1.Start),(sl z2 f3 e4),(sl z6 f7 e8),(sl z10 f11 e12),(sl z14 f15 e16),j18] 0) ?_
    refine q (eptr [(J p1.Stack),(J p1.Start),(sl z2 f3 e4),(sl z6 f7 e8),(sl z10 f11 e12),(sl z14 f15 e16),j18] 0) ?_
    refine q (eptr [(J p1.Stack),(J p1.Start),(sl z2 f3 e4),(sl z6 f7 e8),(sl z10 f11 e12),(sl z14 f15 e16),j18] 4) ?_
    refine lE (sl z10 f11 e12) ?_
    refine q (J t40) ?_
    obtain ⟨x53,h54,h⟩:=obind h
    obtain ⟨v57,h55,h56⟩:=idx_sl h13 h54
    obtain ⟨z58,f59,e60,rfl,h61⟩:=h55
    refine AOps.pureR rfl rfl rfl h56 rfl (rfl:_=(eptr [(sl z58 f59 e60)] 0)) ?_
    refine lE (sl z58 f59 e60) ?_
    refine AOps.p rfl (len_eq h61) ?_
    refine q (bool ((x53.length:Int) != 2)) ?_
    refine q (bool ((x53.length:Int) != 2)) ?_
    exact rR ⟨rfl,rfl,rfl,congrArg bool (Option.some.inj h),trivial⟩
  rintro _ ⟨tm,os,rfl⟩
  refine q (bool b52) ?_
  obtain ⟨b63,hb,h⟩:=obind h
  refine AOps.split 11 (fun f'=>∃ tm' os',f'=⟨updL tm' [(0,(eptr [(J p1.Stack),(J p1.Start),(sl z2 f3 e4),(sl z6 f7 e8),(sl z10 f11 e12),(sl z14 f15 e16),j18] 0)),(3,(J (p1.Accept.length:Int))),(4,(J t40)),(95,(bool b63))],updL os' [],{ s with lo:=s.n }⟩) ?_ ?_
  ·rcases oite hb with ⟨hc62,hb⟩ | ⟨hc62,hb⟩
   ·refine kn 84 hc62 ?_
    refine sk ?_
    refine sk ?_
    refine sk ?_
    refine sk ?_
    refine sk ?_
    refine sk ?_
    refine sk ?_
    refine sk ?_
    refine sk ?_
    refine sk ?_
    refine q (bool true) ?_
    exact rR ⟨rfl,rfl,rfl,congrArg bool (Option.some.inj hb),trivial⟩
   ·have h:=hb
    refine kn 84 hc62 ?_
    refine q (eptr [(J p1.Stack),(J p1.Start),(sl z2 f3 e4),(sl z6 f7 e8),(sl z10 f11 e12),(sl z14 f15 e16),j18] 0) ?_
    refine q (eptr [(J p1.Stack),(J p1.Start),(sl z2 f3 e4),(sl z6 f7 e8),(sl z10 f11 e12),(sl z14 f15 e16),j18] 0) ?_
    refine q (eptr [(J p1.Stack),(J p1.Start),(sl z2 f3 e4),(sl z6 f7 e8),(sl z10 f11 e12),(sl z14 f15 e16),j18] 5) ?_
    refine lE (sl z14 f15 e16) ?_
    refine q (J t40) ?_
    obtain ⟨x64,h65,h⟩:=obind h
    obtain ⟨v68,h66,h67⟩:=idx_sl h17 h65
    obtain ⟨z69,f70,e71,rfl,h72⟩:=h66
    refine AOps.pureR rfl rfl rfl h67 rfl (rfl:_=(eptr [(sl z69 f70 e71)] 0)) ?_
    refine lE (sl z69 f70 e71) ?_
    refine q (J (p1.Accept.length:Int)) ?_
    obtain ⟨y73,h74,h⟩:=obind h
    refine cP (spec_l02List_ok h72 h74 hWF) ?_
    intro _ o76 h75
    cases h75
    refine q (bool (!y73)) ?_
    refine q (bool (!y73)) ?_
    exact rR ⟨rfl,rfl,rfl,congrArg bool (Option.some.inj h),trivial⟩
  rintro _ ⟨tm,os,rfl⟩
  refine nl ?_
  rcases oite h with ⟨hc77,h⟩ | ⟨hc77,h⟩
  ·refine cT hc77 ?_
   refine sr ?_
   refine q (bool false) ?_
   refine nl ?_
   cases h
   have hr:=hR1 _ rfl
   subst hr
   exact AW.ret ⟨rfl,_,_,rfl,rfl⟩
  refine cF hc77 ?_
  refine AW.skip ?_
  refine sr ?_
  refine q (J 0) ?_
  refine nl ?_
  refine AW.meet (σ:=Unit) (fun _ tm os=>⟨updL tm [(0,(eptr [(J p1.Stack),(J p1.Start),(sl z2 f3 e4),(sl z6 f7 e8),(sl z10 f11 e12),(sl z14 f15 e16),j18] 0)),(3,(J (p1.Accept.length:Int))),(4,(J t40))],updL os [],{ s with lo:=s.n }⟩) (fun _=>spec_l02Ok_w0_7_J2 t40=some ee1) ?_ ?_
  ·rintro _ tm os h
   unfold spec_l02Ok_w0_7_J2 at h
   refine AW.inBlock ?_
   refine AW.region ?_
   refine q (J t40) ?_
   refine q (J (IntKind.wrap .i64 (t40+1))) ?_
   refine aq (J (IntKind.wrap .i64 (t40+1))) ?_
   refine nl ?_
   cases h
   exact AW.res [(0,(eptr [(J p1.Stack),(J p1.Start),(sl z2 f3 e4),(sl z6 f7 e8),(sl z10 f11 e12),(sl z14 f15 e16),j18] 0)),(3,(J (p1.Accept.length:Int))),(4,(J (IntKind.wrap .i64 (t40+1))))] [] ⟨rfl,rfl,rfl,trivial⟩ trivial (hL1 _ rfl () _ _ trivial)
  intro KJ78
  refine AW.block ?_
  refine AW.res [(0,(eptr [(J p1.Stack),(J p1.Start),(sl z2 f3 e4),(sl z6 f7 e8),(sl z10 f11 e12),(sl z14 f15 e16),j18] 0)),(3,(J (p1.Accept.length:Int))),(4,(J t40)),(5,(J 0))] [] ⟨rfl,rfl,rfl,rfl,trivial⟩ trivial ?_
  refine AW.loopF (σ:=Int) (τ:=Unit) (fun t79 _=>True) (fun t79 _ tm os=>⟨updL tm [(0,(eptr [(J p1.Stack),(J p1.Start),(sl z2 f3 e4),(sl z6 f7 e8),(sl z10 f11 e12),(sl z14 f15 e16),j18] 0)),(3,(J (p1.Accept.length:Int))),(4,(J t40)),(5,(J t79))],updL os [],{ s with lo:=s.n }⟩) ?_ (x:=(0)) (y:=()) h trivial
  clear h
  rintro t79 _ tm os - ee2 h hL2 hR2
  unfold spec_l02Ok_w0_7_S2 at h
  refine AW.seq ?_
  refine sr ?_
  refine q (J t79) ?_
  refine q (bool (decide ((t79:Int)<2))) ?_
  refine nl ?_
  rcases oite h with ⟨hc80,h⟩ | ⟨hc80,h⟩
  ·refine cT hc80 ?_
   refine AW.skip ?_
   refine AW.seq ?_
   refine AW.block ?_
   refine sr ?_
   refine q (eptr [(J p1.Stack),(J p1.Start),(sl z2 f3 e4),(sl z6 f7 e8),(sl z10 f11 e12),(sl z14 f15 e16),j18] 0) ?_
   refine q (eptr [(J p1.Stack),(J p1.Start),(sl z2 f3 e4),(sl z6 f7 e8),(sl z10 f11 e12),(sl z14 f15 e16),j18] 0) ?_
   refine q (eptr [(J p1.Stack),(J p1.Start),(sl z2 f3 e4),(sl z6 f7 e8),(sl z10 f11 e12),(sl z14 f15 e16),j18] 3) ?_
   refine lE (sl z6 f7 e8) ?_
   refine q (J t40) ?_
   obtain ⟨x81,h82,h⟩:=obind h
   obtain ⟨v85,h83,h84⟩:=idx_sl h9 h82
   obtain ⟨z86,f87,e88,rfl,h89⟩:=h83
   refine AOps.pureR rfl rfl rfl h84 rfl (rfl:_=(eptr [(sl z86 f87 e88)] 0)) ?_
   refine lE (sl z86 f87 e88) ?_
   refine q (J t79) ?_
   obtain ⟨x90,h91,h⟩:=obind h
   obtain ⟨v94,h92,h93⟩:=idx_sl h89 h91
   obtain ⟨_,rfl,h95⟩:=h92
   obtain ⟨_,_,rfl,h96,h97⟩:=Cs_cons h95
   cases h96
   obtain ⟨_,_,rfl,h98,h99⟩:=Cs_cons h97
   cases h98
   cases Cs_nil h99
   refine AOps.pureR rfl rfl rfl h93 rfl (rfl:_=(eptr [(J x90.To),(J x90.Put)] 0)) ?_
   refine q (eptr [(J x90.To),(J x90.Put)] 0) ?_
   refine lE (J x90.To) ?_
   refine q (J (p1.Accept.length:Int)) ?_
   refine q (J (IntKind.wrap .i64 ((p1.Accept.length:Int) - 1))) ?_
   obtain ⟨y100,h101,h⟩:=obind h
   refine AOps.callDP (g:=56) (args:=[(J x90.To),(J 0),(J (IntKind.wrap .i64 ((p1.Accept.length:Int) - 1)))]) (p:=(rB) y100) rfl rfl rfl (spec_l00In_ok  h101 hWF.still) (fun v hv=>Nice.pure (k:=FINK) (p:=(rB) y100) .B _ v hv) ?_
   intro _ o103 h102
   cases h102
   refine q (bool (!y100)) ?_
   refine q (bool (!y100)) ?_
   obtain ⟨b105,hb,h⟩:=obind h
   refine AOps.split 19 (fun f'=>∃ tm' os',f'=⟨updL tm' [(0,(eptr [(J p1.Stack),(J p1.Start),(sl z2 f3 e4),(sl z6 f7 e8),(sl z10 f11 e12),(sl z14 f15 e16),j18] 0)),(3,(J (p1.Accept.length:Int))),(4,(J t40)),(5,(J t79)),(134,(bool b105))],updL os' [],{ s with lo:=s.n }⟩) ?_ ?_
   ·rcases oite hb with ⟨hc104,hb⟩ | ⟨hc104,hb⟩
    ·refine kn 115 hc104 ?_
     refine sk ?_
     refine sk ?_
     refine sk ?_
     refine sk ?_
     refine sk ?_
     refine sk ?_
     refine sk ?_
     refine sk ?_
     refine sk ?_
     refine sk ?_
     refine sk ?_
     refine sk ?_
     refine sk ?_
     refine sk ?_
     refine sk ?_
     refine sk ?_
     refine sk ?_
     refine sk ?_
     refine q (bool true) ?_
     exact rR ⟨rfl,rfl,rfl,rfl,congrArg bool (Option.some.inj hb),trivial⟩
    ·have h:=hb
     refine kn 115 hc104 ?_
     refine q (eptr [(J p1.Stack),(J p1.Start),(sl z2 f3 e4),(sl z6 f7 e8),(sl z10 f11 e12),(sl z14 f15 e16),j18] 0) ?_
     refine q (eptr [(J p1.Stack),(J p1.Start),(sl z2 f3 e4),(sl z6 f7 e8),(sl z10 f11 e12),(sl z14 f15 e16),j18] 0) ?_
     refine q (eptr [(J p1.Stack),(J p1.Start),(sl z2 f3 e4),(sl z6 f7 e8),(sl z10 f11 e12),(sl z14 f15 e16),j18] 3) ?_
     refine lE (sl z6 f7 e8) ?_
     refine q (J t40) ?_
     obtain ⟨x106,h107,h⟩:=obind h
     obtain ⟨v110,h108,h109⟩:=idx_sl h9 h107
     obtain ⟨z111,f112,e113,rfl,h114⟩:=h108
     refine AOps.pureR rfl rfl rfl h109 rfl (rfl:_=(eptr [(sl z111 f112 e113)] 0)) ?_
     refine lE (sl z111 f112 e113) ?_
     refine q (J t79) ?_
     obtain ⟨x115,h116,h⟩:=obind h
     obtain ⟨v119,h117,h118⟩:=idx_sl h114 h116
     obtain ⟨_,rfl,h120⟩:=h117
     obtain ⟨_,_,rfl,h121,h122⟩:=Cs_cons h120
     cases h121
     obtain ⟨_,_,rfl,h123,h124⟩:=Cs_cons h122
     cases h123
     cases Cs_nil h124
     refine AOps.pureR rfl rfl rfl h118 rfl (rfl:_=(eptr [(J x115.To),(J x115.Put)] 0)) ?_
     refine q (eptr [(J x115.To),(J x115.Put)] 1) ?_
     refine lE (J x115.Put) ?_
     refine q (eptr [(J p1.Stack),(J p1.Start),(sl z2 f3 e4),(sl z6 f7 e8),(sl z10 f11 e12),(sl z14 f15 e16),j18] 0) ?_
     refine q (eptr [(J p1.Stack),(J p1.Start),(sl z2 f3 e4),(sl z6 f7 e8),(sl z10 f11 e12),(sl z14 f15 e16),j18] 0) ?_
     refine q (eptr [(J p1.Stack),(J p1.Start),(sl z2 f3 e4),(sl z6 f7 e8),(sl z10 f11 e12),(sl z14 f15 e16),j18] 0) ?_
     refine lE (J p1.Stack) ?_
     refine q (J (IntKind.wrap .i64 (p1.Stack - 1))) ?_
     obtain ⟨y125,h126,h⟩:=obind h
     refine AOps.callDP (g:=56) (args:=[(J x115.Put),(J 0),(J (IntKind.wrap .i64 (p1.Stack - 1)))]) (p:=(rB) y125) rfl rfl rfl (spec_l00In_ok  h126 hWF.still) (fun v hv=>Nice.pure (k:=FINK) (p:=(rB) y125) .B _ v hv) ?_
     intro _ o128 h127
     cases h127
     refine q (bool (!y125)) ?_
     refine q (bool (!y125)) ?_
     exact rR ⟨rfl,rfl,rfl,rfl,congrArg bool (Option.some.inj h),trivial⟩
   rintro _ ⟨tm,os,rfl⟩
   refine q (bool b105) ?_
   obtain ⟨b130,hb,h⟩:=obind h
   refine AOps.split 19 (fun f'=>∃ tm' os',f'=⟨updL tm' [(0,(eptr [(J p1.Stack),(J p1.Start),(sl z2 f3 e4),(sl z6 f7 e8),(sl z10 f11 e12),(sl z14 f15 e16),j18] 0)),(3,(J (p1.Accept.length:Int))),(4,(J t40)),(5,(J t79)),(154,(bool b130))],updL os' [],{ s with lo:=s.n }⟩) ?_ ?_
   ·rcases oite hb with ⟨hc129,hb⟩ | ⟨hc129,hb⟩
    ·refine kn 135 hc129 ?_
     refine sk ?_
     refine sk ?_
     refine sk ?_
     refine sk ?_
     refine sk ?_
     refine sk ?_
     refine sk ?_
     refine sk ?_
     refine sk ?_
     refine sk ?_
     refine sk ?_
     refine sk ?_
     refine sk ?_
     refine sk ?_
     refine sk ?_
     refine sk ?_
     refine sk ?_
     refine sk ?_
     refine q (bool true) ?_
     exact rR ⟨rfl,rfl,rfl,rfl,congrArg bool (Option.some.inj hb),trivial⟩
    ·have h:=hb
     refine kn 135 hc129 ?_
     refine q (eptr [(J p1.Stack),(J p1.Start),(sl z2 f3 e4),(sl z6 f7 e8),(sl z10 f11 e12),(sl z14 f15 e16),j18] 0) ?_
     refine q (eptr [(J p1.Stack),(J p1.Start),(sl z2 f3 e4),(sl z6 f7 e8),(sl z10 f11 e12),(sl z14 f15 e16),j18] 0) ?_
     refine q (eptr [(J p1.Stack),(J p1.Start),(sl z2 f3 e4),(sl z6 f7 e8),(sl z10 f11 e12),(sl z14 f15 e16),j18] 4) ?_
     refine lE (sl z10 f11 e12) ?_
     refine q (J t40) ?_
     obtain ⟨x131,h132,h⟩:=obind h
     obtain ⟨v135,h133,h134⟩:=idx_sl h13 h132
     obtain ⟨z136,f137,e138,rfl,h139⟩:=h133
     refine AOps.pureR rfl rfl rfl h134 rfl (rfl:_=(eptr [(sl z136 f137 e138)] 0)) ?_
     refine lE (sl z136 f137 e138) ?_
     refine q (J t79) ?_
     obtain ⟨x140,h141,h⟩:=obind h
     obtain ⟨v144,h142,h143⟩:=idx_sl h139 h141
     obtain ⟨z145,f146,e147,rfl,h148⟩:=h142
     refine AOps.pureR rfl rfl rfl h143 rfl (rfl:_=(eptr [(sl z145 f146 e147)] 0)) ?_
     refine lE (sl z145 f146 e147) ?_
     refine q (eptr [(J p1.Stack),(J p1.Start),(sl z2 f3 e4),(sl z6 f7 e8),(sl z10 f11 e12),(sl z14 f15 e16),j18] 0) ?_
     refine q (eptr [(J p1.Stack),(J p1.Start),(sl z2 f3 e4),(sl z6 f7 e8),(sl z10 f11 e12),(sl z14 f15 e16),j18] 0) ?_
     refine q (eptr [(J p1.Stack),(J p1.Start),(sl z2 f3 e4),(sl z6 f7 e8),(sl z10 f11 e12),(sl z14 f15 e16),j18] 0) ?_
     refine lE (J p1.Stack) ?_
     refine q (J (IntKind.wrap .i64 (p1.Stack+1))) ?_
     refine q (J (p1.Accept.length:Int)) ?_
     obtain ⟨y149,h150,h⟩:=obind h
     refine AOps.callDP (g:=83) (args:=[(sl z145 f146 e147),(J (IntKind.wrap .i64 (p1.Stack+1))),(J (p1.Accept.length:Int))]) (p:=(rB) y149) rfl rfl rfl (spec_l02List_ok h148 h150 hWF.still) (fun v hv=>Nice.pure (k:=FINK) (p:=(rB) y149) .B _ v hv) ?_
     intro _ o152 h151
     cases h151
     refine q (bool (!y149)) ?_
     refine q (bool (!y149)) ?_
     exact rR ⟨rfl,rfl,rfl,rfl,congrArg bool (Option.some.inj h),trivial⟩
   rintro _ ⟨tm,os,rfl⟩
   refine nl ?_
   rcases oite h with ⟨hc153,h⟩ | ⟨hc153,h⟩
   ·refine cT hc153 ?_
    refine sr ?_
    refine q (bool false) ?_
    refine nl ?_
    cases h
    have hr:=hR2 _ rfl
    cases hr
    have hr:=hR1 _ rfl
    subst hr
    exact AW.ret ⟨rfl,_,_,rfl,rfl⟩
   refine cF hc153 ?_
   refine AW.skip ?_
   refine AW.inBlock ?_
   refine AW.region ?_
   refine q (J t79) ?_
   refine q (J (IntKind.wrap .i64 (t79+1))) ?_
   refine aq (J (IntKind.wrap .i64 (t79+1))) ?_
   refine nl ?_
   cases h
   exact AW.res [(0,(eptr [(J p1.Stack),(J p1.Start),(sl z2 f3 e4),(sl z6 f7 e8),(sl z10 f11 e12),(sl z14 f15 e16),j18] 0)),(3,(J (p1.Accept.length:Int))),(4,(J t40)),(5,(J (IntKind.wrap .i64 (t79+1))))] [] ⟨rfl,rfl,rfl,rfl,trivial⟩ trivial (hL2 _ rfl () _ _ trivial)
  refine cF hc80 ?_
  refine AW.exit rfl ?_
  obtain ⟨r154,hm,hx⟩:=omap h
  clear h
  subst hx
  have hx:=hR2 _ rfl
  rw[hx] at hm
  have h:=hm
  exact AW.res [(0,(eptr [(J p1.Stack),(J p1.Start),(sl z2 f3 e4),(sl z6 f7 e8),(sl z10 f11 e12),(sl z14 f15 e16),j18] 0)),(3,(J (p1.Accept.length:Int))),(4,(J t40))] [] ⟨rfl,rfl,rfl,trivial⟩ trivial (KJ78 () _ _ h)
 refine cF hc41 ?_
 refine AW.exit rfl ?_
 obtain ⟨r155,hm,hx⟩:=omap h
 clear h
 subst hx
 have hx:=hR1 _ rfl
 rw[hx] at hm
 have h:=hm
 exact AW.res [] [] trivial trivial (KJ39 () _ _ h)
theorem spec_l01Symbol_ok {b1 r:Int} {s:St} (h:spec_l01Symbol b1=some r) (hs:WF s):ACall Cf 84 [(int .u8 b1)] s fun v _ s'=>rJ r v∧s'=s:=by
 refine ACall.pure rfl rfl rfl .I ?_
 have hWF:=hs.lo'
 unfold spec_l01Symbol at h
 refine sr ?_
 refine q (J 0) ?_
 refine nl ?_
 refine AW.seq ?_
 refine sr ?_
 refine q (J 0) ?_
 refine nl ?_
 refine AW.meet (σ:=Unit) (fun _ tm os=>⟨updL tm [],updL os [],{ s with lo:=s.n }⟩) (fun _=>spec_l01Symbol_J1=some r) ?_ ?_
 ·rintro _ tm os h
  unfold spec_l01Symbol_J1 at h
  refine sr ?_
  refine q (J (-1)) ?_
  refine nl ?_
  cases h
  exact AW.ret ⟨rfl,_,_,rfl,rfl⟩
 intro KJ2
 refine AW.block ?_
 refine AW.res [(0,(int .u8 b1)),(3,(J 0))] [] ⟨rfl,rfl,trivial⟩ trivial ?_
 refine AW.loopF (σ:=Int) (τ:=Unit) (fun k3 _=>True) (fun k3 _ tm os=>⟨updL tm [(0,(int .u8 b1)),(3,(J k3))],updL os [],{ s with lo:=s.n }⟩) ?_ (x:=(0)) (y:=()) h trivial
 clear h
 rintro k3 _ tm os - ee1 h hL1 hR1
 unfold spec_l01Symbol_S1 at h
 refine AW.seq ?_
 refine sr ?_
 refine q (J k3) ?_
 refine q (bool (decide ((k3:Int)<6))) ?_
 refine nl ?_
 rcases oite h with ⟨hc4,h⟩ | ⟨hc4,h⟩
 ·refine cT hc4 ?_
  refine AW.skip ?_
  refine AW.seq ?_
  refine AW.block ?_
  refine sr ?_
  refine q (J k3) ?_
  obtain ⟨c5,h6,h⟩:=obind h
  refine AOps.pureR rfl rfl rfl (chr_str h6) rfl (rfl:_=(int .u8 c5)) ?_
  refine q (int .u8 b1) ?_
  refine q (bool (c5 == b1)) ?_
  refine nl ?_
  rcases oite h with ⟨hc7,h⟩ | ⟨hc7,h⟩
  ·refine cT hc7 ?_
   refine sr ?_
   refine q (J k3) ?_
   refine aq (J k3) ?_
   refine nl ?_
   cases h
   have hr:=hR1 _ rfl
   subst hr
   exact AW.ret ⟨rfl,_,_,rfl,rfl⟩
  refine cF hc7 ?_
  refine AW.skip ?_
  refine AW.inBlock ?_
  refine AW.region ?_
  refine q (J k3) ?_
  refine q (J (IntKind.wrap .i64 (k3+1))) ?_
  refine aq (J (IntKind.wrap .i64 (k3+1))) ?_
  refine nl ?_
  cases h
  exact AW.res [(0,(int .u8 b1)),(3,(J (IntKind.wrap .i64 (k3+1))))] [] ⟨rfl,rfl,trivial⟩ trivial (hL1 _ rfl () _ _ trivial)
 refine cF hc4 ?_
 refine AW.exit rfl ?_
 obtain ⟨r8,hm,hx⟩:=omap h
 clear h
 subst hx
 have hx:=hR1 _ rfl
 rw[hx] at hm
 have h:=hm
 exact AW.res [] [] trivial trivial (KJ2 () _ _ h)
theorem spec_l01Ok_ok {w1:List UInt8} {s:St} {r:Bool} (h:spec_l01Ok w1=some r) (hs:WF s):ACall Cf 57 [(str w1)] s fun v _ s'=>(rB) r v∧s'=s:=by
 refine ACall.pure rfl rfl rfl .B ?_
 have hWF:=hs.lo'
 unfold spec_l01Ok at h
 refine sr ?_
 refine q (bool false) ?_
 refine nl ?_
 refine AW.seq ?_
 refine sr ?_
 refine q (J 0) ?_
 refine nl ?_
 refine AW.meet (σ:=Unit) (fun _ tm os=>⟨updL tm [(0,(str w1))],updL os [],{ s with lo:=s.n }⟩) (fun _=>spec_l01Ok_J1 w1=some r) ?_ ?_
 ·rintro _ tm os h
  unfold spec_l01Ok_J1 at h
  refine sr ?_
  refine q (str w1) ?_
  refine q (J (w1.length:Int)) ?_
  refine q (bool (decide (((w1.length:Int):Int)≤60))) ?_
  refine aq (bool (decide (((w1.length:Int):Int)≤60))) ?_
  refine nl ?_
  cases h
  exact AW.ret ⟨rfl,_,_,rfl,rfl⟩
 intro KJ2
 refine AW.block ?_
 refine AW.res [(0,(str w1)),(3,(J 0))] [] ⟨rfl,rfl,trivial⟩ trivial ?_
 refine AW.loopF (σ:=Int) (τ:=Unit) (fun i3 _=>True) (fun i3 _ tm os=>⟨updL tm [(0,(str w1)),(3,(J i3))],updL os [],{ s with lo:=s.n }⟩) ?_ (x:=(0)) (y:=()) h trivial
 clear h
 rintro i3 _ tm os - ee1 h hL1 hR1
 unfold spec_l01Ok_S1 at h
 refine AW.seq ?_
 refine sr ?_
 refine q (J i3) ?_
 refine q (str w1) ?_
 refine q (J (w1.length:Int)) ?_
 refine q (bool (decide ((i3:Int)<(w1.length:Int)))) ?_
 refine nl ?_
 rcases oite h with ⟨hc4,h⟩ | ⟨hc4,h⟩
 ·refine cT hc4 ?_
  refine AW.skip ?_
  refine AW.seq ?_
  refine AW.block ?_
  refine sr ?_
  refine q (str w1) ?_
  refine q (J i3) ?_
  obtain ⟨c5,h6,h⟩:=obind h
  refine AOps.pureR rfl rfl rfl (chr_str h6) rfl (rfl:_=(int .u8 c5)) ?_
  obtain ⟨y7,h8,h⟩:=obind h
  refine cP (spec_l01Symbol_ok  h8 hWF) ?_
  intro _ o10 h9
  cases h9
  refine q (bool (decide ((y7:Int)<0))) ?_
  refine nl ?_
  rcases oite h with ⟨hc11,h⟩ | ⟨hc11,h⟩
  ·refine cT hc11 ?_
   refine sr ?_
   refine q (bool false) ?_
   refine nl ?_
   cases h
   have hr:=hR1 _ rfl
   subst hr
   exact AW.ret ⟨rfl,_,_,rfl,rfl⟩
  refine cF hc11 ?_
  refine AW.skip ?_
  refine AW.inBlock ?_
  refine AW.region ?_
  refine q (J i3) ?_
  refine q (J (IntKind.wrap .i64 (i3+1))) ?_
  refine aq (J (IntKind.wrap .i64 (i3+1))) ?_
  refine nl ?_
  cases h
  exact AW.res [(0,(str w1)),(3,(J (IntKind.wrap .i64 (i3+1))))] [] ⟨rfl,rfl,trivial⟩ trivial (hL1 _ rfl () _ _ trivial)
 refine cF hc4 ?_
 refine AW.exit rfl ?_
 obtain ⟨r12,hm,hx⟩:=omap h
 clear h
 subst hx
 have hx:=hR1 _ rfl
 rw[hx] at hm
 have h:=hm
 exact AW.res [(0,(str w1))] [] ⟨rfl,trivial⟩ trivial (KJ2 () _ _ h)
theorem spec_l08Whole_ok {pieces1:List (List UInt8)} {z2:Nat} {f3:Bool} {e4:List AV} {s:St} (h5:LR rS 1 pieces1 z2 e4) {r:(List UInt8)} (h:spec_l08Whole pieces1=some r) (hs:WF s):ACall Cf 58 [(sl z2 f3 e4)] s fun v _ s'=>(rS) r v∧s'=s:=by
 refine ACall.pure rfl rfl rfl .S ?_
 have hWF:=hs.lo'
 unfold spec_l08Whole at h
 refine sr ?_
 refine q (str ([]:List UInt8)) ?_
 refine ns ?_
 refine q (str ([]:List UInt8)) ?_
 refine nl ?_
 refine AW.seq ?_
 refine sr ?_
 refine q (J 0) ?_
 refine nl ?_
 refine AW.meet (σ:=(List UInt8)) (fun out6 tm os=>⟨updL tm [(3,(str out6))],updL os [],{ s with lo:=s.n }⟩) (fun out6=>spec_l08Whole_J1 out6=some r) ?_ ?_
 ·rintro out6 tm os h
  unfold spec_l08Whole_J1 at h
  refine sr ?_
  refine q (str out6) ?_
  refine aq (str out6) ?_
  refine nl ?_
  cases h
  exact AW.ret ⟨rfl,_,_,rfl,rfl⟩
 intro KJ7
 refine AW.block ?_
 refine AW.res [(0,(sl z2 f3 e4)),(3,(str ([]:List UInt8))),(4,(J 0))] [] ⟨rfl,rfl,rfl,trivial⟩ trivial ?_
 refine AW.loopF (σ:=(List UInt8) × Int) (τ:=Unit) (fun (out8,i9) _=>True) (fun (out8,i9) _ tm os=>⟨updL tm [(0,(sl z2 f3 e4)),(3,(str out8)),(4,(J i9))],updL os [],{ s with lo:=s.n }⟩) ?_ (x:=(([]:List UInt8),0)) (y:=()) h trivial
 clear h
 rintro ⟨out8,i9⟩ _ tm os - ee1 h hL1 hR1
 unfold spec_l08Whole_S1 at h
 dsimp only at h
 refine AW.seq ?_
 refine sr ?_
 refine q (J i9) ?_
 refine q (sl z2 f3 e4) ?_
 refine AOps.p rfl (len_eq h5) ?_
 refine q (bool (decide ((i9:Int)<(pieces1.length:Int)))) ?_
 refine nl ?_
 rcases oite h with ⟨hc10,h⟩ | ⟨hc10,h⟩
 ·refine cT hc10 ?_
  refine AW.skip ?_
  refine AW.seq ?_
  refine AW.block ?_
  refine AW.region ?_
  refine q (str out8) ?_
  refine q (sl z2 f3 e4) ?_
  refine q (J i9) ?_
  obtain ⟨x11,h12,h⟩:=obind h
  obtain ⟨v15,h13,h14⟩:=idx_sl h5 h12
  cases h13
  refine AOps.pureR rfl rfl rfl h14 rfl (rfl:_=(eptr [(str x11)] 0)) ?_
  refine lE (str x11) ?_
  obtain ⟨w16,h17,h⟩:=obind h
  refine AOps.pureR rfl rfl rfl (add_str h17) rfl (rfl:_=(str w16)) ?_
  refine aq (str w16) ?_
  refine nl ?_
  refine AW.inBlock ?_
  refine AW.region ?_
  refine q (J i9) ?_
  refine q (J (IntKind.wrap .i64 (i9+1))) ?_
  refine aq (J (IntKind.wrap .i64 (i9+1))) ?_
  refine nl ?_
  cases h
  exact AW.res [(0,(sl z2 f3 e4)),(3,(str w16)),(4,(J (IntKind.wrap .i64 (i9+1))))] [] ⟨rfl,rfl,rfl,trivial⟩ trivial (hL1 _ rfl () _ _ trivial)
 refine cF hc10 ?_
 refine AW.exit rfl ?_
 obtain ⟨r18,hm,hx⟩:=omap h
 clear h
 subst hx
 have hx:=hR1 _ rfl
 rw[hx] at hm
 have h:=hm
 exact AW.res [(3,(str out8))] [] ⟨rfl,trivial⟩ trivial (KJ7 (out8) _ _ h)
theorem spec_l08Ok_ok {v1:Stream} {z2 z6 z10 z14 z18:Nat} {f3 f7 f11 f15 f19:Bool} {e4 e8 e12 e16 e20:List AV} {s:St} (h5:LR rB 1 v1.Checker.Accept z2 e4) (h9:LR (rL rPush 2) 1 v1.Checker.Call z6 e8) (h13:LR (rL (rL rJ 1) 1) 1 v1.Checker.Return z10 e12) (h17:LR (rL rJ 1) 1 v1.Checker.Inner z14 e16) (h21:LR rS 1 v1.Pieces z18 e20) {r:Bool} (h:spec_l08Ok v1=some r) (hs:WF s):ACall Cf 30 [(eptr [(J v1.Checker.Stack),(J v1.Checker.Start),(sl z2 f3 e4),(sl z6 f7 e8),(sl z10 f11 e12),(sl z14 f15 e16),(sl z18 f19 e20)] 0)] s fun v _ s'=>(rB) r v∧s'=s:=by
 refine ACall.pure rfl rfl rfl .B ?_
 have hWF:=hs.lo'
 unfold spec_l08Ok at h
 refine sr ?_
 refine q (bool false) ?_
 refine nl ?_
 refine AW.seq ?_
 refine sr ?_
 refine q (eptr [(J v1.Checker.Stack),(J v1.Checker.Start),(sl z2 f3 e4),(sl z6 f7 e8),(sl z10 f11 e12),(sl z14 f15 e16),(sl z18 f19 e20)] 0) ?_
 refine q (eptr [(J v1.Checker.Stack),(J v1.Checker.Start),(sl z2 f3 e4),(sl z6 f7 e8),(sl z10 f11 e12),(sl z14 f15 e16),(sl z18 f19 e20)] 0) ?_
 refine q (eptr [(J v1.Checker.Stack),(J v1.Checker.Start),(sl z2 f3 e4),(sl z6 f7 e8),(sl z10 f11 e12),(sl z14 f15 e16),(sl z18 f19 e20)] 0) ?_
 obtain ⟨y22,h23,h⟩:=obind h
 refine cP (spec_l02Ok_w0_7_ok h5 h9 h13 h17 h23 hWF) ?_
 intro _ o25 h24
 cases h24
 refine q (bool (!y22)) ?_
 refine q (bool (!y22)) ?_
 obtain ⟨b27,hb,h⟩:=obind h
 refine AOps.split 8 (fun f'=>∃ tm' os',f'=⟨updL tm' [(0,(eptr [(J v1.Checker.Stack),(J v1.Checker.Start),(sl z2 f3 e4),(sl z6 f7 e8),(sl z10 f11 e12),(sl z14 f15 e16),(sl z18 f19 e20)] 0)),(17,(bool b27))],updL os' [],{ s with lo:=s.n }⟩) ?_ ?_
 ·rcases oite hb with ⟨hc26,hb⟩ | ⟨hc26,hb⟩
  ·refine kn 9 hc26 ?_
   refine sk ?_
   refine sk ?_
   refine sk ?_
   refine sk ?_
   refine sk ?_
   refine sk ?_
   refine sk ?_
   refine q (bool true) ?_
   exact rR ⟨rfl,congrArg bool (Option.some.inj hb),trivial⟩
  ·have h:=hb
   refine kn 9 hc26 ?_
   refine q (eptr [(J v1.Checker.Stack),(J v1.Checker.Start),(sl z2 f3 e4),(sl z6 f7 e8),(sl z10 f11 e12),(sl z14 f15 e16),(sl z18 f19 e20)] 0) ?_
   refine q (eptr [(J v1.Checker.Stack),(J v1.Checker.Start),(sl z2 f3 e4),(sl z6 f7 e8),(sl z10 f11 e12),(sl z14 f15 e16),(sl z18 f19 e20)] 0) ?_
   refine q (eptr [(J v1.Checker.Stack),(J v1.Checker.Start),(sl z2 f3 e4),(sl z6 f7 e8),(sl z10 f11 e12),(sl z14 f15 e16),(sl z18 f19 e20)] 6) ?_
   refine lE (sl z18 f19 e20) ?_
   refine AOps.p rfl (len_eq h21) ?_
   obtain ⟨y28,h29,h⟩:=obind h
   refine cP (spec_l00In_ok  h29 hWF) ?_
   intro _ o31 h30
   cases h30
   refine q (bool (!y28)) ?_
   refine q (bool (!y28)) ?_
   exact rR ⟨rfl,congrArg bool (Option.some.inj h),trivial⟩
 rintro _ ⟨tm,os,rfl⟩
 refine nl ?_
 rcases oite h with ⟨hc32,h⟩ | ⟨hc32,h⟩
 ·refine cT hc32 ?_
  refine sr ?_
  refine q (bool false) ?_
  refine nl ?_
  cases h
  exact AW.ret ⟨rfl,_,_,rfl,rfl⟩
 refine cF hc32 ?_
 refine AW.skip ?_
 refine AW.seq ?_
 refine sr ?_
 refine q (J 0) ?_
 refine nl ?_
 refine AW.meet (σ:=Unit) (fun _ tm os=>⟨updL tm [(0,(eptr [(J v1.Checker.Stack),(J v1.Checker.Start),(sl z2 f3 e4),(sl z6 f7 e8),(sl z10 f11 e12),(sl z14 f15 e16),(sl z18 f19 e20)] 0))],updL os [],{ s with lo:=s.n }⟩) (fun _=>spec_l08Ok_J1 v1=some r) ?_ ?_
 ·rintro _ tm os h
  unfold spec_l08Ok_J1 at h
  refine sr ?_
  refine q (eptr [(J v1.Checker.Stack),(J v1.Checker.Start),(sl z2 f3 e4),(sl z6 f7 e8),(sl z10 f11 e12),(sl z14 f15 e16),(sl z18 f19 e20)] 0) ?_
  refine q (eptr [(J v1.Checker.Stack),(J v1.Checker.Start),(sl z2 f3 e4),(sl z6 f7 e8),(sl z10 f11 e12),(sl z14 f15 e16),(sl z18 f19 e20)] 0) ?_
  refine q (eptr [(J v1.Checker.Stack),(J v1.Checker.Start),(sl z2 f3 e4),(sl z6 f7 e8),(sl z10 f11 e12),(sl z14 f15 e16),(sl z18 f19 e20)] 6) ?_
  refine lE (sl z18 f19 e20) ?_
  obtain ⟨y34,h35,h⟩:=obind h
  refine cP (spec_l08Whole_ok h21 h35 hWF) ?_
  intro _ o37 h36
  cases h36
  obtain ⟨y38,h39,h⟩:=obind h
  refine cP (spec_l01Ok_ok  h39 hWF) ?_
  intro _ o41 h40
  cases h40
  refine aq (bool y38) ?_
  refine nl ?_
  cases h
  exact AW.ret ⟨rfl,_,_,rfl,rfl⟩
 intro KJ33
 refine AW.block ?_
 refine AW.res [(0,(eptr [(J v1.Checker.Stack),(J v1.Checker.Start),(sl z2 f3 e4),(sl z6 f7 e8),(sl z10 f11 e12),(sl z14 f15 e16),(sl z18 f19 e20)] 0)),(3,(J 0))] [] ⟨rfl,rfl,trivial⟩ trivial ?_
 refine AW.loopF (σ:=Int) (τ:=Unit) (fun i42 _=>True) (fun i42 _ tm os=>⟨updL tm [(0,(eptr [(J v1.Checker.Stack),(J v1.Checker.Start),(sl z2 f3 e4),(sl z6 f7 e8),(sl z10 f11 e12),(sl z14 f15 e16),(sl z18 f19 e20)] 0)),(3,(J i42))],updL os [],{ s with lo:=s.n }⟩) ?_ (x:=(0)) (y:=()) h trivial
 clear h
 rintro i42 _ tm os - ee1 h hL1 hR1
 unfold spec_l08Ok_S1 at h
 refine AW.seq ?_
 refine sr ?_
 refine q (J i42) ?_
 refine q (eptr [(J v1.Checker.Stack),(J v1.Checker.Start),(sl z2 f3 e4),(sl z6 f7 e8),(sl z10 f11 e12),(sl z14 f15 e16),(sl z18 f19 e20)] 0) ?_
 refine q (eptr [(J v1.Checker.Stack),(J v1.Checker.Start),(sl z2 f3 e4),(sl z6 f7 e8),(sl z10 f11 e12),(sl z14 f15 e16),(sl z18 f19 e20)] 0) ?_
 refine q (eptr [(J v1.Checker.Stack),(J v1.Checker.Start),(sl z2 f3 e4),(sl z6 f7 e8),(sl z10 f11 e12),(sl z14 f15 e16),(sl z18 f19 e20)] 6) ?_
 refine lE (sl z18 f19 e20) ?_
 refine AOps.p rfl (len_eq h21) ?_
 refine q (bool (decide ((i42:Int)<(v1.Pieces.length:Int)))) ?_
 refine nl ?_
 rcases oite h with ⟨hc43,h⟩ | ⟨hc43,h⟩
 ·refine cT hc43 ?_
  refine AW.skip ?_
  refine AW.seq ?_
  refine AW.block ?_
  refine sr ?_
  refine q (eptr [(J v1.Checker.Stack),(J v1.Checker.Start),(sl z2 f3 e4),(sl z6 f7 e8),(sl z10 f11 e12),(sl z14 f15 e16),(sl z18 f19 e20)] 0) ?_
  refine q (eptr [(J v1.Checker.Stack),(J v1.Checker.Start),(sl z2 f3 e4),(sl z6 f7 e8),(sl z10 f11 e12),(sl z14 f15 e16),(sl z18 f19 e20)] 0) ?_
  refine q (eptr [(J v1.Checker.Stack),(J v1.Checker.Start),(sl z2 f3 e4),(sl z6 f7 e8),(sl z10 f11 e12),(sl z14 f15 e16),(sl z18 f19 e20)] 6) ?_
  refine lE (sl z18 f19 e20) ?_
  refine q (J i42) ?_
  obtain ⟨x44,h45,h⟩:=obind h
  obtain ⟨v48,h46,h47⟩:=idx_sl h21 h45
  cases h46
  refine AOps.pureR rfl rfl rfl h47 rfl (rfl:_=(eptr [(str x44)] 0)) ?_
  refine lE (str x44) ?_
  obtain ⟨y49,h50,h⟩:=obind h
  refine cP (spec_l01Ok_ok  h50 hWF) ?_
  intro _ o52 h51
  cases h51
  refine q (bool (!y49)) ?_
  refine nl ?_
  rcases oite h with ⟨hc53,h⟩ | ⟨hc53,h⟩
  ·refine cT hc53 ?_
   refine sr ?_
   refine q (bool false) ?_
   refine nl ?_
   cases h
   have hr:=hR1 _ rfl
   subst hr
   exact AW.ret ⟨rfl,_,_,rfl,rfl⟩
  refine cF hc53 ?_
  refine AW.skip ?_
  refine AW.inBlock ?_
  refine AW.region ?_
  refine q (J i42) ?_
  refine q (J (IntKind.wrap .i64 (i42+1))) ?_
  refine aq (J (IntKind.wrap .i64 (i42+1))) ?_
  refine nl ?_
  cases h
  exact AW.res [(0,(eptr [(J v1.Checker.Stack),(J v1.Checker.Start),(sl z2 f3 e4),(sl z6 f7 e8),(sl z10 f11 e12),(sl z14 f15 e16),(sl z18 f19 e20)] 0)),(3,(J (IntKind.wrap .i64 (i42+1))))] [] ⟨rfl,rfl,trivial⟩ trivial (hL1 _ rfl () _ _ trivial)
 refine cF hc43 ?_
 refine AW.exit rfl ?_
 obtain ⟨r54,hm,hx⟩:=omap h
 clear h
 subst hx
 have hx:=hR1 _ rfl
 rw[hx] at hm
 have h:=hm
 exact AW.res [(0,(eptr [(J v1.Checker.Stack),(J v1.Checker.Start),(sl z2 f3 e4),(sl z6 f7 e8),(sl z10 f11 e12),(sl z14 f15 e16),(sl z18 f19 e20)] 0))] [] ⟨rfl,trivial⟩ trivial (KJ33 () _ _ h)
theorem spec_l08Words_ok {s:St} {r:(List (List UInt8)) × (List Int)} (h:spec_l08Words=some r) (hs:WF s):ACall Cf 59 [] s fun v _ s'=>(fun x=>rT [(rL rS 1) x.1,(rL rJ 1) x.2]) r v∧s'=s:=by
 refine ACall.pure rfl rfl rfl (.T (.cons (.L fun _=>.S) (.cons (.L fun _=>.I) .nil))) ?_
 have hWF:=hs.lo'
 unfold spec_l08Words at h
 refine sr ?_
 refine q (sl 0 true []) ?_
 refine q (sl 0 true []) ?_
 refine ns ?_
 refine AOps.makeR rfl rfl rfl rfl rfl rfl (rfl:_=(sl 1 true [(str ([]:List UInt8)),(str ([115,101,110,100]:List UInt8)),(str ([100,101,108,105,118,101,114]:List UInt8)),(str ([99,111,112,121]:List UInt8)),(str ([100,114,111,112]:List UInt8)),(str ([115,97,118,101]:List UInt8)),(str ([99,114,97,115,104]:List UInt8))])) ?_
 refine AOps.makeR rfl rfl rfl rfl rfl rfl (rfl:_=(sl 1 true [(J 0),(J 2),(J 1),(J 1),(J 1),(J 0),(J 0)])) ?_
 refine aq (sl 1 true [(str ([]:List UInt8)),(str ([115,101,110,100]:List UInt8)),(str ([100,101,108,105,118,101,114]:List UInt8)),(str ([99,111,112,121]:List UInt8)),(str ([100,114,111,112]:List UInt8)),(str ([115,97,118,101]:List UInt8)),(str ([99,114,97,115,104]:List UInt8))]) ?_
 refine aq (sl 1 true [(J 0),(J 2),(J 1),(J 1),(J 1),(J 0),(J 0)]) ?_
 refine nl ?_
 cases h
 exact AW.ret ⟨rfl,_,_,rfl,⟨_,rfl,(.cons ⟨_,_,_,rfl,LR.lit (r:=rS) (sz:=1) (.cons rfl (.cons rfl (.cons rfl (.cons rfl (.cons rfl (.cons rfl (.cons rfl .nil)))))))⟩ (.cons ⟨_,_,_,rfl,LR.lit (r:=rI .i64) (sz:=1) (.cons rfl (.cons rfl (.cons rfl (.cons rfl (.cons rfl (.cons rfl (.cons rfl .nil)))))))⟩ .nil))⟩⟩
theorem spec_l08Deed_ok {d1:Deed} {s:St} {r:Bool} (h:spec_l08Deed d1=some r) (hs:WF s):ACall Cf 31 [(agg [(J d1.Kind),(J d1.A),(J d1.B)])] s fun v _ s'=>(rB) r v∧s'=s:=by
 refine ACall.pure rfl rfl rfl .B ?_
 have hWF:=hs.lo'
 unfold spec_l08Deed at h
 refine sr ?_
 refine AOps.makeR rfl rfl rfl rfl rfl rfl (rfl:_=(eptr [(J d1.Kind),(J d1.A),(J d1.B)] 0)) ?_
 refine q (bool false) ?_
 refine nl ?_
 refine AW.seq ?_
 refine sr ?_
 refine q (eptr [(J d1.Kind),(J d1.A),(J d1.B)] 0) ?_
 refine lE (J d1.Kind) ?_
 obtain ⟨y2,h3,h⟩:=obind h
 refine cP (spec_l00In_ok  h3 hWF) ?_
 intro _ o5 h4
 cases h4
 refine q (bool (!y2)) ?_
 refine q (bool (!y2)) ?_
 obtain ⟨b7,hb,h⟩:=obind h
 refine AOps.split 5 (fun f'=>∃ tm' os',f'=⟨updL tm' [(1,(eptr [(J d1.Kind),(J d1.A),(J d1.B)] 0)),(14,(bool b7))],updL os' [],{ s with lo:=s.n }⟩) ?_ ?_
 ·rcases oite hb with ⟨hc6,hb⟩ | ⟨hc6,hb⟩
  ·refine kn 9 hc6 ?_
   refine sk ?_
   refine sk ?_
   refine sk ?_
   refine sk ?_
   refine q (bool true) ?_
   exact rR ⟨rfl,congrArg bool (Option.some.inj hb),trivial⟩
  ·have h:=hb
   refine kn 9 hc6 ?_
   refine q (eptr [(J d1.Kind),(J d1.A),(J d1.B)] 1) ?_
   refine lE (J d1.A) ?_
   obtain ⟨y8,h9,h⟩:=obind h
   refine cP (spec_l00In_ok  h9 hWF) ?_
   intro _ o11 h10
   cases h10
   refine q (bool (!y8)) ?_
   refine q (bool (!y8)) ?_
   exact rR ⟨rfl,congrArg bool (Option.some.inj h),trivial⟩
 rintro _ ⟨tm,os,rfl⟩
 refine q (bool b7) ?_
 obtain ⟨b13,hb,h⟩:=obind h
 refine AOps.split 5 (fun f'=>∃ tm' os',f'=⟨updL tm' [(1,(eptr [(J d1.Kind),(J d1.A),(J d1.B)] 0)),(20,(bool b13))],updL os' [],{ s with lo:=s.n }⟩) ?_ ?_
 ·rcases oite hb with ⟨hc12,hb⟩ | ⟨hc12,hb⟩
  ·refine kn 15 hc12 ?_
   refine sk ?_
   refine sk ?_
   refine sk ?_
   refine sk ?_
   refine q (bool true) ?_
   exact rR ⟨rfl,congrArg bool (Option.some.inj hb),trivial⟩
  ·have h:=hb
   refine kn 15 hc12 ?_
   refine q (eptr [(J d1.Kind),(J d1.A),(J d1.B)] 2) ?_
   refine lE (J d1.B) ?_
   obtain ⟨y14,h15,h⟩:=obind h
   refine cP (spec_l00In_ok  h15 hWF) ?_
   intro _ o17 h16
   cases h16
   refine q (bool (!y14)) ?_
   refine q (bool (!y14)) ?_
   exact rR ⟨rfl,congrArg bool (Option.some.inj h),trivial⟩
 rintro _ ⟨tm,os,rfl⟩
 refine nl ?_
 rcases oite h with ⟨hc18,h⟩ | ⟨hc18,h⟩
 ·refine cT hc18 ?_
  refine sr ?_
  refine q (bool false) ?_
  refine nl ?_
  cases h
  exact AW.ret ⟨rfl,_,_,rfl,rfl⟩
 refine cF hc18 ?_
 refine AW.skip ?_
 refine sr ?_
 obtain ⟨y19,h20,h⟩:=obind h
 refine cP (spec_l08Words_ok  h20 hWF) ?_
 intro _ o35 h21
 obtain ⟨_,rfl,h22⟩:=h21
 obtain ⟨_,_,rfl,h23,h24⟩:=Cs_cons h22
 obtain ⟨z25,f26,e27,rfl,h28⟩:=h23
 obtain ⟨_,_,rfl,h29,h30⟩:=Cs_cons h24
 obtain ⟨z31,f32,e33,rfl,h34⟩:=h29
 cases Cs_nil h30
 refine q (AV.tup [(sl z25 f26 e27),(sl z31 f32 e33)]) ?_
 refine q (sl z25 f26 e27) ?_
 refine q (sl z31 f32 e33) ?_
 refine aq (sl z25 f26 e27) ?_
 refine aq (sl z31 f32 e33) ?_
 refine ns ?_
 refine q (sl z31 f32 e33) ?_
 refine q (eptr [(J d1.Kind),(J d1.A),(J d1.B)] 0) ?_
 refine lE (J d1.Kind) ?_
 obtain ⟨x36,h37,h⟩:=obind h
 obtain ⟨v40,h38,h39⟩:=idx_sl h34 h37
 cases h38
 refine AOps.pureR rfl rfl rfl h39 rfl (rfl:_=(eptr [(J x36)] 0)) ?_
 refine lE (J x36) ?_
 refine q (bool (decide ((x36:Int)>0))) ?_
 refine q (bool (decide ((x36:Int)>0))) ?_
 refine AOps.split 4 (fun f'=>∃ tm' os',f'=⟨updL tm' [(1,(eptr [(J d1.Kind),(J d1.A),(J d1.B)] 0)),(4,(sl z31 f32 e33)),(35,(bool ((decide ((x36:Int)>0))||(d1.A == 0))))],updL os' [],{ s with lo:=s.n }⟩) ?_ ?_
 ·rcases Bool.eq_false_or_eq_true (decide ((x36:Int)>0)) with hc41 | hc41
  ·refine kn 31 hc41 ?_
   refine sk ?_
   refine sk ?_
   refine sk ?_
   refine q (bool true) ?_
   exact rR ⟨rfl,rfl,congrArg bool (or_t hc41),trivial⟩
  ·refine kn 31 hc41 ?_
   refine q (eptr [(J d1.Kind),(J d1.A),(J d1.B)] 1) ?_
   refine lE (J d1.A) ?_
   refine q (bool (d1.A == 0)) ?_
   refine q (bool (d1.A == 0)) ?_
   exact rR ⟨rfl,rfl,congrArg bool (or_f hc41),trivial⟩
 rintro _ ⟨tm,os,rfl⟩
 refine q (bool ((decide ((x36:Int)>0))||(d1.A == 0))) ?_
 obtain ⟨b43,hb,h⟩:=obind h
 refine AOps.split 12 (fun f'=>∃ tm' os',f'=⟨updL tm' [(48,(bool b43))],updL os' [],{ s with lo:=s.n }⟩) ?_ ?_
 ·rcases oite hb with ⟨hc42,hb⟩ | ⟨hc42,hb⟩
  ·have h:=hb
   refine kn 36 hc42 ?_
   refine q (sl z31 f32 e33) ?_
   refine q (eptr [(J d1.Kind),(J d1.A),(J d1.B)] 0) ?_
   refine lE (J d1.Kind) ?_
   obtain ⟨x44,h45,h⟩:=obind h
   obtain ⟨v48,h46,h47⟩:=idx_sl h34 h45
   cases h46
   refine AOps.pureR rfl rfl rfl h47 rfl (rfl:_=(eptr [(J x44)] 0)) ?_
   refine lE (J x44) ?_
   refine q (bool (decide ((x44:Int)>1))) ?_
   refine q (bool (decide ((x44:Int)>1))) ?_
   refine AOps.split 4 (fun f'=>∃ tm' os',f'=⟨updL tm' [(36,(bool true)),(47,(bool ((decide ((x44:Int)>1))||(d1.B == 0))))],updL os' [],{ s with lo:=s.n }⟩) ?_ ?_
   ·rcases Bool.eq_false_or_eq_true (decide ((x44:Int)>1)) with hc49 | hc49
    ·refine kn 43 hc49 ?_
     refine sk ?_
     refine sk ?_
     refine sk ?_
     refine q (bool true) ?_
     exact rR ⟨rfl,congrArg bool (or_t hc49),trivial⟩
    ·refine kn 43 hc49 ?_
     refine q (eptr [(J d1.Kind),(J d1.A),(J d1.B)] 2) ?_
     refine lE (J d1.B) ?_
     refine q (bool (d1.B == 0)) ?_
     refine q (bool (d1.B == 0)) ?_
     exact rR ⟨rfl,congrArg bool (or_f hc49),trivial⟩
   rintro _ ⟨tm,os,rfl⟩
   refine q (bool ((decide ((x44:Int)>1))||(d1.B == 0))) ?_
   exact rR ⟨congrArg bool (Option.some.inj h),trivial⟩
  ·refine kn 36 hc42 ?_
   refine sk ?_
   refine sk ?_
   refine sk ?_
   refine sk ?_
   refine sk ?_
   refine sk ?_
   refine sk ?_
   refine sk ?_
   refine sk ?_
   refine sk ?_
   refine sk ?_
   refine q (bool false) ?_
   exact rR ⟨congrArg bool (Option.some.inj hb),trivial⟩
 rintro _ ⟨tm,os,rfl⟩
 refine aq (bool b43) ?_
 refine nl ?_
 cases h
 exact AW.ret ⟨rfl,_,_,rfl,rfl⟩
theorem spec_l08Asked_ok {v1:Stream} {deeds22:List Deed} {z2 z6 z10 z14 z18 z23:Nat} {f3 f7 f11 f15 f19 f24:Bool} {e4 e8 e12 e16 e20 e25:List AV} {s:St} (h5:LR rB 1 v1.Checker.Accept z2 e4) (h9:LR (rL rPush 2) 1 v1.Checker.Call z6 e8) (h13:LR (rL (rL rJ 1) 1) 1 v1.Checker.Return z10 e12) (h17:LR (rL rJ 1) 1 v1.Checker.Inner z14 e16) (h21:LR rS 1 v1.Pieces z18 e20) (h26:LR rDeed 3 deeds22 z23 e25) {r:Int} (h:spec_l08Asked v1 deeds22=some r) (hs:WF s):ACall Cf 14 [(eptr [(J v1.Checker.Stack),(J v1.Checker.Start),(sl z2 f3 e4),(sl z6 f7 e8),(sl z10 f11 e12),(sl z14 f15 e16),(sl z18 f19 e20)] 0),(sl z23 f24 e25)] s fun v _ s'=>rJ r v∧s'=s:=by
 refine ACall.pure rfl rfl rfl .I ?_
 have hWF:=hs.lo'
 unfold spec_l08Asked at h
 refine sr ?_
 refine q (J 0) ?_
 refine nl ?_
 refine AW.seq ?_
 refine sr ?_
 refine q (eptr [(J v1.Checker.Stack),(J v1.Checker.Start),(sl z2 f3 e4),(sl z6 f7 e8),(sl z10 f11 e12),(sl z14 f15 e16),(sl z18 f19 e20)] 0) ?_
 obtain ⟨y27,h28,h⟩:=obind h
 refine cP (spec_l08Ok_ok h5 h9 h13 h17 h21 h28 hWF) ?_
 intro _ o30 h29
 cases h29
 refine q (bool (!y27)) ?_
 refine nl ?_
 rcases oite h with ⟨hc31,h⟩ | ⟨hc31,h⟩
 ·refine cT hc31 ?_
  refine sr ?_
  refine q (J 1) ?_
  refine nl ?_
  cases h
  exact AW.ret ⟨rfl,_,_,rfl,rfl⟩
 refine cF hc31 ?_
 refine AW.skip ?_
 refine AW.seq ?_
 refine sr ?_
 refine q (J 0) ?_
 refine nl ?_
 refine AW.meet (σ:=Unit) (fun _ tm os=>⟨updL tm [(1,(sl z23 f24 e25))],updL os [],{ s with lo:=s.n }⟩) (fun _=>spec_l08Asked_J1 deeds22=some r) ?_ ?_
 ·rintro _ tm os h
  unfold spec_l08Asked_J1 at h
  refine AW.seq ?_
  refine sr ?_
  refine q (sl z23 f24 e25) ?_
  refine AOps.p rfl (len_eq h26) ?_
  refine q (bool (decide (((deeds22.length:Int):Int)>300))) ?_
  refine nl ?_
  rcases oite h with ⟨hc33,h⟩ | ⟨hc33,h⟩
  ·refine cT hc33 ?_
   refine sr ?_
   refine q (J 2) ?_
   refine nl ?_
   cases h
   exact AW.ret ⟨rfl,_,_,rfl,rfl⟩
  refine cF hc33 ?_
  refine AW.skip ?_
  refine sr ?_
  refine q (J 0) ?_
  refine nl ?_
  cases h
  exact AW.ret ⟨rfl,_,_,rfl,rfl⟩
 intro KJ32
 refine AW.block ?_
 refine AW.res [(1,(sl z23 f24 e25)),(5,(J 0))] [] ⟨rfl,rfl,trivial⟩ trivial ?_
 refine AW.loopF (σ:=Int) (τ:=Unit) (fun i34 _=>True) (fun i34 _ tm os=>⟨updL tm [(1,(sl z23 f24 e25)),(5,(J i34))],updL os [],{ s with lo:=s.n }⟩) ?_ (x:=(0)) (y:=()) h trivial
 clear h
 rintro i34 _ tm os - ee1 h hL1 hR1
 unfold spec_l08Asked_S1 at h
 refine AW.seq ?_
 refine sr ?_
 refine q (J i34) ?_
 refine q (sl z23 f24 e25) ?_
 refine AOps.p rfl (len_eq h26) ?_
 refine q (bool (decide ((i34:Int)<(deeds22.length:Int)))) ?_
 refine nl ?_
 rcases oite h with ⟨hc35,h⟩ | ⟨hc35,h⟩
 ·refine cT hc35 ?_
  refine AW.skip ?_
  refine AW.seq ?_
  refine AW.block ?_
  refine sr ?_
  refine q (sl z23 f24 e25) ?_
  refine q (J i34) ?_
  obtain ⟨x36,h37,h⟩:=obind h
  obtain ⟨v40,h38,h39⟩:=idx_sl h26 h37
  obtain ⟨_,rfl,h41⟩:=h38
  obtain ⟨_,_,rfl,h42,h43⟩:=Cs_cons h41
  cases h42
  obtain ⟨_,_,rfl,h44,h45⟩:=Cs_cons h43
  cases h44
  obtain ⟨_,_,rfl,h46,h47⟩:=Cs_cons h45
  cases h46
  cases Cs_nil h47
  refine AOps.pureR rfl rfl rfl h39 rfl (rfl:_=(eptr [(J x36.Kind),(J x36.A),(J x36.B)] 0)) ?_
  refine lE (agg [(J x36.Kind),(J x36.A),(J x36.B)]) ?_
  obtain ⟨y48,h49,h⟩:=obind h
  refine cP (spec_l08Deed_ok  h49 hWF) ?_
  intro _ o51 h50
  cases h50
  refine q (bool (!y48)) ?_
  refine nl ?_
  rcases oite h with ⟨hc52,h⟩ | ⟨hc52,h⟩
  ·refine cT hc52 ?_
   refine sr ?_
   refine q (J 1) ?_
   refine nl ?_
   cases h
   have hr:=hR1 _ rfl
   subst hr
   exact AW.ret ⟨rfl,_,_,rfl,rfl⟩
  refine cF hc52 ?_
  refine AW.skip ?_
  refine AW.inBlock ?_
  refine AW.region ?_
  refine q (J i34) ?_
  refine q (J (IntKind.wrap .i64 (i34+1))) ?_
  refine aq (J (IntKind.wrap .i64 (i34+1))) ?_
  refine nl ?_
  cases h
  exact AW.res [(1,(sl z23 f24 e25)),(5,(J (IntKind.wrap .i64 (i34+1))))] [] ⟨rfl,rfl,trivial⟩ trivial (hL1 _ rfl () _ _ trivial)
 refine cF hc35 ?_
 refine AW.exit rfl ?_
 obtain ⟨r53,hm,hx⟩:=omap h
 clear h
 subst hx
 have hx:=hR1 _ rfl
 rw[hx] at hm
 have h:=hm
 exact AW.res [(1,(sl z23 f24 e25))] [] ⟨rfl,trivial⟩ trivial (KJ32 () _ _ h)
theorem spec_l08Begin_K0_ok {v1:Stream} {z2 z6 z10 z14 z18:Nat} {f3 f7 f11 f15 f19:Bool} {e4 e8 e12 e16 e20:List AV} {s:St} (h5:LR rB 1 v1.Checker.Accept z2 e4) (h9:LR (rL rPush 2) 1 v1.Checker.Call z6 e8) (h13:LR (rL (rL rJ 1) 1) 1 v1.Checker.Return z10 e12) (h17:LR (rL rJ 1) 1 v1.Checker.Inner z14 e16) (h21:LR rS 1 v1.Pieces z18 e20) {r:L08Run} (h:spec_l08Begin_K0 v1=some r) (hs:WF s):ACall Cf 32 [(eptr [(J v1.Checker.Stack),(J v1.Checker.Start),(sl z2 f3 e4),(sl z6 f7 e8),(sl z10 f11 e12),(sl z14 f15 e16),(sl z18 f19 e20)] 0)] s (fun v _ s'=>∃ (b1':Nat) (w2':Nat→Bool) (z3':Nat) (f4':Bool) (e5':List AV) (z7':Nat) (f8':Bool) (e9':List AV) (z11':Nat) (f12':Bool) (e13':List AV) (z15':Nat) (f16':Bool) (e17':List AV) (z19':Nat) (f20':Bool) (e21':List AV) (Ls':List (List BX)),v=(ptr b1' 0)∧HS [] true s s' (([⟨some b1',[(eptr [(J v1.Checker.Stack),(J v1.Checker.Start),(sl z2 f3 e4),(sl z6 f7 e8),(sl z10 f11 e12),(sl z14 f15 e16),(sl z18 f19 e20)] 0),(J r.n.Desk_.Read),(J r.n.Desk_.State),(sl z3' f4' e5'),(sl z7' f8' e9'),(J r.n.Saved.Read),(J r.n.Saved.State),(sl z11' f12' e13'),(sl z15' f16' e17'),(sl z19' f20' e21')],w2'⟩]:List BX)++Ls'.flatten)∧AllG [] Ls'∧LR rJ 1 r.n.Desk_.Stack z3' e5'∧LR rJ 1 r.n.Desk_.Waiting z7' e9'∧LR rJ 1 r.n.Saved.Stack z11' e13'∧LR rJ 1 r.n.Saved.Waiting z15' e17'∧LR rParcel 2 r.n.Wire z19' e21'∧(f20'=true∨w2' 9=true)) true:=by
 refine ACall.keepR rfl rfl rfl ?_
 have hH0:=HS.g0 (HS.initK hs)
 have hG0:=AllG.nil
 have hl:LoOK [] true s:=LoOK.nil
 unfold spec_l08Begin_K0 at h
 refine sr ?_
 refine q AV.nilp ?_
 refine ns ?_
 refine q (eptr [(J v1.Checker.Stack),(J v1.Checker.Start),(sl z2 f3 e4),(sl z6 f7 e8),(sl z10 f11 e12),(sl z14 f15 e16),(sl z18 f19 e20)] 0) ?_
 refine q (eptr [(J v1.Checker.Stack),(J v1.Checker.Start),(sl z2 f3 e4),(sl z6 f7 e8),(sl z10 f11 e12),(sl z14 f15 e16),(sl z18 f19 e20)] 0) ?_
 refine q (eptr [(J v1.Checker.Stack),(J v1.Checker.Start),(sl z2 f3 e4),(sl z6 f7 e8),(sl z10 f11 e12),(sl z14 f15 e16),(sl z18 f19 e20)] 0) ?_
 refine q (eptr [(J v1.Checker.Stack),(J v1.Checker.Start),(sl z2 f3 e4),(sl z6 f7 e8),(sl z10 f11 e12),(sl z14 f15 e16),(sl z18 f19 e20)] 1) ?_
 refine lE (J v1.Checker.Start) ?_
 refine q (agg [(J 0),(J v1.Checker.Start),(sl 0 true []),(sl 0 true [])]) ?_
 refine AOps.allocP rfl rfl rfl rfl ⟨rfl,rfl⟩ rfl ?_
 refine AOps.stP (v:=(agg [(J 0),(J v1.Checker.Start),(sl 0 true []),(sl 0 true [])])) rfl rfl rfl rfl rfl rfl rfl rfl rfl (lt_b rfl) rfl ?_
 refine ns ?_
 refine q (eptr [(J v1.Checker.Stack),(J v1.Checker.Start),(sl z2 f3 e4),(sl z6 f7 e8),(sl z10 f11 e12),(sl z14 f15 e16),(sl z18 f19 e20)] 0) ?_
 refine lE (agg [(J 0),(J v1.Checker.Start),(sl 0 true []),(sl 0 true [])]) ?_
 refine lE (agg [(J 0),(J v1.Checker.Start),(sl 0 true []),(sl 0 true [])]) ?_
 refine q (agg [(J 0),(J v1.Checker.Start),(sl 0 true []),(sl 0 true []),(J 0),(J v1.Checker.Start),(sl 0 true []),(sl 0 true []),(sl 0 true [])]) ?_
 refine q (agg [(eptr [(J v1.Checker.Stack),(J v1.Checker.Start),(sl z2 f3 e4),(sl z6 f7 e8),(sl z10 f11 e12),(sl z14 f15 e16),(sl z18 f19 e20)] 0),(J 0),(J v1.Checker.Start),(sl 0 true []),(sl 0 true []),(J 0),(J v1.Checker.Start),(sl 0 true []),(sl 0 true []),(sl 0 true [])]) ?_
 refine AOps.box1 (v:=(agg [(eptr [(J v1.Checker.Stack),(J v1.Checker.Start),(sl z2 f3 e4),(sl z6 f7 e8),(sl z10 f11 e12),(sl z14 f15 e16),(sl z18 f19 e20)] 0),(J 0),(J v1.Checker.Start),(sl 0 true []),(sl 0 true []),(J 0),(J v1.Checker.Start),(sl 0 true []),(sl 0 true []),(sl 0 true [])])) hH0 rfl rfl rfl rfl rfl rfl rfl rfl ?_
 intro b22 s23 hH24
 refine aq (ptr b22 0) ?_
 refine nl ?_
 cases h
 exact AW.ret ⟨_,_,rfl,⟨b22,(fun _=>false),0,true,[],0,true,[],0,true,[],0,true,[],0,true,[],([]:List (List BX)),rfl,hH24,hG0,(⟨.inr ⟨rfl,rfl⟩,.nil⟩),(⟨.inr ⟨rfl,rfl⟩,.nil⟩),(⟨.inr ⟨rfl,rfl⟩,.nil⟩),(⟨.inr ⟨rfl,rfl⟩,.nil⟩),(⟨.inr ⟨rfl,rfl⟩,.nil⟩),(Or.inl rfl)⟩⟩
theorem spec_l00Own_okO {list1:List Int} {z2:Nat} {f3:Bool} {e4:List AV} {s:St} (h5:LR rJ 1 list1 z2 e4) {r:(List Int)} (h:spec_l00Own list1=some r) (hs:WF s):ACall Cf 85 [(sl z2 f3 e4)] s fun v o s'=>((rL rJ 1) r v∧s'=s)∧o=true:=by
 refine ACall.pureO rfl rfl rfl (.L fun _=>.I) ?_
 have hWF:=hs.lo'
 unfold spec_l00Own at h
 refine sr ?_
 refine q (sl 0 true []) ?_
 refine ns ?_
 refine AOps.makeR rfl rfl rfl rfl rfl rfl (rfl:_=(sl 1 true [])) ?_
 refine q (sl z2 f3 e4) ?_
 obtain ⟨l6,h7,h⟩:=obind h
 obtain ⟨h8,h9⟩:=app_LR (show LR rJ 1 (([]:List Int):List Int) 1 [] from ⟨.inl rfl,.nil⟩) h5 h7
 refine AOps.appL (z:=1) (f:=true) (e:=[]) (z':=z2) (f':=f3) (e':=e4) rfl rfl rfl rfl rfl rfl rfl (appSrc_sl (LR.z h5) rfl) (LR.z (show LR rJ 1 (([]:List Int):List Int) 1 [] from ⟨.inl rfl,.nil⟩)) ⟨by decide,by decide,rfl,rfl⟩ rfl rfl h9 (Or.inl rfl) ?_
 refine aq (sl 1 false ([]++e4)) ?_
 refine nl ?_
 cases h
 exact AW.ret ⟨rfl,_,_,rfl,⟨_,_,_,rfl,h8⟩,orT (Or.inr rfl)⟩
theorem spec_l00Own_ok {list1:List Int} {z2:Nat} {f3:Bool} {e4:List AV} {s:St} (h5:LR rJ 1 list1 z2 e4) {r:(List Int)} (h:spec_l00Own list1=some r) (hs:WF s):ACall Cf 85 [(sl z2 f3 e4)] s fun v _ s'=>(rL rJ 1) r v∧s'=s:=(spec_l00Own_okO h5 h hs).mono fun _ _ _ h=>h.1
theorem spec_l08Copy_F1_ok {d14:Stream} {d125 d126 d137 d138:Int} {d127 d132 d139 d144:List Int} {d149:List Parcel} {b2 z5 z9 z13 z17 z21 z28 z33 z40 z45 z50:Nat} {w3:Nat→Bool} {f6 f10 f14 f18 f22 f29 f34 f41 f46 f51:Bool} {e7 e11 e15 e19 e23 e30 e35 e42 e47 e52:List AV} {s:St} (h8:LR rB 1 d14.Checker.Accept z5 e7) (h12:LR (rL rPush 2) 1 d14.Checker.Call z9 e11) (h16:LR (rL (rL rJ 1) 1) 1 d14.Checker.Return z13 e15) (h20:LR (rL rJ 1) 1 d14.Checker.Inner z17 e19) (h24:LR rS 1 d14.Pieces z21 e23) (h31:LR rJ 1 d127 z28 e30) (h36:LR rJ 1 d132 z33 e35) (h43:LR rJ 1 d139 z40 e42) (h48:LR rJ 1 d144 z45 e47) (h53:LR rParcel 2 d149 z50 e52) (h54:f51=true∨w3 9=true) (hE:HS [b2] false s { s with lo:=s.n } [⟨some b2,[(eptr [(J d14.Checker.Stack),(J d14.Checker.Start),(sl z5 f6 e7),(sl z9 f10 e11),(sl z13 f14 e15),(sl z17 f18 e19),(sl z21 f22 e23)] 0),(J d125),(J d126),(sl z28 f29 e30),(sl z33 f34 e35),(J d137),(J d138),(sl z40 f41 e42),(sl z45 f46 e47),(sl z50 f51 e52)],w3⟩]) {r:Desk} (h:spec_l08Copy_F1 d14 d125 d126 d127 d132 d137 d138 d139 d144 d149=some r) (hs:WF s):ACall Cf 60 [(ptr b2 1)] s fun v _ s'=>(rDesk) r v∧∃ (w0':Nat→Bool),Fx [b2] s s' [⟨some b2,[(eptr [(J d14.Checker.Stack),(J d14.Checker.Start),(sl z5 f6 e7),(sl z9 f10 e11),(sl z13 f14 e15),(sl z17 f18 e19),(sl z21 f22 e23)] 0),(J d125),(J d126),(sl z28 f29 e30),(sl z33 f34 e35),(J d137),(J d138),(sl z40 f41 e42),(sl z45 f46 e47),(sl z50 f51 e52)],w0'⟩]∧(f51=true∨w0' 9=true):=by
 refine ACall.foreign rfl rfl rfl ?_
 unfold spec_l08Copy_F1 at h
 refine sr ?_
 refine AOps.allocP rfl rfl rfl rfl ⟨rfl,rfl⟩ rfl ?_
 refine ns ?_
 refine q (ptr b2 1) ?_
 refine q (ptr b2 1) ?_
 refine q (ptr b2 1) ?_
 refine AOps.ldB (i:=0) (v:=(J d125)) hE rfl rfl rfl rfl rfl rfl rfl rfl rfl ?_
 refine q (ptr b2 1) ?_
 refine q (ptr b2 1) ?_
 refine q (ptr b2 2) ?_
 refine AOps.ldB (i:=0) (v:=(J d126)) hE rfl rfl rfl rfl rfl rfl rfl rfl rfl ?_
 refine q (ptr b2 1) ?_
 refine q (ptr b2 1) ?_
 refine q (ptr b2 3) ?_
 refine AOps.ldB (i:=0) (v:=(sl z28 f29 e30)) hE rfl rfl rfl rfl rfl rfl rfl rfl rfl ?_
 obtain ⟨y55,h56,h⟩:=obind h
 refine AOps.callDPO (g:=85) (args:=[(sl z28 f29 e30)]) (p:=(rL rJ 1) y55) rfl rfl rfl (spec_l00Own_okO h31 h56 ((HS.wf' hE).still)) (fun v hv=>Nice.pure (k:=FINK) (p:=(rL rJ 1) y55) (.L fun _=>.I) _ v hv) ?_
 intro _ h57
 obtain ⟨z58,f59,e60,rfl,h61⟩:=h57
 refine q (ptr b2 1) ?_
 refine q (ptr b2 1) ?_
 refine q (ptr b2 4) ?_
 refine AOps.ldB (i:=0) (v:=(sl z33 f34 e35)) hE rfl rfl rfl rfl rfl rfl rfl rfl rfl ?_
 obtain ⟨y63,h64,h⟩:=obind h
 refine AOps.callDPO (g:=85) (args:=[(sl z33 f34 e35)]) (p:=(rL rJ 1) y63) rfl rfl rfl (spec_l00Own_okO h36 h64 ((HS.wf' hE).still)) (fun v hv=>Nice.pure (k:=FINK) (p:=(rL rJ 1) y63) (.L fun _=>.I) _ v hv) ?_
 intro _ h65
 obtain ⟨z66,f67,e68,rfl,h69⟩:=h65
 refine q (agg [(J d125),(J d126),(sl z58 f59 e60),(sl z66 f67 e68)]) ?_
 refine AOps.stP (v:=(agg [(J d125),(J d126),(sl z58 f59 e60),(sl z66 f67 e68)])) rfl rfl rfl rfl rfl rfl rfl rfl rfl (lt_b rfl) rfl ?_
 refine nl ?_
 obtain rfl:=Option.some.inj h
 exact AW.ret ⟨_,_,rfl,finF (p:=(rDesk) (⟨d125,d126,y55,y63⟩:Desk)) (Fin.of (p:=(rDesk) (⟨d125,d126,y55,y63⟩:Desk)) (.A (.cons .I (.cons .I (.cons (.L fun _=>.I) (.cons (.L fun _=>.I) .nil))))) (⟨_,rfl,(.cons rfl (.cons rfl (.cons ⟨_,_,_,rfl,h61⟩ (.cons ⟨_,_,_,rfl,h69⟩ .nil))))⟩)) ⟨w3,HS.leaveP hE [0] rfl,h54⟩⟩
theorem spec_l08Copy_F2_ok {d14:Stream} {d125 d126 d137 d138:Int} {d127 d132 d139 d144:List Int} {d149:List Parcel} {b2 z5 z9 z13 z17 z21 z28 z33 z40 z45 z50:Nat} {w3:Nat→Bool} {f6 f10 f14 f18 f22 f29 f34 f41 f46 f51:Bool} {e7 e11 e15 e19 e23 e30 e35 e42 e47 e52:List AV} {s:St} (h8:LR rB 1 d14.Checker.Accept z5 e7) (h12:LR (rL rPush 2) 1 d14.Checker.Call z9 e11) (h16:LR (rL (rL rJ 1) 1) 1 d14.Checker.Return z13 e15) (h20:LR (rL rJ 1) 1 d14.Checker.Inner z17 e19) (h24:LR rS 1 d14.Pieces z21 e23) (h31:LR rJ 1 d127 z28 e30) (h36:LR rJ 1 d132 z33 e35) (h43:LR rJ 1 d139 z40 e42) (h48:LR rJ 1 d144 z45 e47) (h53:LR rParcel 2 d149 z50 e52) (h54:f51=true∨w3 9=true) (hE:HS [b2] false s { s with lo:=s.n } [⟨some b2,[(eptr [(J d14.Checker.Stack),(J d14.Checker.Start),(sl z5 f6 e7),(sl z9 f10 e11),(sl z13 f14 e15),(sl z17 f18 e19),(sl z21 f22 e23)] 0),(J d125),(J d126),(sl z28 f29 e30),(sl z33 f34 e35),(J d137),(J d138),(sl z40 f41 e42),(sl z45 f46 e47),(sl z50 f51 e52)],w3⟩]) {r:Desk} (h:spec_l08Copy_F2 d14 d125 d126 d127 d132 d137 d138 d139 d144 d149=some r) (hs:WF s):ACall Cf 60 [(ptr b2 5)] s fun v _ s'=>(rDesk) r v∧∃ (w0':Nat→Bool),Fx [b2] s s' [⟨some b2,[(eptr [(J d14.Checker.Stack),(J d14.Checker.Start),(sl z5 f6 e7),(sl z9 f10 e11),(sl z13 f14 e15),(sl z17 f18 e19),(sl z21 f22 e23)] 0),(J d125),(J d126),(sl z28 f29 e30),(sl z33 f34 e35),(J d137),(J d138),(sl z40 f41 e42),(sl z45 f46 e47),(sl z50 f51 e52)],w0'⟩]∧(f51=true∨w0' 9=true):=by
 refine ACall.foreign rfl rfl rfl ?_
 unfold spec_l08Copy_F2 at h
 refine sr ?_
 refine AOps.allocP rfl rfl rfl rfl ⟨rfl,rfl⟩ rfl ?_
 refine ns ?_
 refine q (ptr b2 5) ?_
 refine q (ptr b2 5) ?_
 refine q (ptr b2 5) ?_
 refine AOps.ldB (i:=0) (v:=(J d137)) hE rfl rfl rfl rfl rfl rfl rfl rfl rfl ?_
 refine q (ptr b2 5) ?_
 refine q (ptr b2 5) ?_
 refine q (ptr b2 6) ?_
 refine AOps.ldB (i:=0) (v:=(J d138)) hE rfl rfl rfl rfl rfl rfl rfl rfl rfl ?_
 refine q (ptr b2 5) ?_
 refine q (ptr b2 5) ?_
 refine q (ptr b2 7) ?_
 refine AOps.ldB (i:=0) (v:=(sl z40 f41 e42)) hE rfl rfl rfl rfl rfl rfl rfl rfl rfl ?_
 obtain ⟨y55,h56,h⟩:=obind h
 refine AOps.callDPO (g:=85) (args:=[(sl z40 f41 e42)]) (p:=(rL rJ 1) y55) rfl rfl rfl (spec_l00Own_okO h43 h56 ((HS.wf' hE).still)) (fun v hv=>Nice.pure (k:=FINK) (p:=(rL rJ 1) y55) (.L fun _=>.I) _ v hv) ?_
 intro _ h57
 obtain ⟨z58,f59,e60,rfl,h61⟩:=h57
 refine q (ptr b2 5) ?_
 refine q (ptr b2 5) ?_
 refine q (ptr b2 8) ?_
 refine AOps.ldB (i:=0) (v:=(sl z45 f46 e47)) hE rfl rfl rfl rfl rfl rfl rfl rfl rfl ?_
 obtain ⟨y63,h64,h⟩:=obind h
 refine AOps.callDPO (g:=85) (args:=[(sl z45 f46 e47)]) (p:=(rL rJ 1) y63) rfl rfl rfl (spec_l00Own_okO h48 h64 ((HS.wf' hE).still)) (fun v hv=>Nice.pure (k:=FINK) (p:=(rL rJ 1) y63) (.L fun _=>.I) _ v hv) ?_
 intro _ h65
 obtain ⟨z66,f67,e68,rfl,h69⟩:=h65
 refine q (agg [(J d137),(J d138),(sl z58 f59 e60),(sl z66 f67 e68)]) ?_
 refine AOps.stP (v:=(agg [(J d137),(J d138),(sl z58 f59 e60),(sl z66 f67 e68)])) rfl rfl rfl rfl rfl rfl rfl rfl rfl (lt_b rfl) rfl ?_
 refine nl ?_
 obtain rfl:=Option.some.inj h
 exact AW.ret ⟨_,_,rfl,finF (p:=(rDesk) (⟨d137,d138,y55,y63⟩:Desk)) (Fin.of (p:=(rDesk) (⟨d137,d138,y55,y63⟩:Desk)) (.A (.cons .I (.cons .I (.cons (.L fun _=>.I) (.cons (.L fun _=>.I) .nil))))) (⟨_,rfl,(.cons rfl (.cons rfl (.cons ⟨_,_,_,rfl,h61⟩ (.cons ⟨_,_,_,rfl,h69⟩ .nil))))⟩)) ⟨w3,HS.leaveP hE [0] rfl,h54⟩⟩
theorem spec_l00Has_ok {list1:List Int} {n6:Int} {z2:Nat} {f3:Bool} {e4:List AV} {s:St} (h5:LR rJ 1 list1 z2 e4) {r:Bool} (h:spec_l00Has list1 n6=some r) (hs:WF s):ACall Cf 34 [(sl z2 f3 e4),(J n6)] s fun v _ s'=>(rB) r v∧s'=s:=by
 refine ACall.pure rfl rfl rfl .B ?_
 have hWF:=hs.lo'
 unfold spec_l00Has at h
 refine sr ?_
 refine q (bool false) ?_
 refine nl ?_
 refine AW.seq ?_
 refine sr ?_
 refine q (J 0) ?_
 refine nl ?_
 refine AW.meet (σ:=Unit) (fun _ tm os=>⟨updL tm [],updL os [],{ s with lo:=s.n }⟩) (fun _=>spec_l00Has_J1=some r) ?_ ?_
 ·rintro _ tm os h
  unfold spec_l00Has_J1 at h
  refine sr ?_
  refine q (bool false) ?_
  refine nl ?_
  cases h
  exact AW.ret ⟨rfl,_,_,rfl,rfl⟩
 intro KJ7
 refine AW.block ?_
 refine AW.res [(0,(sl z2 f3 e4)),(1,(J n6)),(5,(J 0))] [] ⟨rfl,rfl,rfl,trivial⟩ trivial ?_
 refine AW.loopF (σ:=Int) (τ:=Unit) (fun i8 _=>True) (fun i8 _ tm os=>⟨updL tm [(0,(sl z2 f3 e4)),(1,(J n6)),(5,(J i8))],updL os [],{ s with lo:=s.n }⟩) ?_ (x:=(0)) (y:=()) h trivial
 clear h
 rintro i8 _ tm os - ee1 h hL1 hR1
 unfold spec_l00Has_S1 at h
 refine AW.seq ?_
 refine sr ?_
 refine q (J i8) ?_
 refine q (sl z2 f3 e4) ?_
 refine AOps.p rfl (len_eq h5) ?_
 refine q (bool (decide ((i8:Int)<(list1.length:Int)))) ?_
 refine nl ?_
 rcases oite h with ⟨hc9,h⟩ | ⟨hc9,h⟩
 ·refine cT hc9 ?_
  refine AW.skip ?_
  refine AW.seq ?_
  refine AW.block ?_
  refine sr ?_
  refine q (sl z2 f3 e4) ?_
  refine q (J i8) ?_
  obtain ⟨x10,h11,h⟩:=obind h
  obtain ⟨v14,h12,h13⟩:=idx_sl h5 h11
  cases h12
  refine AOps.pureR rfl rfl rfl h13 rfl (rfl:_=(eptr [(J x10)] 0)) ?_
  refine lE (J x10) ?_
  refine q (J n6) ?_
  refine q (bool (x10 == n6)) ?_
  refine nl ?_
  rcases oite h with ⟨hc15,h⟩ | ⟨hc15,h⟩
  ·refine cT hc15 ?_
   refine sr ?_
   refine q (bool true) ?_
   refine nl ?_
   cases h
   have hr:=hR1 _ rfl
   subst hr
   exact AW.ret ⟨rfl,_,_,rfl,rfl⟩
  refine cF hc15 ?_
  refine AW.skip ?_
  refine AW.inBlock ?_
  refine AW.region ?_
  refine q (J i8) ?_
  refine q (J (IntKind.wrap .i64 (i8+1))) ?_
  refine aq (J (IntKind.wrap .i64 (i8+1))) ?_
  refine nl ?_
  cases h
  exact AW.res [(0,(sl z2 f3 e4)),(1,(J n6)),(5,(J (IntKind.wrap .i64 (i8+1))))] [] ⟨rfl,rfl,rfl,trivial⟩ trivial (hL1 _ rfl () _ _ trivial)
 refine cF hc9 ?_
 refine AW.exit rfl ?_
 obtain ⟨r16,hm,hx⟩:=omap h
 clear h
 subst hx
 have hx:=hR1 _ rfl
 rw[hx] at hm
 have h:=hm
 exact AW.res [] [] trivial trivial (KJ7 () _ _ h)
theorem spec_l00Put_ok {list1:List Int} {n6:Int} {z2:Nat} {f3:Bool} {e4:List AV} {s:St} (h5:LR rJ 1 list1 z2 e4) {r:(List Int)} (h:spec_l00Put list1 n6=some r) (hs:WF s):ACall Cf 87 [(sl z2 f3 e4),(J n6)] s fun v _ s'=>(rL rJ 1) r v∧s'=s:=by
 refine ACall.pure rfl rfl rfl (.L fun _=>.I) ?_
 have hWF:=hs.lo'
 unfold spec_l00Put at h
 refine sr ?_
 refine q (sl 0 true []) ?_
 refine ns ?_
 refine AOps.makeR rfl rfl rfl rfl rfl rfl (rfl:_=(sl 1 true [])) ?_
 refine aq (sl 1 true []) ?_
 refine ns ?_
 refine q (bool false) ?_
 refine nl ?_
 refine AW.seq ?_
 refine sr ?_
 refine q (J 0) ?_
 refine nl ?_
 refine AW.meet (σ:=(List Int) × Bool × Nat × Bool × (List AV) × Bool) (fun (out7,done14,z8,f9,e10,o12) tm os=>⟨updL tm [(1,(J n6)),(5,(sl z8 f9 e10)),(6,(bool done14))],updL os [(5,o12)],{ s with lo:=s.n }⟩) (fun (out7,done14,z8,f9,e10,o12)=>(LR rJ 1 out7 z8 e10)∧(f9=true∨o12=true)∧spec_l00Put_J1 n6 out7 done14=some r) ?_ ?_
 ·rintro ⟨out7,done14,z8,f9,e10,o12⟩ tm os ⟨h11,h13,h⟩
  unfold spec_l00Put_J1 at h
  refine AW.seq ?_
  refine sr ?_
  refine q (bool done14) ?_
  refine q (bool (!done14)) ?_
  refine nl ?_
  refine AW.meet (σ:=(List Int) × Nat × Bool × (List AV) × Bool) (fun (out16,z17,f18,e19,o21) tm os=>⟨updL tm [(5,(sl z17 f18 e19))],updL os [(5,o21)],{ s with lo:=s.n }⟩) (fun (out16,z17,f18,e19,o21)=>(LR rJ 1 out16 z17 e19)∧(f18=true∨o21=true)∧spec_l00Put_J2 out16=some r) ?_ ?_
  ·rintro ⟨out16,z17,f18,e19,o21⟩ tm os ⟨h20,h22,h⟩
   unfold spec_l00Put_J2 at h
   refine sr ?_
   refine q (sl z17 f18 e19) ?_
   refine aq (sl z17 f18 e19) ?_
   refine nl ?_
   cases h
   exact AW.ret ⟨rfl,_,_,rfl,⟨_,_,_,rfl,h20⟩⟩
  intro KJ23
  rcases oite h with ⟨hc24,h⟩ | ⟨hc24,h⟩
  ·refine cT hc24 ?_
   refine AW.region ?_
   refine AOps.moveR rfl rfl rfl rfl (rfl:_=(sl z8 f9 e10)) rfl ?_
   refine q (J n6) ?_
   refine AOps.makeR rfl rfl rfl rfl rfl rfl (rfl:_=(sl 1 true [(J n6)])) ?_
   obtain ⟨l25,h26,h⟩:=obind h
   obtain ⟨h27,h28⟩:=app_LR h11 (LR.lit (r:=rI .i64) (sz:=1) (.cons rfl .nil)) h26
   refine AOps.appL (z:=z8) (f:=f9) (e:=e10) (z':=1) (f':=true) (e':=[(J n6)]) rfl rfl rfl rfl rfl rfl rfl (appSrc_sl (LR.z (LR.lit (r:=rI .i64) (sz:=1) (.cons rfl .nil))) rfl) (LR.z h11) ⟨by decide,by decide,rfl,rfl⟩ rfl rfl h28 (own_tmp h13 rfl rfl) ?_
   refine aq (sl 1 false (e10++[(J n6)])) ?_
   refine nl ?_
   exact AW.res [(5,(sl 1 false (e10++[(J n6)])))] [(5,true)] ⟨rfl,trivial⟩ ⟨rfl,trivial⟩ (KJ23 (l25,1,false,(e10++[(J n6)]),true) _ _ ⟨h27,(Or.inr rfl),h⟩)
  refine cF hc24 ?_
  refine AW.skip ?_
  exact AW.res [(5,(sl z8 f9 e10))] [(5,o12)] ⟨rfl,trivial⟩ ⟨rfl,trivial⟩ (KJ23 (out7,z8,f9,e10,o12) _ _ ⟨h11,h13,h⟩)
 intro KJ15
 refine AW.block ?_
 refine AW.res [(0,(sl z2 f3 e4)),(1,(J n6)),(5,(sl 1 true [])),(6,(bool false)),(7,(J 0))] [(5,false)] ⟨rfl,rfl,rfl,rfl,rfl,trivial⟩ ⟨rfl,trivial⟩ ?_
 refine AW.loopF (σ:=(List Int) × Bool × Int) (τ:=Nat × Bool × (List AV) × Bool) (fun (out29,done36,i37) (z30,f31,e32,o34)=>(LR rJ 1 out29 z30 e32)∧(f31=true∨o34=true)) (fun (out29,done36,i37) (z30,f31,e32,o34) tm os=>⟨updL tm [(0,(sl z2 f3 e4)),(1,(J n6)),(5,(sl z30 f31 e32)),(6,(bool done36)),(7,(J i37))],updL os [(5,o34)],{ s with lo:=s.n }⟩) ?_ (x:=(([]:List Int),false,0)) (y:=(1,true,[],false)) h ⟨⟨.inl rfl,.nil⟩,(Or.inl rfl)⟩
 clear h
 rintro ⟨out29,done36,i37⟩ ⟨z30,f31,e32,o34⟩ tm os ⟨h33,h35⟩ ee1 h hL1 hR1
 unfold spec_l00Put_S1 at h
 dsimp only at h
 refine AW.seq ?_
 refine sr ?_
 refine q (J i37) ?_
 refine q (sl z2 f3 e4) ?_
 refine AOps.p rfl (len_eq h5) ?_
 refine q (bool (decide ((i37:Int)<(list1.length:Int)))) ?_
 refine nl ?_
 rcases oite h with ⟨hc38,h⟩ | ⟨hc38,h⟩
 ·refine cT hc38 ?_
  refine AW.skip ?_
  refine AW.seq ?_
  refine AW.block ?_
  refine AW.seq ?_
  refine sr ?_
  refine q (bool done36) ?_
  refine q (bool (!done36)) ?_
  refine q (bool (!done36)) ?_
  obtain ⟨b40,hb,h⟩:=obind h
  refine AOps.split 7 (fun f'=>∃ tm' os',f'=⟨updL tm' [(0,(sl z2 f3 e4)),(1,(J n6)),(5,(sl z30 f31 e32)),(6,(bool done36)),(7,(J i37)),(24,(bool b40))],updL os' [(5,o34)],{ s with lo:=s.n }⟩) ?_ ?_
  ·rcases oite hb with ⟨hc39,hb⟩ | ⟨hc39,hb⟩
   ·have h:=hb
    refine kn 17 hc39 ?_
    refine q (sl z2 f3 e4) ?_
    refine q (J i37) ?_
    obtain ⟨x41,h42,h⟩:=obind h
    obtain ⟨v45,h43,h44⟩:=idx_sl h5 h42
    cases h43
    refine AOps.pureR rfl rfl rfl h44 rfl (rfl:_=(eptr [(J x41)] 0)) ?_
    refine lE (J x41) ?_
    refine q (J n6) ?_
    refine q (bool (decide ((x41:Int)≥n6))) ?_
    refine q (bool (decide ((x41:Int)≥n6))) ?_
    refine AOps.resR [(0,(sl z2 f3 e4)),(1,(J n6)),(5,(sl z30 f31 e32)),(6,(bool done36)),(7,(J i37)),(24,(bool b40))] [(5,o34)] ?_ ?_ _ ⟨_,_,rfl⟩
    ·exact ⟨rfl,rfl,rfl,rfl,rfl,congrArg bool (Option.some.inj h),trivial⟩
    exact ⟨rfl,trivial⟩
   ·refine kn 17 hc39 ?_
    refine sk ?_
    refine sk ?_
    refine sk ?_
    refine sk ?_
    refine sk ?_
    refine sk ?_
    refine q (bool false) ?_
    refine AOps.resR [(0,(sl z2 f3 e4)),(1,(J n6)),(5,(sl z30 f31 e32)),(6,(bool done36)),(7,(J i37)),(24,(bool b40))] [(5,o34)] ?_ ?_ _ ⟨_,_,rfl⟩
    ·exact ⟨rfl,rfl,rfl,rfl,rfl,congrArg bool (Option.some.inj hb),trivial⟩
    exact ⟨rfl,trivial⟩
  rintro _ ⟨tm,os,rfl⟩
  refine nl ?_
  refine AW.meet (σ:=(List Int) × Bool × Nat × Bool × (List AV) × Bool) (fun (out46,done53,z47,f48,e49,o51) tm os=>⟨updL tm [(0,(sl z2 f3 e4)),(1,(J n6)),(5,(sl z47 f48 e49)),(6,(bool done53)),(7,(J i37))],updL os [(5,o51)],{ s with lo:=s.n }⟩) (fun (out46,done53,z47,f48,e49,o51)=>(LR rJ 1 out46 z47 e49)∧(f48=true∨o51=true)∧spec_l00Put_J3 list1 i37 out46 done53=some ee1) ?_ ?_
  ·rintro ⟨out46,done53,z47,f48,e49,o51⟩ tm os ⟨h50,h52,h⟩
   unfold spec_l00Put_J3 at h
   refine AW.region ?_
   refine AOps.moveR rfl rfl rfl rfl (rfl:_=(sl z47 f48 e49)) rfl ?_
   refine q (sl z2 f3 e4) ?_
   refine q (J i37) ?_
   obtain ⟨x55,h56,h⟩:=obind h
   obtain ⟨v59,h57,h58⟩:=idx_sl h5 h56
   cases h57
   refine AOps.pureR rfl rfl rfl h58 rfl (rfl:_=(eptr [(J x55)] 0)) ?_
   refine lE (J x55) ?_
   refine AOps.makeR rfl rfl rfl rfl rfl rfl (rfl:_=(sl 1 true [(J x55)])) ?_
   obtain ⟨l60,h61,h⟩:=obind h
   obtain ⟨h62,h63⟩:=app_LR h50 (LR.lit (r:=rI .i64) (sz:=1) (.cons rfl .nil)) h61
   refine AOps.appL (z:=z47) (f:=f48) (e:=e49) (z':=1) (f':=true) (e':=[(J x55)]) rfl rfl rfl rfl rfl rfl rfl (appSrc_sl (LR.z (LR.lit (r:=rI .i64) (sz:=1) (.cons rfl .nil))) rfl) (LR.z h50) ⟨by decide,by decide,rfl,rfl⟩ rfl rfl h63 (own_tmp h52 rfl rfl) ?_
   refine aq (sl 1 false (e49++[(J x55)])) ?_
   refine nl ?_
   refine AW.inBlock ?_
   refine AW.region ?_
   refine q (J i37) ?_
   refine q (J (IntKind.wrap .i64 (i37+1))) ?_
   refine aq (J (IntKind.wrap .i64 (i37+1))) ?_
   refine nl ?_
   cases h
   exact AW.res [(0,(sl z2 f3 e4)),(1,(J n6)),(5,(sl 1 false (e49++[(J x55)]))),(6,(bool done53)),(7,(J (IntKind.wrap .i64 (i37+1))))] [(5,true)] ⟨rfl,rfl,rfl,rfl,rfl,trivial⟩ ⟨rfl,trivial⟩ (hL1 _ rfl (1,false,(e49++[(J x55)]),true) _ _ ⟨h62,(Or.inr rfl)⟩)
  intro KJ54
  rcases oite h with ⟨hc64,h⟩ | ⟨hc64,h⟩
  ·refine cT hc64 ?_
   refine sr ?_
   refine q (bool true) ?_
   refine ns ?_
   refine q (sl z2 f3 e4) ?_
   refine q (J i37) ?_
   obtain ⟨x65,h66,h⟩:=obind h
   obtain ⟨v69,h67,h68⟩:=idx_sl h5 h66
   cases h67
   refine AOps.pureR rfl rfl rfl h68 rfl (rfl:_=(eptr [(J x65)] 0)) ?_
   refine lE (J x65) ?_
   refine q (J n6) ?_
   refine q (bool (decide ((x65:Int)>n6))) ?_
   refine nl ?_
   rcases oite h with ⟨hc70,h⟩ | ⟨hc70,h⟩
   ·refine cT hc70 ?_
    refine AW.region ?_
    refine AOps.moveR rfl rfl rfl rfl (rfl:_=(sl z30 f31 e32)) rfl ?_
    refine q (J n6) ?_
    refine AOps.makeR rfl rfl rfl rfl rfl rfl (rfl:_=(sl 1 true [(J n6)])) ?_
    obtain ⟨l71,h72,h⟩:=obind h
    obtain ⟨h73,h74⟩:=app_LR h33 (LR.lit (r:=rI .i64) (sz:=1) (.cons rfl .nil)) h72
    refine AOps.appL (z:=z30) (f:=f31) (e:=e32) (z':=1) (f':=true) (e':=[(J n6)]) rfl rfl rfl rfl rfl rfl rfl (appSrc_sl (LR.z (LR.lit (r:=rI .i64) (sz:=1) (.cons rfl .nil))) rfl) (LR.z h33) ⟨by decide,by decide,rfl,rfl⟩ rfl rfl h74 (own_tmp h35 rfl rfl) ?_
    refine aq (sl 1 false (e32++[(J n6)])) ?_
    refine nl ?_
    exact AW.res [(0,(sl z2 f3 e4)),(1,(J n6)),(5,(sl 1 false (e32++[(J n6)]))),(6,(bool true)),(7,(J i37))] [(5,true)] ⟨rfl,rfl,rfl,rfl,rfl,trivial⟩ ⟨rfl,trivial⟩ (KJ54 (l71,true,1,false,(e32++[(J n6)]),true) _ _ ⟨h73,(Or.inr rfl),h⟩)
   refine cF hc70 ?_
   refine AW.skip ?_
   exact AW.res [(0,(sl z2 f3 e4)),(1,(J n6)),(5,(sl z30 f31 e32)),(6,(bool true)),(7,(J i37))] [(5,o34)] ⟨rfl,rfl,rfl,rfl,rfl,trivial⟩ ⟨rfl,trivial⟩ (KJ54 (out29,true,z30,f31,e32,o34) _ _ ⟨h33,h35,h⟩)
  refine cF hc64 ?_
  refine AW.skip ?_
  exact AW.res [(0,(sl z2 f3 e4)),(1,(J n6)),(5,(sl z30 f31 e32)),(6,(bool done36)),(7,(J i37))] [(5,o34)] ⟨rfl,rfl,rfl,rfl,rfl,trivial⟩ ⟨rfl,trivial⟩ (KJ54 (out29,done36,z30,f31,e32,o34) _ _ ⟨h33,h35,h⟩)
 refine cF hc38 ?_
 refine AW.exit rfl ?_
 obtain ⟨r75,hm,hx⟩:=omap h
 clear h
 subst hx
 have hx:=hR1 _ rfl
 rw[hx] at hm
 have h:=hm
 exact AW.res [(1,(J n6)),(5,(sl z30 f31 e32)),(6,(bool done36))] [(5,o34)] ⟨rfl,rfl,rfl,trivial⟩ ⟨rfl,trivial⟩ (KJ15 (out29,done36,z30,f31,e32,o34) _ _ ⟨h33,h35,h⟩)
theorem spec_l02Step_w0_7ppp_ok {p1:Checker} {p1_19 p3_25:Int} {p2_20:List Int} {z2 z6 z10 z14 z21:Nat} {f3 f7 f11 f15 f22:Bool} {e4 e8 e12 e16 e23:List AV} {j18:AV} {s:St} (h5:LR rB 1 p1.Accept z2 e4) (h9:LR (rL rPush 2) 1 p1.Call z6 e8) (h13:LR (rL (rL rJ 1) 1) 1 p1.Return z10 e12) (h17:LR (rL rJ 1) 1 p1.Inner z14 e16) (h24:LR rJ 1 p2_20 z21 e23) {r:Int × (List Int)} (h:spec_l02Step_w0_7ppp p1 p1_19 p2_20 p3_25=some r) (hs:WF s):ACall Cf 118 [(eptr [(J p1.Stack),(J p1.Start),(sl z2 f3 e4),(sl z6 f7 e8),(sl z10 f11 e12),(sl z14 f15 e16),j18] 0),(J p1_19),(sl z21 f22 e23),(int .u8 p3_25)] s fun v _ s'=>(fun x=>rT [rJ x.1,(rL rJ 1) x.2]) r v∧s'=s:=by
 refine ACall.pure rfl rfl rfl (.T (.cons .I (.cons (.L fun _=>.I) .nil))) ?_
 have hWF:=hs.lo'
 unfold spec_l02Step_w0_7ppp at h
 refine sr ?_
 refine q (J 0) ?_
 refine q (sl 0 true []) ?_
 refine ns ?_
 refine q (int .u8 p3_25) ?_
 obtain ⟨y26,h27,h⟩:=obind h
 refine cP (spec_l01Symbol_ok  h27 hWF) ?_
 intro _ o29 h28
 cases h28
 refine aq (J y26) ?_
 refine nl ?_
 refine AW.seq ?_
 refine AW.block ?_
 refine sr ?_
 refine q (J y26) ?_
 refine q (bool (decide ((y26:Int)<2))) ?_
 refine aq (bool (decide ((y26:Int)<2))) ?_
 refine nl ?_
 rcases oite h with ⟨hc30,h⟩ | ⟨hc30,h⟩
 ·refine cT hc30 ?_
  refine sr ?_
  refine q (eptr [(J p1.Stack),(J p1.Start),(sl z2 f3 e4),(sl z6 f7 e8),(sl z10 f11 e12),(sl z14 f15 e16),j18] 0) ?_
  refine q (eptr [(J p1.Stack),(J p1.Start),(sl z2 f3 e4),(sl z6 f7 e8),(sl z10 f11 e12),(sl z14 f15 e16),j18] 0) ?_
  refine q (eptr [(J p1.Stack),(J p1.Start),(sl z2 f3 e4),(sl z6 f7 e8),(sl z10 f11 e12),(sl z14 f15 e16),j18] 3) ?_
  refine lE (sl z6 f7 e8) ?_
  refine q (J p1_19) ?_
  obtain ⟨x31,h32,h⟩:=obind h
  obtain ⟨v35,h33,h34⟩:=idx_sl h9 h32
  obtain ⟨z36,f37,e38,rfl,h39⟩:=h33
  refine AOps.pureR rfl rfl rfl h34 rfl (rfl:_=(eptr [(sl z36 f37 e38)] 0)) ?_
  refine lE (sl z36 f37 e38) ?_
  refine q (J y26) ?_
  obtain ⟨x40,h41,h⟩:=obind h
  obtain ⟨v44,h42,h43⟩:=idx_sl h39 h41
  obtain ⟨_,rfl,h45⟩:=h42
  obtain ⟨_,_,rfl,h46,h47⟩:=Cs_cons h45
  cases h46
  obtain ⟨_,_,rfl,h48,h49⟩:=Cs_cons h47
  cases h48
  cases Cs_nil h49
  refine AOps.pureR rfl rfl rfl h43 rfl (rfl:_=(eptr [(J x40.To),(J x40.Put)] 0)) ?_
  refine lE (agg [(J x40.To),(J x40.Put)]) ?_
  refine AOps.allocP rfl rfl rfl rfl ⟨rfl,rfl⟩ rfl ?_
  refine AOps.stP (v:=(agg [(J x40.To),(J x40.Put)])) rfl rfl rfl rfl rfl rfl rfl rfl rfl (lt_b rfl) rfl ?_
  refine ns ?_
  refine q (eptr [(J x40.To),(J x40.Put)] 0) ?_
  refine lE (J x40.To) ?_
  refine q (sl z21 f22 e23) ?_
  obtain ⟨y50,h51,h⟩:=obind h
  refine AOps.callDPO (g:=85) (args:=[(sl z21 f22 e23)]) (p:=(rL rJ 1) y50) rfl rfl rfl (spec_l00Own_okO h24 h51 hWF.still) (fun v hv=>Nice.pure (k:=FINK) (p:=(rL rJ 1) y50) (.L fun _=>.I) _ v hv) ?_
  intro _ h52
  obtain ⟨z53,f54,e55,rfl,h56⟩:=h52
  refine q (eptr [(J x40.To),(J x40.Put)] 1) ?_
  refine lE (J x40.Put) ?_
  refine AOps.makeR rfl rfl rfl rfl rfl rfl (rfl:_=(sl 1 true [(J x40.Put)])) ?_
  obtain ⟨l58,h59,h⟩:=obind h
  obtain ⟨h60,h61⟩:=app_LR h56 (LR.lit (r:=rI .i64) (sz:=1) (.cons rfl .nil)) h59
  refine AOps.appL (z:=z53) (f:=f54) (e:=e55) (z':=1) (f':=true) (e':=[(J x40.Put)]) rfl rfl rfl rfl rfl rfl rfl (appSrc_sl (LR.z (LR.lit (r:=rI .i64) (sz:=1) (.cons rfl .nil))) rfl) (LR.z h56) ⟨by decide,by decide,rfl,rfl⟩ rfl rfl h61 (Or.inr ⟨30,rfl,rfl⟩) ?_
  refine aq (J x40.To) ?_
  refine aq (sl 1 false (e55++[(J x40.Put)])) ?_
  refine nl ?_
  cases h
  exact AW.ret ⟨rfl,_,_,rfl,⟨_,rfl,(.cons rfl (.cons ⟨_,_,_,rfl,h60⟩ .nil))⟩⟩
 refine cF hc30 ?_
 refine sr ?_
 refine q (J y26) ?_
 refine q (bool (decide ((y26:Int)<4))) ?_
 refine q (bool (decide ((y26:Int)<4))) ?_
 refine AOps.split 4 (fun f'=>∃ tm' os',f'=⟨updL tm' [(0,(eptr [(J p1.Stack),(J p1.Start),(sl z2 f3 e4),(sl z6 f7 e8),(sl z10 f11 e12),(sl z14 f15 e16),j18] 0)),(1,(J p1_19)),(2,(sl z21 f22 e23)),(10,(J y26)),(42,(bool ((decide ((y26:Int)<4))&&((p2_20.length:Int) == 0))))],updL os' [],{ s with lo:=s.n }⟩) ?_ ?_
 ·rcases Bool.eq_false_or_eq_true (decide ((y26:Int)<4)) with hc62 | hc62
  ·refine kn 38 hc62 ?_
   refine q (sl z21 f22 e23) ?_
   refine AOps.p rfl (len_eq h24) ?_
   refine q (bool ((p2_20.length:Int) == 0)) ?_
   refine q (bool ((p2_20.length:Int) == 0)) ?_
   exact rR ⟨rfl,rfl,rfl,rfl,congrArg bool (and_t hc62),trivial⟩
  ·refine kn 38 hc62 ?_
   refine sk ?_
   refine sk ?_
   refine sk ?_
   refine q (bool false) ?_
   exact rR ⟨rfl,rfl,rfl,rfl,congrArg bool (and_f hc62),trivial⟩
 rintro _ ⟨tm,os,rfl⟩
 refine aq (bool ((decide ((y26:Int)<4))&&((p2_20.length:Int) == 0))) ?_
 refine nl ?_
 rcases oite h with ⟨hc63,h⟩ | ⟨hc63,h⟩
 ·refine cT hc63 ?_
  refine sr ?_
  refine q (eptr [(J p1.Stack),(J p1.Start),(sl z2 f3 e4),(sl z6 f7 e8),(sl z10 f11 e12),(sl z14 f15 e16),j18] 0) ?_
  refine q (eptr [(J p1.Stack),(J p1.Start),(sl z2 f3 e4),(sl z6 f7 e8),(sl z10 f11 e12),(sl z14 f15 e16),j18] 0) ?_
  refine q (eptr [(J p1.Stack),(J p1.Start),(sl z2 f3 e4),(sl z6 f7 e8),(sl z10 f11 e12),(sl z14 f15 e16),j18] 4) ?_
  refine lE (sl z10 f11 e12) ?_
  refine q (J p1_19) ?_
  obtain ⟨x64,h65,h⟩:=obind h
  obtain ⟨v68,h66,h67⟩:=idx_sl h13 h65
  obtain ⟨z69,f70,e71,rfl,h72⟩:=h66
  refine AOps.pureR rfl rfl rfl h67 rfl (rfl:_=(eptr [(sl z69 f70 e71)] 0)) ?_
  refine lE (sl z69 f70 e71) ?_
  refine q (J y26) ?_
  refine q (J (IntKind.wrap .i64 (y26 - 2))) ?_
  obtain ⟨x73,h74,h⟩:=obind h
  obtain ⟨v77,h75,h76⟩:=idx_sl h72 h74
  obtain ⟨z78,f79,e80,rfl,h81⟩:=h75
  refine AOps.pureR rfl rfl rfl h76 rfl (rfl:_=(eptr [(sl z78 f79 e80)] 0)) ?_
  refine lE (sl z78 f79 e80) ?_
  refine q (eptr [(J p1.Stack),(J p1.Start),(sl z2 f3 e4),(sl z6 f7 e8),(sl z10 f11 e12),(sl z14 f15 e16),j18] 0) ?_
  refine q (eptr [(J p1.Stack),(J p1.Start),(sl z2 f3 e4),(sl z6 f7 e8),(sl z10 f11 e12),(sl z14 f15 e16),j18] 0) ?_
  refine q (eptr [(J p1.Stack),(J p1.Start),(sl z2 f3 e4),(sl z6 f7 e8),(sl z10 f11 e12),(sl z14 f15 e16),j18] 0) ?_
  refine lE (J p1.Stack) ?_
  obtain ⟨x82,h83,h⟩:=obind h
  obtain ⟨v86,h84,h85⟩:=idx_sl h81 h83
  cases h84
  refine AOps.pureR rfl rfl rfl h85 rfl (rfl:_=(eptr [(J x82)] 0)) ?_
  refine lE (J x82) ?_
  refine AOps.makeR rfl rfl rfl rfl rfl rfl (rfl:_=(sl 1 true [])) ?_
  refine aq (J x82) ?_
  refine aq (sl 1 true []) ?_
  refine nl ?_
  cases h
  exact AW.ret ⟨rfl,_,_,rfl,⟨_,rfl,(.cons rfl (.cons ⟨_,_,_,rfl,⟨.inl rfl,.nil⟩⟩ .nil))⟩⟩
 refine cF hc63 ?_
 refine sr ?_
 refine q (J y26) ?_
 refine q (bool (decide ((y26:Int)<4))) ?_
 refine aq (bool (decide ((y26:Int)<4))) ?_
 refine nl ?_
 rcases oite h with ⟨hc87,h⟩ | ⟨hc87,h⟩
 ·refine cT hc87 ?_
  refine sr ?_
  refine q (eptr [(J p1.Stack),(J p1.Start),(sl z2 f3 e4),(sl z6 f7 e8),(sl z10 f11 e12),(sl z14 f15 e16),j18] 0) ?_
  refine q (eptr [(J p1.Stack),(J p1.Start),(sl z2 f3 e4),(sl z6 f7 e8),(sl z10 f11 e12),(sl z14 f15 e16),j18] 0) ?_
  refine q (eptr [(J p1.Stack),(J p1.Start),(sl z2 f3 e4),(sl z6 f7 e8),(sl z10 f11 e12),(sl z14 f15 e16),j18] 4) ?_
  refine lE (sl z10 f11 e12) ?_
  refine q (J p1_19) ?_
  obtain ⟨x88,h89,h⟩:=obind h
  obtain ⟨v92,h90,h91⟩:=idx_sl h13 h89
  obtain ⟨z93,f94,e95,rfl,h96⟩:=h90
  refine AOps.pureR rfl rfl rfl h91 rfl (rfl:_=(eptr [(sl z93 f94 e95)] 0)) ?_
  refine lE (sl z93 f94 e95) ?_
  refine q (J y26) ?_
  refine q (J (IntKind.wrap .i64 (y26 - 2))) ?_
  obtain ⟨x97,h98,h⟩:=obind h
  obtain ⟨v101,h99,h100⟩:=idx_sl h96 h98
  obtain ⟨z102,f103,e104,rfl,h105⟩:=h99
  refine AOps.pureR rfl rfl rfl h100 rfl (rfl:_=(eptr [(sl z102 f103 e104)] 0)) ?_
  refine lE (sl z102 f103 e104) ?_
  refine q (sl z21 f22 e23) ?_
  refine q (sl z21 f22 e23) ?_
  refine AOps.p rfl (len_eq h24) ?_
  refine q (J (IntKind.wrap .i64 ((p2_20.length:Int) - 1))) ?_
  obtain ⟨x106,h107,h⟩:=obind h
  obtain ⟨v110,h108,h109⟩:=idx_sl h24 h107
  cases h108
  refine AOps.pureR rfl rfl rfl h109 rfl (rfl:_=(eptr [(J x106)] 0)) ?_
  refine lE (J x106) ?_
  obtain ⟨x111,h112,h⟩:=obind h
  obtain ⟨v115,h113,h114⟩:=idx_sl h105 h112
  cases h113
  refine AOps.pureR rfl rfl rfl h114 rfl (rfl:_=(eptr [(J x111)] 0)) ?_
  refine lE (J x111) ?_
  refine q (sl z21 f22 e23) ?_
  refine q (sl z21 f22 e23) ?_
  refine AOps.p rfl (len_eq h24) ?_
  refine q (J (IntKind.wrap .i64 ((p2_20.length:Int) - 1))) ?_
  obtain ⟨l116,h117,h⟩:=obind h
  obtain ⟨f118,e119,h120,h121⟩:=cut_slH f22 h24 h117
  refine AOps.pureR rfl rfl rfl h121 rfl (rfl:_=(sl z21 f118 e119)) ?_
  obtain ⟨y122,h123,h⟩:=obind h
  refine AOps.callDPO (g:=85) (args:=[(sl z21 f118 e119)]) (p:=(rL rJ 1) y122) rfl rfl rfl (spec_l00Own_okO h120 h123 hWF.still) (fun v hv=>Nice.pure (k:=FINK) (p:=(rL rJ 1) y122) (.L fun _=>.I) _ v hv) ?_
  intro _ h124
  obtain ⟨z125,f126,e127,rfl,h128⟩:=h124
  refine aq (J x111) ?_
  refine aq (sl z125 f126 e127) ?_
  refine nl ?_
  cases h
  exact AW.ret ⟨rfl,_,_,rfl,⟨_,rfl,(.cons rfl (.cons ⟨_,_,_,rfl,h128⟩ .nil))⟩⟩
 refine cF hc87 ?_
 refine AW.skip ?_
 refine AW.inBlock ?_
 refine sr ?_
 refine q (eptr [(J p1.Stack),(J p1.Start),(sl z2 f3 e4),(sl z6 f7 e8),(sl z10 f11 e12),(sl z14 f15 e16),j18] 0) ?_
 refine q (eptr [(J p1.Stack),(J p1.Start),(sl z2 f3 e4),(sl z6 f7 e8),(sl z10 f11 e12),(sl z14 f15 e16),j18] 0) ?_
 refine q (eptr [(J p1.Stack),(J p1.Start),(sl z2 f3 e4),(sl z6 f7 e8),(sl z10 f11 e12),(sl z14 f15 e16),j18] 5) ?_
 refine lE (sl z14 f15 e16) ?_
 refine q (J p1_19) ?_
 obtain ⟨x130,h131,h⟩:=obind h
 obtain ⟨v134,h132,h133⟩:=idx_sl h17 h131
 obtain ⟨z135,f136,e137,rfl,h138⟩:=h132
 refine AOps.pureR rfl rfl rfl h133 rfl (rfl:_=(eptr [(sl z135 f136 e137)] 0)) ?_
 refine lE (sl z135 f136 e137) ?_
 refine q (J y26) ?_
 refine q (J (IntKind.wrap .i64 (y26 - 4))) ?_
 obtain ⟨x139,h140,h⟩:=obind h
 obtain ⟨v143,h141,h142⟩:=idx_sl h138 h140
 cases h141
 refine AOps.pureR rfl rfl rfl h142 rfl (rfl:_=(eptr [(J x139)] 0)) ?_
 refine lE (J x139) ?_
 refine q (sl z21 f22 e23) ?_
 refine aq (J x139) ?_
 refine aq (sl z21 f22 e23) ?_
 refine nl ?_
 cases h
 exact AW.ret ⟨rfl,_,_,rfl,⟨_,rfl,(.cons rfl (.cons ⟨_,_,_,rfl,h24⟩ .nil))⟩⟩
theorem spec_l02Go_w0_7ppp_ok {c1:Checker} {state19:Int} {stack20:List Int} {w25:List UInt8} {z2 z6 z10 z14 z21:Nat} {f3 f7 f11 f15 f22:Bool} {e4 e8 e12 e16 e23:List AV} {j18:AV} {s:St} (h5:LR rB 1 c1.Accept z2 e4) (h9:LR (rL rPush 2) 1 c1.Call z6 e8) (h13:LR (rL (rL rJ 1) 1) 1 c1.Return z10 e12) (h17:LR (rL rJ 1) 1 c1.Inner z14 e16) (h24:LR rJ 1 stack20 z21 e23) {r:Int × (List Int)} (h:spec_l02Go_w0_7ppp c1 state19 stack20 w25=some r) (hs:WF s):ACall Cf 109 [(eptr [(J c1.Stack),(J c1.Start),(sl z2 f3 e4),(sl z6 f7 e8),(sl z10 f11 e12),(sl z14 f15 e16),j18] 0),(J state19),(sl z21 f22 e23),(str w25)] s fun v _ s'=>(fun x=>rT [rJ x.1,(rL rJ 1) x.2]) r v∧s'=s:=by
 refine ACall.pure rfl rfl rfl (.T (.cons .I (.cons (.L fun _=>.I) .nil))) ?_
 have hWF:=hs.lo'
 unfold spec_l02Go_w0_7ppp at h
 refine sr ?_
 refine q (J 0) ?_
 refine q (sl 0 true []) ?_
 refine nl ?_
 refine AW.seq ?_
 refine sr ?_
 refine q (J 0) ?_
 refine nl ?_
 refine AW.meet (σ:=Int × (List Int) × Nat × Bool × (List AV)) (fun (state26,stack27,z28,f29,e30) tm os=>⟨updL tm [(1,(J state26)),(2,(sl z28 f29 e30))],updL os [],{ s with lo:=s.n }⟩) (fun (state26,stack27,z28,f29,e30)=>(LR rJ 1 stack27 z28 e30)∧spec_l02Go_w0_7ppp_J1 state26 stack27=some r) ?_ ?_
 ·rintro ⟨state26,stack27,z28,f29,e30⟩ tm os ⟨h31,h⟩
  unfold spec_l02Go_w0_7ppp_J1 at h
  refine sr ?_
  refine q (J state26) ?_
  refine q (sl z28 f29 e30) ?_
  refine aq (J state26) ?_
  refine aq (sl z28 f29 e30) ?_
  refine nl ?_
  cases h
  exact AW.ret ⟨rfl,_,_,rfl,⟨_,rfl,(.cons rfl (.cons ⟨_,_,_,rfl,h31⟩ .nil))⟩⟩
 intro KJ32
 refine AW.block ?_
 refine AW.res [(0,(eptr [(J c1.Stack),(J c1.Start),(sl z2 f3 e4),(sl z6 f7 e8),(sl z10 f11 e12),(sl z14 f15 e16),j18] 0)),(1,(J state19)),(2,(sl z21 f22 e23)),(3,(str w25)),(10,(J 0))] [] ⟨rfl,rfl,rfl,rfl,rfl,trivial⟩ trivial ?_
 refine AW.loopF (σ:=Int × (List Int) × Int) (τ:=Nat × Bool × (List AV)) (fun (state33,stack34,i39) (z35,f36,e37)=>(LR rJ 1 stack34 z35 e37)) (fun (state33,stack34,i39) (z35,f36,e37) tm os=>⟨updL tm [(0,(eptr [(J c1.Stack),(J c1.Start),(sl z2 f3 e4),(sl z6 f7 e8),(sl z10 f11 e12),(sl z14 f15 e16),j18] 0)),(1,(J state33)),(2,(sl z35 f36 e37)),(3,(str w25)),(10,(J i39))],updL os [],{ s with lo:=s.n }⟩) ?_ (x:=(state19,stack20,0)) (y:=(z21,f22,e23)) h h24
 clear h
 rintro ⟨state33,stack34,i39⟩ ⟨z35,f36,e37⟩ tm os h38 ee1 h hL1 hR1
 unfold spec_l02Go_w0_7ppp_S1 at h
 dsimp only at h
 refine AW.seq ?_
 refine sr ?_
 refine q (J i39) ?_
 refine q (str w25) ?_
 refine q (J (w25.length:Int)) ?_
 refine q (bool (decide ((i39:Int)<(w25.length:Int)))) ?_
 refine nl ?_
 rcases oite h with ⟨hc40,h⟩ | ⟨hc40,h⟩
 ·refine cT hc40 ?_
  refine AW.skip ?_
  refine AW.seq ?_
  refine AW.block ?_
  refine AW.region ?_
  refine q (eptr [(J c1.Stack),(J c1.Start),(sl z2 f3 e4),(sl z6 f7 e8),(sl z10 f11 e12),(sl z14 f15 e16),j18] 0) ?_
  refine q (J state33) ?_
  refine q (sl z35 f36 e37) ?_
  refine q (str w25) ?_
  refine q (J i39) ?_
  obtain ⟨c41,h42,h⟩:=obind h
  refine AOps.pureR rfl rfl rfl (chr_str h42) rfl (rfl:_=(int .u8 c41)) ?_
  obtain ⟨y43,h44,h⟩:=obind h
  refine cP (spec_l02Step_w0_7ppp_ok h5 h9 h13 h17 h38 h44 hWF) ?_
  intro _ o55 h45
  obtain ⟨_,rfl,h46⟩:=h45
  obtain ⟨_,_,rfl,h47,h48⟩:=Cs_cons h46
  cases h47
  obtain ⟨_,_,rfl,h49,h50⟩:=Cs_cons h48
  obtain ⟨z51,f52,e53,rfl,h54⟩:=h49
  cases Cs_nil h50
  refine q (AV.tup [(J y43.1),(sl z51 f52 e53)]) ?_
  refine q (J y43.1) ?_
  refine q (sl z51 f52 e53) ?_
  refine aq (J y43.1) ?_
  refine aq (sl z51 f52 e53) ?_
  refine nl ?_
  refine AW.inBlock ?_
  refine AW.region ?_
  refine q (J i39) ?_
  refine q (J (IntKind.wrap .i64 (i39+1))) ?_
  refine aq (J (IntKind.wrap .i64 (i39+1))) ?_
  refine nl ?_
  cases h
  exact AW.res [(0,(eptr [(J c1.Stack),(J c1.Start),(sl z2 f3 e4),(sl z6 f7 e8),(sl z10 f11 e12),(sl z14 f15 e16),j18] 0)),(1,(J y43.1)),(2,(sl z51 f52 e53)),(3,(str w25)),(10,(J (IntKind.wrap .i64 (i39+1))))] [] ⟨rfl,rfl,rfl,rfl,rfl,trivial⟩ trivial (hL1 _ rfl (z51,f52,e53) _ _ h54)
 refine cF hc40 ?_
 refine AW.exit rfl ?_
 obtain ⟨r56,hm,hx⟩:=omap h
 clear h
 subst hx
 have hx:=hR1 _ rfl
 rw[hx] at hm
 have h:=hm
 exact AW.res [(1,(J state33)),(2,(sl z35 f36 e37))] [] ⟨rfl,rfl,trivial⟩ trivial (KJ32 (state33,stack34,z35,f36,e37) _ _ ⟨h38,h⟩)
end Go.Proofs.YtmahhacghgkigaaGreat.law
